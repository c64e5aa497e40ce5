import PyProof.Rows.All
import Wide.All
import OpenK.AllK
import Wide.FinOn
import HandS.ForMost
import HandS.More
import HandS.Wide
import HandS.Steps
import HandS.TupAny
import HandS.IsInst
import HandS.Defaults
import HandS.Head0
import HandS.Head1
import HandS.Head2
import HandS.HeadEnd
import HandS.HeadHook1
import HandS.HeadHook2
import HandS.Property
import HandS.Style
import KE.GoesMore
import KE.GoesEnum
import PySem.Challenge.RW_formsalike_k08_base64
set_option Elab.async false
set_option linter.all false
set_option maxRecDepth 100000
set_option maxHeartbeats 4000000
namespace Fa
open PySem PySem.Spec PyProof.Rows L2
abbrev FnP (K : PySem.W.Frag) (x qual : Str) (st : Stmt) (f : Addr) (fd : FuncData) : Prop := FunD K x qual (defArgs st) (defBody st) (defScope st) [] [] f fd
/-! ### a def that is called by its name -/
structure Cal (P : Program) (w : World) (K : PySem.W.Frag) (mg : Str → Option Value) (base : Heap) (k : Nat) (x : Str) (sp : Sp) : Prop where
  ex : ∃ (f : Addr) (fd : FuncData) (ps : List Str), FnOk P w K mg base CX0 k f fd ps sp ∧ mg x = some (.ref f) ∧ PySem.W.keepIn K (.ref f) = true ∧ Binds K fd ps []
section
variable {X : Cx} {k : Nat} {x : Str} {sp : Sp} {p pos : Pos} {e : Expr} {es : List Expr} {t : TA}
theorem pe_callC (c : Cal X.prog X.w X.K X.mg X.base k x sp) (hr : Room k X.A) (hg : Gl X x) (ha : PA X (e :: es) t) (hdb : (x == ("__debug__" : Str)) = false := by decide) (he : starEach (e :: es) X.env = (false, eval e X.env) :: starEach es X.env := by rfl) (hpl : (backTo pos (starEach es X.env)).any (·.1) = false := by rfl) :
    PE X (.Call (.Name x p) (e :: es) [] pos) (tCall sp [] E0 t) := by
  obtain ⟨f, fd, ps, F, m, kp, b⟩ := c.ex
  exact pe_call F hr hg m kp b .nil pass0 ha hdb he hpl
theorem pe_callC0 (c : Cal X.prog X.w X.K X.mg X.base k x sp) (hr : Room k X.A) (hg : Gl X x) (hdb : (x == ("__debug__" : Str)) = false := by decide) :
    PE X (.Call (.Name x p) [] [] pos) (tCall sp [] E0 tNil) := by
  obtain ⟨f, fd, ps, F, m, kp, b⟩ := c.ex
  exact pe_call0 F hr hg m kp b .nil pass0 hdb
theorem pe_globI {i : Int} (hg : Gl X x) (hm : ∃ t, X.mg x = some (.int i t)) (hd : (x == ("__debug__" : Str)) = false := by decide) : PE X (.Name x pos) (tC (.int i)) := by
  obtain ⟨t, m⟩ := hm
  exact pe_glob hg m ⟨t, rfl⟩ hd
theorem pe_globS {i : Str} (hg : Gl X x) (hm : ∃ t, X.mg x = some (.str i t)) (hd : (x == ("__debug__" : Str)) = false := by decide) : PE X (.Name x pos) (tC (.str i)) := by
  obtain ⟨t, m⟩ := hm
  exact pe_glob hg m ⟨t, rfl⟩ hd
theorem pe_globR {a : Addr} (hg : Gl X x) (m : X.mg x = some (.ref a)) (hd : (x == ("__debug__" : Str)) = false := by decide) : PE X (.Name x pos) (tC (.ref a)) := pe_glob hg m rfl hd
end
/-! ### operations by names -/
def rAddI : R2 := rI0 fun i j => .int (i + j)
def rSubI : R2 := rI0 fun i j => .int (i - j)
def rMulI : R2 := rI CMul fun i j => .int (i * j)
def rMulW : R2 := rI CMulW fun i j => .int (i * j)
def rDivI : R2 := rI CDiv fun i j => .int (i / j)
def rDivW : R2 := rI CDivW fun i j => .int (i / j)
def rModI : R2 := rI (fun _ j => 0 < j) fun i j => .int (i % j)
def rPowI : R2 := rI CPow fun i j => .int (i ^ j.toNat)
def rShlI : R2 := rI CPow fun i j => .int (i * 2 ^ j.toNat)
def rShrI : R2 := rI (fun _ j => 0 ≤ j) fun i j => .int (i / 2 ^ j.toNat)
def rAndI : R2 := rI0 fun i j => .int (Builtin.bitAnd i j)
def rLtI : R2 := rI0 fun i j => .bl (decide (i < j))
def rLeI : R2 := rI0 fun i j => .bl (decide (i ≤ j))
def rGtI : R2 := rI0 fun i j => .bl (decide (j < i))
def rGeI : R2 := rI0 fun i j => .bl (decide (j ≤ i))
def rNegI : V → Hp → VK → Prop := rU fun i => .int (-i)
def rAddS : R2 := fun x y H Q => ∃ i j, x = .str i ∧ y = .str j ∧ i.length + j.length ≤ sizeLine ∧ Q (.str (i ++ j)) H
def rLtS : R2 := fun x y H Q => ∃ i j, x = .str i ∧ y = .str j ∧ Q (.bl (decide (i.cps.toList < j.cps.toList))) H
def rAbs : List V → Hp → VK → Prop := fun xs H Q => ∃ i, xs = [.int i] ∧ Q (.int (if i < 0 then -i else i)) H
def rInt1 : List V → Hp → VK → Prop := fun xs H Q => (∃ i, xs = [.int i] ∧ Q (.int i) H) ∨ ∃ k, xs = [.bl k] ∧ Q (.int (if k then 1 else 0)) H
def rBool1 : List V → Hp → VK → Prop := fun xs H Q => (∃ i, xs = [.int i] ∧ Q (.bl (i != 0)) H) ∨ ∃ k, xs = [.bl k] ∧ Q (.bl k) H
def rStrI : List V → Hp → VK → Prop := fun xs H Q => ∃ i, xs = [.int i] ∧ i.natAbs.log2 < 1920 ∧ Q (.str (toString i)) H
def rOrd : List V → Hp → VK → Prop := fun xs H Q => ∃ x, xs = [.str x] ∧ x.length = 1 ∧ Q (.int (x.cps.getD 0 0 : Nat)) H
def rChr : List V → Hp → VK → Prop := fun xs H Q => ∃ i, xs = [.int i] ∧ 0 ≤ i ∧ i ≤ 1114111 ∧ Q (.str ⟨#[i.toNat]⟩) H
def rMax2 : List V → Hp → VK → Prop := fun xs H Q => ∃ i j, xs = [.int i, .int j] ∧ Q (.int (if j > i then j else i)) H
def rMin2 : List V → Hp → VK → Prop := fun xs H Q => ∃ i j, xs = [.int i, .int j] ∧ Q (.int (if j < i then j else i)) H
def rLenQ (K : PySem.W.Frag) : List V → Hp → VK → Prop := fun xs H Q => ∃ p ys, xs = [.ref p] ∧ (SqL K H p ys ∨ SqT K H p ys) ∧ Q (.int ys.length) H
def rLenS : List V → Hp → VK → Prop := fun xs H Q => ∃ z, xs = [.str z] ∧ z.length ≤ sizeLine ∧ Q (.int z.length) H
def rListOf (K : PySem.W.Frag) : List V → Hp → VK → Prop := fun xs H Q => ∃ p ys, xs = [.ref p] ∧ (SqL K H p ys ∨ SqT K H p ys) ∧ ∀ l, H l = none → Q (.ref l) (upd H l (.lst ys))
def rTupOf (K : PySem.W.Frag) : List V → Hp → VK → Prop := fun xs H Q => ∃ p ys, xs = [.ref p] ∧ ((SqL K H p ys ∧ ∀ l, H l = none → Q (.ref l) (upd H l (.tup ys))) ∨ (SqT K H p ys ∧ Q (.ref p) H))
/-! ### heaps -/
/-- all that was tracked, but for what stands in S, is as it was -/
def Keep (S : List Addr) (H H1 : Hp) : Prop := ∀ a o, a ∉ S → H a = some o → H1 a = some o
theorem Keep.refl {S : List Addr} (H : Hp) : Keep S H H := fun _ _ _ h => h
theorem Keep.trans {S : List Addr} {H H1 H2 : Hp} (a : Keep S H H1) (b : Keep S H1 H2) : Keep S H H2 := fun x o n h => b x o n (a x o n h)
theorem Keep.mono {S S' : List Addr} {H H1 : Hp} (a : Keep S H H1) (h : ∀ x, x ∈ S → x ∈ S') : Keep S' H H1 := fun x o n e => a x o (fun z => n (h x z)) e
theorem Keep.all {S : List Addr} {H H1 : Hp} (a : Keep [] H H1) : Keep S H H1 := a.mono (fun _ h => by cases h)
theorem Keep.new {S : List Addr} {H : Hp} {p : Addr} {o : HO} (h : H p = none) : Keep S H (upd H p o) := fun a u _ e => by
  rw [upd_ne (ne_of_none e h)]
  exact e
theorem Keep.put {S : List Addr} {H H1 : Hp} {p : Addr} {o : HO} (k : Keep S H H1) (h : p ∈ S ∨ H p = none) : Keep S H (upd H1 p o) := fun a u n e => by
  rcases h with h | h
  · rw [upd_ne (fun z => n (by rw [z]; exact h))]
    exact k a u n e
  · rw [upd_ne (ne_of_none e h)]
    exact k a u n e
theorem Keep.rd {S : List Addr} {H H1 : Hp} {a : Addr} {u : HO} (k : Keep S H H1) (n : a ∉ S) (h : Rd H a u) : Rd H1 a u := by
  rcases h with h | ⟨o, h⟩
  · exact .inl (k a _ n h)
  · exact .inr ⟨o, k a _ n h⟩
theorem Keep.sqL {S : List Addr} {K : PySem.W.Frag} {H H1 : Hp} {a : Addr} {xs : List V} (k : Keep S H H1) (n : a ∉ S) (h : SqL K H a xs) : SqL K H1 a xs := by
  rcases h with h | h
  · exact .inl (k.rd n h)
  · exact .inr h
theorem Keep.sqT {S : List Addr} {K : PySem.W.Frag} {H H1 : Hp} {a : Addr} {xs : List V} (k : Keep S H H1) (n : a ∉ S) (h : SqT K H a xs) : SqT K H1 a xs := by
  rcases h with h | h
  · exact .inl (k.rd n h)
  · exact .inr h
theorem Keep.fresh {S : List Addr} {H H1 : Hp} {a : Addr} (k : Keep S H H1) (n : a ∉ S) (h : H1 a = none) : H a = none := by
  cases e : H a with
  | none => rfl
  | some o =>
    rw [k a o n e] at h
    cases h
/-! ### to read a term forwards: one rule a construct -/
section
variable {K : PySem.W.Frag} {σ : L2.St} {H : Hp} {Q : VK} {D : Ends} {t u : TS} {te ta tb tc : TE} {tt tt2 : TT} {i j : Int} {n : Nat} {v x y : V} {r r2 : R2} {b : Bool} {ar : TA} {A B : Prop} {QT : Bool → Hp → Prop} {QA : List V → Hp → Prop}
theorem i_seq (h : t { D with nx := u D } σ H) : tSeq t u D σ H := h
theorem i_asg (h : te σ H fun x H1 => D.nx (σ.set n (some x)) H1) : tAsg te (gName n) D σ H := h
theorem i_asgG {g : TG} (h : te σ H fun x H1 => g x σ H1 D.nx) : tAsg te g D σ H := h
theorem i_ret (h : te σ H D.rt) : tRet te D σ H := h
theorem i_retN (h : D.rt .non H) : tRetN D σ H := h
theorem i_drop (h : te σ H fun _ H1 => D.nx σ H1) : tDrop te D σ H := h
theorem i_ifS (h : tt σ H fun b H1 => if b = true then t D σ H1 else u D σ H1) : tIfS tt t u D σ H := h
theorem i_next (h : D.nx σ H) : tNext D σ H := h
theorem i_cont (h : D.ct σ H) : tCont D σ H := h
theorem i_break (h : D.bk σ H) : tBreak D σ H := h
theorem i_var (e : σ[n]? = some (some v)) (h : Q v H) : tVar n σ H Q := ⟨v, e, h⟩
theorem i_c (h : Q v H) : tC v σ H Q := h
theorem i_op (h : ta σ H fun x H1 => tb σ H1 fun y H2 => r x y H2 Q) : tOp r ta tb σ H Q := h
theorem i_un {f : V → Hp → VK → Prop} (h : ta σ H fun x H1 => f x H1 Q) : tUn f ta σ H Q := h
theorem i_nil (h : QA [] H) : tNil σ H QA := h
theorem i_cons (h : ta σ H fun x H1 => ar σ H1 fun xs H2 => QA (x :: xs) H2) : tCons ta ar σ H QA := h
theorem i_call {sp : Sp} {E : XK} (h : ar σ H fun vs H1 => sp vs H1 Q E) : tCall sp [] E ar σ H Q := by
  show ar σ H fun vs H1 => sp (vs ++ []) H1 Q E
  simpa only [List.append_nil] using h
theorem i_cb {f : List V → Hp → VK → Prop} (h : ar σ H fun vs H1 => f vs H1 Q) : tCB f ar σ H Q := h
theorem i_test (h : ta σ H fun x H' => ∃ k, x = .bl k ∧ QT k H') : tTest ta σ H QT := h
theorem i_tB (h : ta σ H fun x H' => ∃ k, x = .bl k ∧ QT k H') : tB ta σ H QT := h
theorem i_bl (h : QT b H) : ∃ k, V.bl b = .bl k ∧ QT k H := ⟨b, rfl, h⟩
theorem i_and (h : tt σ H fun c H1 => if c = true then tt2 σ H1 QT else QT false H1) : tAnd tt tt2 σ H QT := h
theorem i_or (h : tt σ H fun c H1 => if c = true then QT true H1 else tt2 σ H1 QT) : tOr tt tt2 σ H QT := h
theorem i_not (h : tt σ H fun c H1 => QT (!c) H1) : tNot tt σ H QT := h
theorem i_andV (h : ta σ H fun x H1 => ∃ c, x = .bl c ∧ if c = true then tb σ H1 Q else Q (.bl false) H1) : tAndV ta tb σ H Q := h
theorem i_orV (h : ta σ H fun x H1 => ∃ c, x = .bl c ∧ if c = true then Q (.bl true) H1 else tb σ H1 Q) : tOrV ta tb σ H Q := h
theorem i_notV (h : ta σ H fun x H1 => ∃ c, x = .bl c ∧ Q (.bl (!c)) H1) : tNotV ta σ H Q := h
theorem i_chain (h : ta σ H fun x H1 => tb σ H1 fun y H2 => r x y H2 fun z H3 => ∃ k, z = .bl k ∧ (if k = true then tc σ H3 fun w' H4 => r2 y w' H4 Q else Q (.bl false) H3)) : tChain r r2 ta tb tc σ H Q := h
theorem i_if (h : tt σ H fun c H1 => if c = true then ta σ H1 Q else tb σ H1 Q) : tIf tt ta tb σ H Q := h
theorem i_ex {P : Bool → Prop} (h : P b) : ∃ c, V.bl b = .bl c ∧ P c := ⟨b, rfl, h⟩
theorem i_T (h : A) : if true = true then A else B := iteT h
theorem i_F (h : B) : if false = true then A else B := iteF h
theorem i_NT (h : B) : if (!true) = true then A else B := iteF h
theorem i_NF (h : A) : if (!false) = true then A else B := iteT h
theorem i_NN {c : Bool} (h : if c = true then A else B) : if (!!c) = true then A else B := by rw [Bool.not_not]; exact h
theorem i_NDT {c : Prop} [Decidable c] (h : ¬ c) (h1 : A) : if (!decide c) = true then A else B := by rw [decide_eq_false h]; exact iteT h1
theorem i_NDF {c : Prop} [Decidable c] (h : c) (h1 : B) : if (!decide c) = true then A else B := by rw [decide_eq_true h]; exact iteF h1
theorem i_D {c : Prop} [Decidable c] (h1 : c → A) (h2 : ¬ c → B) : if decide c = true then A else B := by
  by_cases h : c
  · rw [decide_eq_true h]; exact i_T (h1 h)
  · rw [decide_eq_false h]; exact i_F (h2 h)
theorem i_ND {c : Prop} [Decidable c] (h1 : ¬ c → A) (h2 : c → B) : if (!decide c) = true then A else B := by
  by_cases h : c
  · rw [decide_eq_true h]; exact i_F (h2 h)
  · rw [decide_eq_false h]; exact i_T (h1 h)
theorem i_DT {c : Prop} [Decidable c] (h : c) (h1 : A) : if decide c = true then A else B := by rw [decide_eq_true h]; exact i_T h1
theorem i_DF {c : Prop} [Decidable c] (h : ¬ c) (h1 : B) : if decide c = true then A else B := by rw [decide_eq_false h]; exact i_F h1
theorem i_B (c : Bool) (h1 : c = true → A) (h2 : c = false → B) : if c = true then A else B := by
  cases c
  · exact i_F (h2 rfl)
  · exact i_T (h1 rfl)
theorem i_add (h : Q (.int (i + j)) H) : rAddI (.int i) (.int j) H Q := ⟨i, j, rfl, rfl, h⟩
theorem i_sub (h : Q (.int (i - j)) H) : rSubI (.int i) (.int j) H Q := ⟨i, j, rfl, rfl, h⟩
theorem i_mul (c : CMul i j) (h : Q (.int (i * j)) H) : rMulI (.int i) (.int j) H Q := ⟨i, j, rfl, rfl, c, h⟩
theorem i_mulL (c : -(2 ^ 64) < i ∧ i < 2 ^ 64) (h : Q (.int (i * j)) H) : rMulI (.int i) (.int j) H Q := ⟨i, j, rfl, rfl, .inl c, h⟩
theorem i_mulR (c : -(2 ^ 64) < j ∧ j < 2 ^ 64) (h : Q (.int (i * j)) H) : rMulI (.int i) (.int j) H Q := ⟨i, j, rfl, rfl, .inr c, h⟩
theorem i_mulW (c : CMulW i j) (h : Q (.int (i * j)) H) : rMulW (.int i) (.int j) H Q := ⟨i, j, rfl, rfl, c, h⟩
theorem i_div (c : 0 < j ∧ j < 1073741824) (h : Q (.int (i / j)) H) : rDivI (.int i) (.int j) H Q := ⟨i, j, rfl, rfl, c, h⟩
theorem i_divW (c : CDivW i j) (h : Q (.int (i / j)) H) : rDivW (.int i) (.int j) H Q := ⟨i, j, rfl, rfl, c, h⟩
theorem i_mod (c : 0 < j) (h : Q (.int (i % j)) H) : rModI (.int i) (.int j) H Q := ⟨i, j, rfl, rfl, c, h⟩
theorem i_pow (c : 0 ≤ j ∧ j ≤ 1000000 ∧ i.natAbs < 2 ^ 64) (h : Q (.int (i ^ j.toNat)) H) : rPowI (.int i) (.int j) H Q := ⟨i, j, rfl, rfl, c, h⟩
theorem i_shl (c : 0 ≤ j ∧ j ≤ 1000000 ∧ i.natAbs < 2 ^ 64) (h : Q (.int (i * 2 ^ j.toNat)) H) : rShlI (.int i) (.int j) H Q := ⟨i, j, rfl, rfl, c, h⟩
theorem i_shr (c : 0 ≤ j) (h : Q (.int (i / 2 ^ j.toNat)) H) : rShrI (.int i) (.int j) H Q := ⟨i, j, rfl, rfl, c, h⟩
theorem i_band (h : Q (.int (Builtin.bitAnd i j)) H) : rAndI (.int i) (.int j) H Q := ⟨i, j, rfl, rfl, h⟩
theorem i_lt (h : Q (.bl (decide (i < j))) H) : rLtI (.int i) (.int j) H Q := ⟨i, j, rfl, rfl, h⟩
theorem i_le (h : Q (.bl (decide (i ≤ j))) H) : rLeI (.int i) (.int j) H Q := ⟨i, j, rfl, rfl, h⟩
theorem i_gt (h : Q (.bl (decide (j < i))) H) : rGtI (.int i) (.int j) H Q := ⟨i, j, rfl, rfl, h⟩
theorem i_ge (h : Q (.bl (decide (j ≤ i))) H) : rGeI (.int i) (.int j) H Q := ⟨i, j, rfl, rfl, h⟩
theorem i_neg (h : Q (.int (-i)) H) : rNegI (.int i) H Q := ⟨i, rfl, h⟩
theorem dV {i j : Int} : decide (V.int i = V.int j) = decide (i = j) := by
  rw [dec_int]
  exact Bool.beq_eq_decide_eq i j
theorem i_eqI (h : Q (.bl (decide (i = j))) H) : rEq (.int i) (.int j) H Q := ⟨rfl, by rw [dV]; exact h⟩
theorem i_neI (h : Q (.bl (!decide (i = j))) H) : rNe (.int i) (.int j) H Q := ⟨rfl, by rw [dV]; exact h⟩
theorem i_eqS {i j : Str} (h : Q (.bl (decide (i = j))) H) : rEq (.str i) (.str j) H Q := ⟨rfl, by
  have e : decide (V.str i = V.str j) = decide (i = j) := by
    by_cases q : i = j
    · rw [decide_eq_true q, decide_eq_true (congrArg V.str q)]
    · rw [decide_eq_false q, decide_eq_false fun z => q (V.str.inj z)]
  rw [e]; exact h⟩
theorem i_neS {i j : Str} (h : Q (.bl (!decide (i = j))) H) : rNe (.str i) (.str j) H Q := ⟨rfl, by
  have e : decide (V.str i = V.str j) = decide (i = j) := by
    by_cases q : i = j
    · rw [decide_eq_true q, decide_eq_true (congrArg V.str q)]
    · rw [decide_eq_false q, decide_eq_false fun z => q (V.str.inj z)]
  rw [e]; exact h⟩
theorem i_neB {i j : Bool} (h : Q (.bl (!decide (i = j))) H) : rNe (.bl i) (.bl j) H Q := ⟨rfl, by
  have e : decide (V.bl i = V.bl j) = decide (i = j) := by cases i <;> cases j <;> rfl
  rw [e]; exact h⟩
theorem i_eqB {i j : Bool} (h : Q (.bl (decide (i = j))) H) : rEq (.bl i) (.bl j) H Q := ⟨rfl, by
  have e : decide (V.bl i = V.bl j) = decide (i = j) := by cases i <;> cases j <;> rfl
  rw [e]; exact h⟩
theorem i_isN (h : Q (.bl (decide (v = .non))) H) : rIsN v .non H Q := ⟨rfl, h⟩
theorem i_notN (h : Q (.bl (!decide (v = .non))) H) : rNotN v .non H Q := ⟨rfl, h⟩
theorem i_abs (h : Q (.int (if i < 0 then -i else i)) H) : rAbs [.int i] H Q := ⟨i, rfl, h⟩
theorem i_int1 (h : Q (.int i) H) : rInt1 [.int i] H Q := .inl ⟨i, rfl, h⟩
theorem i_int1b (h : Q (.int (if b then 1 else 0)) H) : rInt1 [.bl b] H Q := .inr ⟨b, rfl, h⟩
theorem i_max2 (h : Q (.int (if j > i then j else i)) H) : rMax2 [.int i, .int j] H Q := ⟨i, j, rfl, h⟩
theorem i_strI (c : i.natAbs.log2 < 1920) (h : Q (.str (toString i)) H) : rStrI [.int i] H Q := ⟨i, rfl, c, h⟩
theorem i_lenL {p : Addr} {ys : List V} (c : SqL K H p ys) (h : Q (.int ys.length) H) : rLenQ K [.ref p] H Q := ⟨p, ys, rfl, .inl c, h⟩
theorem i_lenT {p : Addr} {ys : List V} (c : SqT K H p ys) (h : Q (.int ys.length) H) : rLenQ K [.ref p] H Q := ⟨p, ys, rfl, .inr c, h⟩
theorem i_ixL {p : Addr} {ys : List V} (c : SqL K H p ys) (a : atI ys i = some v) (h : Q v H) : rIxL K (.ref p) (.int i) H Q := ⟨p, ys, i, v, rfl, rfl, c, a, h⟩
theorem i_ixT {p : Addr} {ys : List V} (c : SqT K H p ys) (a : atI ys i = some v) (h : Q v H) : rIxT K (.ref p) (.int i) H Q := ⟨p, ys, i, v, rfl, rfl, c, a, h⟩
/-- a new object stands at p, all else is as it was -/
structure NewAt (H : Hp) (p : Addr) (o : HO) (H1 : Hp) : Prop where
  free : H p = none
  at_ : H1 p = some o
  keep : ∀ S, Keep S H H1
theorem NewAt.mk' {p : Addr} {o : HO} (h : H p = none) : NewAt H p o (upd H p o) := ⟨h, upd_same, fun _ => .new h⟩
theorem NewAt.sqL {p : Addr} {xs : List V} {H1 : Hp} (h : NewAt H p (.lst xs) H1) : SqL K H1 p xs := SqL.of h.at_
theorem NewAt.sqT {p : Addr} {xs : List V} {H1 : Hp} (h : NewAt H p (.tup xs) H1) : SqT K H1 p xs := SqT.of h.at_
def NewL (xs : List V) (H : Hp) (Q : VK) : Prop := xs.length ≤ sizeLine ∧ ∀ p, H p = none → Q (.ref p) (upd H p (.lst xs))
def NewT (xs : List V) (H : Hp) (Q : VK) : Prop := xs.length ≤ sizeLine ∧ ∀ p, H p = none → Q (.ref p) (upd H p (.tup xs))
theorem i_lst (h : ar σ H fun xs H1 => NewL xs H1 Q) : tLst ar σ H Q := h
theorem i_tup (h : ar σ H fun xs H1 => NewT xs H1 Q) : tTup ar σ H Q := h
theorem small_of {n : Nat} (h : n ≤ 1000000) : n ≤ sizeLine := Nat.le_trans h (by decide)
theorem small_lt {n : Nat} (h : n < 1000000) : n < sizeLine := Nat.lt_of_lt_of_le h (by decide)
theorem i_newL {xs : List V} (c : xs.length ≤ 1000000) (h : ∀ p H1, NewAt H p (.lst xs) H1 → Q (.ref p) H1) : NewL xs H Q := ⟨small_of c, fun p np => h p _ (.mk' np)⟩
theorem i_newT {xs : List V} (c : xs.length ≤ 1000000) (h : ∀ p H1, NewAt H p (.tup xs) H1 → Q (.ref p) H1) : NewT xs H Q := ⟨small_of c, fun p np => h p _ (.mk' np)⟩
theorem i_append {to : TE} (h : to σ H fun o H1 => tyV K "list" o H1 ∧ ar σ H1 fun ys H2 => rAppend o ys H2 Q) : tBM K "list" rAppend to ar σ H Q := h
theorem i_app {p : Addr} {xs : List V} (e : H p = some (.lst xs)) (c : xs.length < 1000000) (h : Q .non (upd H p (.lst (xs ++ [v])))) : rAppend (.ref p) [v] H Q := ⟨p, xs, v, rfl, rfl, e, small_lt c, h⟩
theorem i_extend {to : TE} (h : to σ H fun o H1 => tyV K "list" o H1 ∧ ar σ H1 fun ys H2 => rExtend o ys H2 Q) : tBM K "list" rExtend to ar σ H Q := h
theorem i_ext {p q : Addr} {xs zs : List V} (e : H p = some (.lst xs)) (e2 : H q = some (.lst zs)) (c : xs.length + zs.length ≤ 1000000) (h : Q .non (upd H p (.lst (xs ++ zs)))) : rExtend (.ref p) [.ref q] H Q := ⟨p, q, xs, zs, rfl, rfl, e, e2, small_of c, h⟩
theorem i_cat {p q : Addr} {xs zs : List V} (e : H p = some (.lst xs)) (e2 : H q = some (.lst zs)) (c : xs.length + zs.length ≤ 1000000) (h : ∀ r H1, NewAt H r (.lst (xs ++ zs)) H1 → Q (.ref r) H1) : rCat (.ref p) (.ref q) H Q := ⟨p, q, xs, zs, rfl, rfl, e, e2, small_of c, fun r nr => h r _ (.mk' nr)⟩
theorem i_tupL {p : Addr} {xs : List V} (e : SqL K H p xs) (h : ∀ r H1, NewAt H r (.tup xs) H1 → Q (.ref r) H1) : rTupOf K [.ref p] H Q := ⟨p, xs, rfl, .inl ⟨e, fun r nr => h r _ (.mk' nr)⟩⟩
theorem i_lstOf {p : Addr} {xs : List V} (e : SqL K H p xs ∨ SqT K H p xs) (h : ∀ r H1, NewAt H r (.lst xs) H1 → Q (.ref r) H1) : rListOf K [.ref p] H Q := ⟨p, xs, rfl, e, fun r nr => h r _ (.mk' nr)⟩
theorem i_lenQ {p : Addr} {ys : List V} (c : SqL K H p ys ∨ SqT K H p ys) (h : Q (.int ys.length) H) : rLenQ K [.ref p] H Q := ⟨p, ys, rfl, c, h⟩
theorem i_sl {f : V → Option Int → Option Int → Hp → VK → Prop} {tl th : TO} (h : te σ H fun x H1 => tl σ H1 fun l H2 => th σ H2 fun u H3 => f x l u H3 Q) : tSl f te tl th σ H Q := h
theorem i_noPart {QO : Option Int → Hp → Prop} (h : QO none H) : tNoPart σ H QO := h
theorem i_part {QO : Option Int → Hp → Prop} (h : te σ H fun x H1 => ∃ i, x = .int i ∧ QO (some i) H1) : tPart te σ H QO := h
theorem i_partI {P : Int → Prop} (h : P i) : ∃ j, V.int i = .int j ∧ P j := ⟨i, rfl, h⟩
theorem i_slL {p : Addr} {xs : List V} {lo hi : Option Int} (e : SqL K H p xs) (h : ∀ r H1, NewAt H r (.lst (cutV xs lo hi)) H1 → Q (.ref r) H1) : rSlL K (.ref p) lo hi H Q := ⟨p, xs, rfl, e, fun r nr => h r _ (.mk' nr)⟩
theorem cutV_to (xs : List V) (k : Nat) : cutV xs none (some (k : Int)) = xs.take k := by
  unfold cutV
  rw [HT.sIx_none, HT.sIx_nat]
  rw [List.drop_zero, Nat.sub_zero]
  by_cases c : k ≤ xs.length
  · rw [Nat.min_eq_left c]
  · rw [Nat.min_eq_right (by omega), List.take_length, List.take_of_length_le (by omega)]
theorem cutV_from (xs : List V) (k : Nat) : cutV xs (some (k : Int)) none = xs.drop k := by
  unfold cutV
  rw [HT.sIx_none, HT.sIx_nat]
  by_cases c : k ≤ xs.length
  · rw [Nat.min_eq_left c, List.take_of_length_le (by rw [List.length_drop]; omega)]
  · rw [Nat.min_eq_right (by omega), List.drop_length, List.drop_of_length_le (by omega)]
    simp
theorem i_max1 {a : Addr} {x y : Int} (h : SqL K H a [.int x, .int y]) (hq : Q (.int (max x y)) H) : rMax K [.ref a] H Q := by
  refine ⟨a, [x, y], rfl, h, Nat.succ_pos _, fun m hm hy => ?_⟩
  have h1 := hy x (by simp)
  have h2 := hy y (by simp)
  have e : m = max x y := by
    simp at hm
    omega
  rw [e]
  exact hq
theorem i_min1 {a : Addr} {x y : Int} (h : SqL K H a [.int x, .int y]) (hq : Q (.int (min x y)) H) : rMin K [.ref a] H Q := by
  refine ⟨a, [x, y], rfl, h, Nat.succ_pos _, fun m hm hy => ?_⟩
  have h1 := hy x (by simp)
  have h2 := hy y (by simp)
  have e : m = min x y := by
    simp at hm
    omega
  rw [e]
  exact hq
theorem i_gSub {to ti : TE} {ts : TSet} {QS : L2.St → Hp → Prop} (h : to σ H fun o H1 => ti σ H1 fun i H2 => ts o i v H2 fun H3 => QS σ H3) : gSub to ti ts v σ H QS := h
theorem i_gName {QS : L2.St → Hp → Prop} (h : QS (σ.set n (some v)) H) : gName n v σ H QS := h
theorem i_setL {p : Addr} {xs : List V} {k : Int} {j : Nat} {QH : Hp → Prop} (e : H p = some (.lst xs)) (c : ixN xs.length k = some j) (h : QH (upd H p (.lst (xs.set j v)))) : rSetL (.ref p) (.int k) v H QH := ⟨p, xs, k, j, rfl, rfl, e, c, h⟩
theorem ty_lst {p : Addr} {xs : List V} (e : H p = some (.lst xs)) : tyV K "list" (.ref p) H := .inl ⟨rfl, _, SqL.of e⟩
end
/-! ### loops -/
section
variable {K : PySem.W.Frag} {σ : L2.St} {H : Hp} {Q : VK} {D : Ends} {g : TG} {tb : TS} {ar : TA} {te tl : TE} {wi : TI} {tt : TT} {vs : List Nat} {a : Addr} {xs : List V}
def ForK (J : It) (g : TG) (tb : TS) (D : Ends) (σ : L2.St) (H1 : Hp) : Prop := ∃ W : Nat → Nat → L2.St → Hp → Prop, (∃ m, W 0 m σ H1) ∧ ∀ i m σ H, W i m σ H →
  (J.stop i H ∧ D.nx σ H) ∨ (J.go i H ∧ ∃ N : L2.St → Hp → Prop, (∀ σ' H', N σ' H' → ∃ m', m' < m ∧ W (i + 1) m' σ' H') ∧ ∀ x H', J.yld i H x H' → g x σ H' fun σ2 H2 => tb { D with nx := N, ct := N, bk := D.nx } σ2 H2)
theorem i_for (h : wi σ H fun J H1 => ForK J g tb D σ H1) : tFor wi g tb D σ H := h
def RngK1 (vs : List V) (H : Hp) (R : It → Hp → Prop) : Prop := ∃ j : Int, vs = [.int j] ∧ -(2 ^ 62) ≤ j ∧ j < 2 ^ 62 ∧ R (Itr 0 j.toNat) H
def RngK2 (vs : List V) (H : Hp) (R : It → Hp → Prop) : Prop := ∃ i j : Int, vs = [.int i, .int j] ∧ (-(2 ^ 62) ≤ i ∧ i < 2 ^ 62 ∧ -(2 ^ 62) ≤ j ∧ j < 2 ^ 62) ∧ R (Itr i (j - i).toNat) H
theorem i_rng1 {R : It → Hp → Prop} (h : ar σ H fun vs H1 => RngK1 vs H1 R) : iRng1 ar σ H R := h
theorem i_rng2 {R : It → Hp → Prop} (h : ar σ H fun vs H1 => RngK2 vs H1 R) : iRng2 ar σ H R := h
theorem i_rngK1 {R : It → Hp → Prop} {j : Int} (c : -(2 ^ 62) ≤ j ∧ j < 2 ^ 62) (h : R (Itr 0 j.toNat) H) : RngK1 [.int j] H R := ⟨j, rfl, c.1, c.2, h⟩
theorem i_rngK2 {R : It → Hp → Prop} {i j : Int} (c : -(2 ^ 62) ≤ i ∧ i < 2 ^ 62 ∧ -(2 ^ 62) ≤ j ∧ j < 2 ^ 62) (h : R (Itr i (j - i).toNat) H) : RngK2 [.int i, .int j] H R := ⟨i, j, rfl, c, h⟩
def ListK (K : PySem.W.Frag) (x : V) (H : Hp) (R : It → Hp → Prop) : Prop := ∃ a, x = .ref a ∧ (∃ xs, SqL K H a xs) ∧ R (Itl K a) H
def TupK (K : PySem.W.Frag) (x : V) (H : Hp) (R : It → Hp → Prop) : Prop := ∃ a, x = .ref a ∧ (∃ xs, SqT K H a xs) ∧ R (Itt K a) H
theorem i_list {R : It → Hp → Prop} (h : tl σ H fun x H1 => ListK K x H1 R) : iList K tl σ H R := h
theorem i_tupI {R : It → Hp → Prop} (h : tl σ H fun x H1 => TupK K x H1 R) : iTup K tl σ H R := h
theorem i_listK {R : It → Hp → Prop} (c : SqL K H a xs) (h : R (Itl K a) H) : ListK K (.ref a) H R := ⟨a, rfl, ⟨xs, c⟩, h⟩
theorem i_tupK {R : It → Hp → Prop} (c : SqT K H a xs) (h : R (Itt K a) H) : TupK K (.ref a) H R := ⟨a, rfl, ⟨xs, c⟩, h⟩
/-- for k in range(n) -/
theorem f_rng {n : Nat} (Pv : Nat → L2.St → Hp → Prop) (h0 : Pv 0 σ H)
    (hs : ∀ i σ H, i < n → Pv i σ H → g (.int (i : Int)) σ H fun σ2 H2 => tb { D with nx := Pv (i + 1), ct := Pv (i + 1), bk := D.nx } σ2 H2) (hd : ∀ σ H, Pv n σ H → D.nx σ H) : ForK (Itr 0 n) g tb D σ H :=
  for_range (lo := 0) Pv h0 (fun i σ H hi hp => by have z := hs i σ H hi hp; simpa using z) hd
theorem f_rngL {lo : Int} {n : Nat} (Pv : Nat → L2.St → Hp → Prop) (h0 : Pv 0 σ H)
    (hs : ∀ i σ H, i < n → Pv i σ H → g (.int (lo + i)) σ H fun σ2 H2 => tb { D with nx := Pv (i + 1), ct := Pv (i + 1), bk := D.nx } σ2 H2) (hd : ∀ σ H, Pv n σ H → D.nx σ H) : ForK (Itr lo n) g tb D σ H :=
  for_range (lo := lo) Pv h0 hs hd
theorem f_list (Pv : Nat → L2.St → Hp → Prop) (h0 : Pv 0 σ H) (hl : ∀ i σ H, i ≤ xs.length → Pv i σ H → SqL K H a xs)
    (hs : ∀ i x σ H, xs[i]? = some x → Pv i σ H → g x σ H fun σ2 H2 => tb { D with nx := Pv (i + 1), ct := Pv (i + 1), bk := D.nx } σ2 H2) (hd : ∀ σ H, Pv xs.length σ H → D.nx σ H) : ForK (Itl K a) g tb D σ H :=
  for_list (xs := xs) Pv h0 hl hs hd
theorem f_tup (Pv : Nat → L2.St → Hp → Prop) (h0 : Pv 0 σ H) (hl : ∀ i σ H, i ≤ xs.length → Pv i σ H → SqT K H a xs)
    (hs : ∀ i x σ H, xs[i]? = some x → Pv i σ H → g x σ H fun σ2 H2 => tb { D with nx := Pv (i + 1), ct := Pv (i + 1), bk := D.nx } σ2 H2) (hd : ∀ σ H, Pv xs.length σ H → D.nx σ H) : ForK (Itt K a) g tb D σ H :=
  for_tup (xs := xs) Pv h0 hl hs hd
/-- a comprehension; Pv: the turn, the list so far, the heap -/
def LcK (J : It) (g : TG) (tt : TT) (te : TE) (vs : List Nat) (σ : L2.St) (H1 : Hp) (Q : VK) : Prop := ∀ D, H1 D = none → ∃ W : Nat → Nat → Hp → Prop, (∃ m, W 0 m (upd H1 D (.lst []))) ∧ ∀ i m H, W i m H →
  (J.stop i H ∧ Q (.ref D) H) ∨ (J.go i H ∧ ∃ Nx : Hp → Prop, (∀ H', Nx H' → ∃ m', m' < m ∧ W (i + 1) m' H') ∧ ∀ x H', J.yld i H x H' → g x (wipe σ vs) H' fun σ2 H2 => wipe σ2 vs = wipe σ vs ∧ tt σ2 H2 fun b H3 =>
    if b = true then te σ2 H3 fun y H4 => ∃ acc, H4 D = some (.lst acc) ∧ acc.length < sizeLine ∧ Nx (upd H4 D (.lst (acc ++ [y]))) else Nx H3)
theorem i_lc (h : wi σ H fun J H1 => LcK J g tt te vs σ H1 Q) : tLc wi g tt te vs σ H Q := h
theorem i_yes {QT : Bool → Hp → Prop} (h : QT true H) : tYes σ H QT := h
/-- the end of a turn of a comprehension -/
theorem i_lcN {D : Addr} {acc : List V} {y : V} {N : Hp → Prop} (e : H D = some (.lst acc)) (c : acc.length < 1000000) (h : N (upd H D (.lst (acc ++ [y])))) : ∃ acc, H D = some (.lst acc) ∧ acc.length < sizeLine ∧ N (upd H D (.lst (acc ++ [y]))) := ⟨acc, e, small_lt c, h⟩
theorem c_rng {n : Nat} (Pv : Addr → Nat → Hp → Prop) (h0 : ∀ D, H D = none → Pv D 0 (upd H D (.lst [])))
    (hs : ∀ D i H1, H D = none → i < n → Pv D i H1 → g (.int (i : Int)) (wipe σ vs) H1 fun σ2 H2 => wipe σ2 vs = wipe σ vs ∧ tt σ2 H2 fun b H3 =>
      if b = true then te σ2 H3 fun y H4 => ∃ acc, H4 D = some (.lst acc) ∧ acc.length < sizeLine ∧ Pv D (i + 1) (upd H4 D (.lst (acc ++ [y]))) else Pv D (i + 1) H3)
    (hd : ∀ D H1, H D = none → Pv D n H1 → Q (.ref D) H1) : LcK (Itr 0 n) g tt te vs σ H Q := fun D hD =>
  lc_range (lo := 0) (Pv D) (h0 D hD) (fun i H1 hi hp => by
    have z := hs D i H1 hD hi hp
    have e : (0 : Int) + (i : Int) = i := by omega
    rw [e]
    exact z) (fun H1 hp => hd D H1 hD hp)
theorem c_list (Pv : Addr → Nat → Hp → Prop) (h0 : ∀ D, H D = none → Pv D 0 (upd H D (.lst []))) (hl : ∀ D i H1, H D = none → i ≤ xs.length → Pv D i H1 → SqL K H1 a xs)
    (hs : ∀ D i x H1, H D = none → xs[i]? = some x → Pv D i H1 → g x (wipe σ vs) H1 fun σ2 H2 => wipe σ2 vs = wipe σ vs ∧ tt σ2 H2 fun b H3 =>
      if b = true then te σ2 H3 fun y H4 => ∃ acc, H4 D = some (.lst acc) ∧ acc.length < sizeLine ∧ Pv D (i + 1) (upd H4 D (.lst (acc ++ [y]))) else Pv D (i + 1) H3)
    (hd : ∀ D H1, H D = none → Pv D xs.length H1 → Q (.ref D) H1) : LcK (Itl K a) g tt te vs σ H Q := fun D hD =>
  lc_list (xs := xs) (Pv D) (h0 D hD) (fun i H1 hi hp => hl D i H1 hD hi hp) (fun i x H1 hi hp => hs D i x H1 hD hi hp) (fun H1 hp => hd D H1 hD hp)
theorem c_tup (Pv : Addr → Nat → Hp → Prop) (h0 : ∀ D, H D = none → Pv D 0 (upd H D (.lst []))) (hl : ∀ D i H1, H D = none → i ≤ xs.length → Pv D i H1 → SqT K H1 a xs)
    (hs : ∀ D i x H1, H D = none → xs[i]? = some x → Pv D i H1 → g x (wipe σ vs) H1 fun σ2 H2 => wipe σ2 vs = wipe σ vs ∧ tt σ2 H2 fun b H3 =>
      if b = true then te σ2 H3 fun y H4 => ∃ acc, H4 D = some (.lst acc) ∧ acc.length < sizeLine ∧ Pv D (i + 1) (upd H4 D (.lst (acc ++ [y]))) else Pv D (i + 1) H3)
    (hd : ∀ D H1, H D = none → Pv D xs.length H1 → Q (.ref D) H1) : LcK (Itt K a) g tt te vs σ H Q := fun D hD =>
  lc_tup (xs := xs) (Pv D) (h0 D hD) (fun i H1 hi hp => hl D i H1 hD hi hp) (fun i x H1 hi hp => hs D i x H1 hD hi hp) (fun H1 hp => hd D H1 hD hp)
end

/-! ### the head's facts: any that a program decides over the written part -/
abbrev Fx : Type := PySem.W.Frag → Bool
/-- a def: where it stands, its name, qualified name, parameters, body, scope, defaults -/
structure DefX where
  adr : PySem.W.Frag → Addr
  name : Str
  qual : Str
  params : Arguments
  body : List Stmt
  scope : Scope
  dfl : List He.Dv := []
def dX (adr : PySem.W.Frag → Addr) (name qual : Str) (st : Stmt) (dfl : List He.Dv := []) : DefX := ⟨adr, name, qual, defArgs st, defBody st, defScope st, dfl⟩
def fnX (K : PySem.W.Frag) (a : Addr) : He.FnW := match K.lookup a with
  | some ⟨_, _, .func fd, _⟩ => some (fd.name, fd.qualname, fd.params, fd.body, fd.scope, fd.globals, fd.closure, fd.builtins)
  | _ => none
def DefX.val (d : DefX) : He.FnW := some (d.name, d.qual, d.params, .stmts d.body, d.scope, mainGlobals, [], builtinsNs)
def DefX.dvs (K : PySem.W.Frag) (d : DefX) : List V := d.dfl.map (He.Dv.v K)
def DefX.ok (K : PySem.W.Frag) (d : DefX) : Bool := PySem.W.keepIn K (.ref (d.adr K)) && (match K.lookup (d.adr K) with
  | some ⟨_, _, .func fd, _⟩ => PySem.W.codeIn K fd.code d.qual && He.dflB K fd.defaults (d.dvs K)
  | _ => false)
theorem DefX.funD {K : PySem.W.Frag} {d : DefX} (e : fnX K (d.adr K) = d.val) (c : d.ok K = true) : ∃ fd, FunD K d.name d.qual d.params d.body d.scope (d.dvs K) [] (d.adr K) fd := by
  obtain ⟨kp, c2⟩ := He.ba c
  unfold fnX at e
  cases q : K.lookup (d.adr K) with
  | none =>
    rw [q] at c2
    cases c2
  | some o =>
    obtain ⟨oc, od, dt, osl⟩ := o
    rw [q] at c2 e
    cases dt with
    | func fd =>
      obtain ⟨n1, n2, n3, n4, n5, n6, n7, n8, n9, n10, n11, n12, n13, n14, n15⟩ := fd
      have e2 : (some (n1, n2, n3, n4, n5, n6, n7, n15) : He.FnW) = some (d.name, d.qual, d.params, .stmts d.body, d.scope, mainGlobals, [], builtinsNs) := e
      simp only [Option.some.injEq, Prod.mk.injEq] at e2
      obtain ⟨h1, h2, h3, h4, h5, h6, h7, h8⟩ := e2
      subst h1 h2 h3 h4 h5 h6 h7 h8
      obtain ⟨k1, k2⟩ := He.ba (show (PySem.W.codeIn K n13 d.qual && He.dflB K n8 (d.dvs K)) = true from c2)
      exact ⟨_, ⟨oc, od, n8, n9, n10, n11, n12, n13, n14, osl, rfl, q, k1, He.dflB_ok k2, .inl rfl⟩, kp⟩
    | _ => cases c2
abbrev AlX : Type := Bool × List He.FnW
def obsX (fs : List Fx) (fn : List DefX) (K : PySem.W.Frag) : AlX := ((fs.all fun f => f K) && fn.all fun d => d.ok K, fn.map fun d => fnX K (d.adr K))
def valX (fn : List DefX) : AlX := (true, fn.map DefX.val)
def SaysX (fs : List Fx) (fn : List DefX) (K : PySem.W.Frag) : Prop := obsX fs fn K = valX fn
/-- what the module's names reach, and the statics -/
def asX (n : Nat) (g : Addr → Option Obj) : List Addr := He.asD g n ++ [cStatics]
def obsXG (n : Nat) (fs : List Fx) (fn : List DefX) (g : Addr → Option Obj) : AlX := obsX fs fn (He.frG g (asX n g))
def hookX (n : Nat) (fs : List Fx) (fn : List DefX) : PySem.W.Hook where
  α := AlX
  obs := fun s => obsXG n fs fn s.heap.get?
  val := fun _ => valX fn
  says := fun _ h => ∃ K : PySem.W.Frag, K.In h ∧ SaysX fs fn K
  of := fun _ _ e => ⟨_, He.frG_in, e⟩
  keeps := fun _ _ _ ⟨K, hK, c⟩ k => ⟨K, PySem.W.Frag.In.keeps hK k, c⟩
theorem obsXG_eq {n : Nat} {fs : List Fx} {fn : List DefX} {g : Addr → Option Obj} {s : Shared} (h : ∀ a, g a = s.heap.get? a) : obsXG n fs fn g = (hookX n fs fn).obs s := by
  have e : g = s.heap.get? := funext h
  rw [e] <;> rfl
section
variable {fs : List Fx} {fn : List DefX} {K : PySem.W.Frag}
theorem SaysX.fact (c : SaysX fs fn K) (i : Nat) {f : Fx} (h : fs[i]? = some f := by rfl) : f K = true := by
  have c1 := (He.ba (show ((fs.all fun f => f K) && fn.all fun d => d.ok K) = true from congrArg (fun z : AlX => z.1) c)).1
  exact List.all_eq_true.mp c1 f (List.mem_of_getElem? h)
theorem SaysX.def_ (c : SaysX fs fn K) (i : Nat) {d : DefX} (h : fn[i]? = some d := by rfl) : ∃ fd, FunD K d.name d.qual d.params d.body d.scope (d.dvs K) [] (d.adr K) fd := by
  have c2 := (He.ba (show ((fs.all fun f => f K) && fn.all fun d => d.ok K) = true from congrArg (fun z : AlX => z.1) c)).2
  have e : fn.map (fun d => fnX K (d.adr K)) = fn.map DefX.val := congrArg (fun z : AlX => z.2) c
  have e2 : (fn.map fun d => fnX K (d.adr K))[i]? = (fn.map DefX.val)[i]? := by rw [e]
  rw [List.getElem?_map, List.getElem?_map, h] at e2
  exact DefX.funD (Option.some.inj e2) (List.all_eq_true.mp c2 d (List.mem_of_getElem? h))
end
/-! ### facts -/
def fFa (f : He.Fa) : Fx := fun K => f.ok K
def gA (x : Str) : PySem.W.Frag → Addr := fun K => He.ga K x
def mA (C m : Str) : PySem.W.Frag → Addr := fun K => He.ma K (He.ga K C) m
/-- the getter of a property -/
def pA (C m : Str) : PySem.W.Frag → Addr := fun K => match PySem.W.recIn K (mA C m K) "property" with
  | some (.ref g :: _) => g
  | _ => 0
def propB (C m : Str) : Fx := fun K => decide (PySem.W.findIn K (.ref (gA C K)) m = some (some (.ref (mA C m K)))) && (decide (PySem.W.specialIn K (.ref (mA C m K)) "__get__" = some (some (.builtin "property.__get__"))) && (decide (PySem.W.takesIn K (.ref (mA C m K)) = some true) &&
  (match PySem.W.recIn K (mA C m K) "property" with
  | some (.ref _ :: _) => true
  | _ => false)))
theorem propB_ok {K : PySem.W.Frag} {C m : Str} (h : propB C m K = true) : PropOf K (gA C K) m (mA C m K) (pA C m K) := by
  obtain ⟨h1, h⟩ := He.ba h
  obtain ⟨h2, h⟩ := He.ba h
  obtain ⟨h3, h4⟩ := He.ba h
  refine ⟨of_decide_eq_true h1, of_decide_eq_true h2, of_decide_eq_true h3, ?_⟩
  unfold pA
  cases q : PySem.W.recIn K (mA C m K) "property" with
  | none =>
    rw [q] at h4
    cases h4
  | some l =>
    rw [q] at h4
    match l, h4 with
    | .ref g :: r, _ => exact ⟨r, rfl⟩
/-! ### written constants: tuples at any depth -/
inductive Lit where
  | non | bl (b : Bool) | int (i : Int) | str (x : Str) | tup (ls : List Lit)
mutual
def litB (K : PySem.W.Frag) : Value → Lit → Bool
  | .none, .non => true
  | .bool b, .bl c => b == c
  | .int i _, .int j => decide (i = j)
  | .str x _, .str y => decide (x = y)
  | .ref a, .tup ls => (match K.lookup a with
    | some ⟨.type c, _, .seq its _, _⟩ => decide (c = "tuple") && (decide (its.size ≤ sizeLine) && litsB K its.toList ls)
    | _ => false)
  | _, _ => false
def litsB (K : PySem.W.Frag) : List Value → List Lit → Bool
  | [], [] => true
  | v :: vs, l :: ls => litB K v l && litsB K vs ls
  | _, _ => false
end
mutual
/-- v is, in the written part, the constant -/
def LitIs (K : PySem.W.Frag) : V → Lit → Prop
  | v, .non => v = .non
  | v, .bl b => v = .bl b
  | v, .int i => v = .int i
  | v, .str x => v = .str x
  | v, .tup ls => ∃ a xs, v = .ref a ∧ (∀ H, SqT K H a xs) ∧ LitsAre K xs ls
def LitsAre (K : PySem.W.Frag) : List V → List Lit → Prop
  | xs, [] => xs = []
  | xs, l :: ls => ∃ y ys, xs = y :: ys ∧ LitIs K y l ∧ LitsAre K ys ls
end
mutual
theorem litB_ok {K : PySem.W.Frag} : ∀ {l : Lit} {u : Value}, litB K u l = true → ∃ v, RelV v u ∧ LitIs K v l
  | .non, u, h => by
    cases u <;> first | exact ⟨.non, rfl, rfl⟩ | (simp [litB] at h)
  | .bl b, u, h => by
    cases u with
    | bool c =>
      have e : c = b := by simpa [litB] using h
      subst e
      exact ⟨.bl c, rfl, rfl⟩
    | _ => simp [litB] at h
  | .int i, u, h => by
    cases u with
    | int c t =>
      have e : c = i := by simpa [litB] using h
      subst e
      exact ⟨.int c, ⟨t, rfl⟩, rfl⟩
    | _ => simp [litB] at h
  | .str i, u, h => by
    cases u with
    | str c t =>
      have e : c = i := by simpa [litB] using h
      subst e
      exact ⟨.str c, ⟨t, rfl⟩, rfl⟩
    | _ => simp [litB] at h
  | .tup ls, u, h => by
    cases u with
    | ref a =>
      unfold litB at h
      cases q : K.lookup a with
      | none =>
        rw [q] at h
        cases h
      | some o =>
        obtain ⟨oc, od, dt, osl⟩ := o
        rw [q] at h
        cases oc with
        | type c =>
          cases dt with
          | seq its n =>
            obtain ⟨h1, h2⟩ := He.ba (show (decide (c = "tuple") && (decide (its.size ≤ sizeLine) && litsB K its.toList ls)) = true from h)
            obtain ⟨h3, h4⟩ := He.ba h2
            obtain ⟨xs, hv, hl⟩ := litsB_ok h4
            refine ⟨.ref a, rfl, a, xs, rfl, fun H => .inr ⟨_, its, n, q, congrArg Value.type (of_decide_eq_true h1), rfl, ?_⟩, hl⟩
            first | exact ⟨of_decide_eq_true h3, hv⟩ | exact ⟨rfl, of_decide_eq_true h3, hv⟩
          | _ => cases h
        | _ => cases dt <;> cases h
    | _ => simp [litB] at h
theorem litsB_ok {K : PySem.W.Frag} : ∀ {ls : List Lit} {us : List Value}, litsB K us ls = true → ∃ vs, Vals vs us ∧ LitsAre K vs ls
  | [], us, h => by
    cases us with
    | nil => exact ⟨[], .nil, rfl⟩
    | cons => simp [litsB] at h
  | l :: ls, us, h => by
    cases us with
    | nil => simp [litsB] at h
    | cons u us =>
      obtain ⟨h1, h2⟩ := He.ba (show (litB K u l && litsB K us ls) = true by simpa [litsB] using h)
      obtain ⟨v, r, i⟩ := litB_ok h1
      obtain ⟨vs, rs, is⟩ := litsB_ok h2
      exact ⟨v :: vs, .cons r rs, v, vs, rfl, i, is⟩
end
/-- the module's name x stands for the constant -/
def constB (x : Str) (l : Lit) : Fx := fun K => match PySem.W.nsIn K mainGlobals x with
  | some (some u) => litB K u l
  | _ => false
theorem const_ok {K : PySem.W.Frag} {h : Heap} {mg : Str → Option Value} (X : K.In h) (G : h.Ns mainGlobals mg) {x : Str} {l : Lit} (c : constB x l K = true) : ∃ v u, mg x = some u ∧ RelV v u ∧ LitIs K v l := by
  unfold constB at c
  cases q : PySem.W.nsIn K mainGlobals x with
  | none =>
    rw [q] at c
    cases c
  | some o =>
    rw [q] at c
    cases o with
    | none => cases c
    | some u =>
      obtain ⟨v, r, i⟩ := litB_ok (show litB K u l = true from c)
      exact ⟨v, u, PySem.W.mg_of X G q, r, i⟩

/-! ### classes: the attributes' names in order, a row of values -/
structure Kls (K : PySem.W.Frag) (x : Str) (ns : List Str) : Prop where
  cl : Cls K (gA x K)
  na : ∀ f ∈ ns, NoAttr K (gA x K) f
  nd : ns.Nodup
def klsB (x : Str) (ns : List Str) : Fx := fun K => (He.Fa.cls x).ok K && ((ns.all fun f => (He.Fa.noat x f).ok K) && decide ns.Nodup)
theorem klsB_ok {K : PySem.W.Frag} {x : Str} {ns : List Str} (h : klsB x ns K = true) : Kls K x ns := by
  obtain ⟨h1, h⟩ := He.ba h
  obtain ⟨h2, h3⟩ := He.ba h
  exact ⟨He.cls_ok h1, fun f hf => He.noat_ok (List.all_eq_true.mp h2 f hf), of_decide_eq_true h3⟩
structure CalA (P : Program) (w : World) (K : PySem.W.Frag) (mg : Str → Option Value) (base : Heap) (k : Nat) (a : Addr) (sp : Sp) : Prop where
  ex : ∃ (fd : FuncData) (ps : List Str), FnOk P w K mg base CX0 k a fd ps sp ∧ Binds K fd ps []
theorem zip_lookup {x : Str} {v : V} : ∀ {ns : List Str} {vs : List V} {i : Nat}, ns.Nodup → ns[i]? = some x → vs[i]? = some v → (ns.zip vs).lookup x = some v
  | [], _, _, _, h, _ => by simp at h
  | n :: ns, [], i, _, _, h => by simp at h
  | n :: ns, u :: vs, 0, hn, h, e => by
    obtain rfl : n = x := by simpa using h
    obtain rfl : u = v := by simpa using e
    simp [List.lookup]
  | n :: ns, u :: vs, i + 1, hn, h, e => by
    obtain ⟨h1, h2⟩ := List.nodup_cons.mp hn
    have h' : ns[i]? = some x := by simpa using h
    have ne : (x == n) = false := beq_eq_false_iff_ne.mpr fun z => h1 (z ▸ List.mem_of_getElem? h')
    show (match x == n with
      | true => some u
      | false => (ns.zip vs).lookup x) = some v
    rw [ne]
    exact zip_lookup h2 h' (by simpa using e)
theorem zip_none {x : Str} : ∀ {ns : List Str} {vs : List V}, x ∉ ns → (ns.zip vs).lookup x = none
  | [], _, _ => by simp
  | n :: ns, [], _ => by simp
  | n :: ns, u :: vs, h => by
    have ne : (x == n) = false := beq_eq_false_iff_ne.mpr fun z => h (by simp [z])
    show (match x == n with
      | true => some u
      | false => (ns.zip vs).lookup x) = none
    rw [ne]
    exact zip_none fun z => h (by simp [z])
theorem zip_put {x : Str} {v : V} : ∀ {ns : List Str} {vs : List V} {i : Nat}, ns.Nodup → ns[i]? = some x → i < vs.length → putF x v (ns.zip vs) = ns.zip (vs.set i v)
  | [], _, _, _, h, _ => by simp at h
  | n :: ns, [], i, _, _, h => by simp at h
  | n :: ns, u :: vs, 0, hn, h, e => by
    obtain rfl : n = x := by simpa using h
    simp [putF]
  | n :: ns, u :: vs, i + 1, hn, h, e => by
    obtain ⟨h1, h2⟩ := List.nodup_cons.mp hn
    have h' : ns[i]? = some x := by simpa using h
    have ne : ¬ n = x := fun z => h1 (by rw [z]; exact List.mem_of_getElem? h')
    show (if n = x then (n, v) :: ns.zip vs else (n, u) :: putF x v (ns.zip vs)) = _
    rw [if_neg ne, zip_put h2 h' (by simpa using e)]
    rfl
theorem zip_add {x : Str} {v : V} : ∀ {ns : List Str} {vs : List V}, ns.Nodup → ns[vs.length]? = some x → putF x v (ns.zip vs) = ns.zip (vs ++ [v])
  | [], _, _, h => by simp at h
  | n :: ns, [], hn, h => by
    obtain rfl : n = x := by simpa using h
    simp [putF]
  | n :: ns, u :: vs, hn, h => by
    obtain ⟨h1, h2⟩ := List.nodup_cons.mp hn
    have h' : ns[vs.length]? = some x := by simpa using h
    have ne : ¬ n = x := fun z => h1 (by rw [z]; exact List.mem_of_getElem? h')
    show (if n = x then (n, v) :: ns.zip vs else (n, u) :: putF x v (ns.zip vs)) = _
    rw [if_neg ne, zip_add h2 h']
    rfl
section
variable {K : PySem.W.Frag} {σ : L2.St} {H : Hp} {Q : VK} {D : Ends} {ta tv : TE} {ar : TA} {x f m : Str} {ns : List Str} {vs : List V} {v y : V} {p dx C : Addr} {sp : Sp}
def FldK (K : PySem.W.Frag) (x : V) (f : Str) (H1 : Hp) (Q : VK) : Prop := ∃ a C dx fs v, x = .ref a ∧ H1 a = some (.ins C dx fs) ∧ Cls K C ∧ NoAttr K C f ∧ fs.lookup f = some v ∧ Q v H1
theorem i_fld (h : ta σ H fun x H1 => FldK K x f H1 Q) : tFld K ta f σ H Q := h
theorem i_fldK (k : Kls K x ns) (e : H p = some (.ins (gA x K) dx (ns.zip vs))) (i : Nat) (hf : ns[i]? = some f) (hv : vs[i]? = some v) (h : Q v H) : FldK K (.ref p) f H Q :=
  ⟨p, _, dx, _, v, rfl, e, k.cl, k.na f (List.mem_of_getElem? hf), zip_lookup k.nd hf hv, h⟩
def PutK (K : PySem.W.Frag) (x y : V) (f : Str) (H2 : Hp) (R : Hp → Prop) : Prop := ∃ a C dx fs, x = .ref a ∧ H2 a = some (.ins C dx fs) ∧ Cls K C ∧ NoAttr K C f ∧ fs.length < 1000 ∧ R (upd H2 a (.ins C dx (putF f y fs)))
theorem i_sfld (h : tv σ H fun y H1 => ta σ H1 fun x H2 => PutK K x y f H2 fun H3 => D.nx σ H3) : sFld K ta tv f D σ H := h
theorem i_putK {R : Hp → Prop} (k : Kls K x ns) (e : H p = some (.ins (gA x K) dx (ns.zip vs))) (i : Nat) (hf : ns[i]? = some f) (hi : i < vs.length) (hl : ns.length ≤ 900) (h : R (upd H p (.ins (gA x K) dx (ns.zip (vs.set i y))))) : PutK K (.ref p) y f H R := by
  refine ⟨p, _, dx, _, rfl, e, k.cl, k.na f (List.mem_of_getElem? hf), ?_, ?_⟩
  · rw [List.length_zip]; omega
  · rw [zip_put k.nd hf hi]; exact h
theorem i_putN {R : Hp → Prop} (k : Kls K x ns) (e : H p = some (.ins (gA x K) dx (ns.zip vs))) (hf : ns[vs.length]? = some f) (hl : ns.length ≤ 900) (h : R (upd H p (.ins (gA x K) dx (ns.zip (vs ++ [y]))))) : PutK K (.ref p) y f H R := by
  refine ⟨p, _, dx, _, rfl, e, k.cl, k.na f (List.mem_of_getElem? hf), ?_, ?_⟩
  · rw [List.length_zip]; omega
  · rw [zip_add k.nd hf]; exact h
def MethK (C : Addr) (m : Str) (sp : Sp) (x : V) (ar : TA) (σ : L2.St) (H1 : Hp) (Q : VK) : Prop := ∃ a dx fs, x = .ref a ∧ H1 a = some (.ins C dx fs) ∧ fs.lookup m = none ∧ ar σ H1 fun vs H2 => sp (x :: (vs ++ [])) H2 Q E0
theorem i_meth (h : ta σ H fun x H1 => MethK C m sp x ar σ H1 Q) : tMeth C m sp [] E0 ta ar σ H Q := h
theorem i_methK (e : H p = some (.ins C dx (ns.zip vs))) (hm : m ∉ ns) (h : ar σ H fun vs H2 => sp (.ref p :: vs) H2 Q E0) : MethK C m sp (.ref p) ar σ H Q :=
  ⟨p, dx, _, rfl, e, zip_none hm, by simpa only [List.append_nil] using h⟩
theorem i_prop (h : ta σ H fun x H1 => ∃ a dx fs, x = .ref a ∧ H1 a = some (.ins C dx fs) ∧ sp [.ref a] H1 Q E0) : tProp C sp [] E0 ta σ H Q := h
theorem i_propK {fs : List (Str × V)} (e : H p = some (.ins C dx fs)) (h : sp [.ref p] H Q E0) : ∃ a dx fs, V.ref p = .ref a ∧ H a = some (.ins C dx fs) ∧ sp [.ref a] H Q E0 := ⟨p, dx, fs, rfl, e, h⟩
def MakeK (C : Addr) (sp : Sp) (vs : List V) (H1 : Hp) (Q : VK) : Prop := ∀ x dx, H1 x = none → H1 dx = none → dx ≠ x → sp (.ref x :: vs) (upd (upd H1 dx (.own x)) x (.ins C dx [])) (fun v H2 => v = .non ∧ Q (.ref x) H2) E0
theorem i_make (h : ar σ H fun vs H1 => MakeK C sp vs H1 Q) : tMake C sp [] E0 ar σ H Q := by
  show ar σ H fun vs H1 => MakeK C sp (vs ++ []) H1 Q
  simpa only [List.append_nil] using h
/-- a new instance: what was stands -/
theorem i_makeK {us : List V} (ns : List Str) (h : ∀ p dx H1, H p = none → H1 p = some (.ins C dx (ns.zip [])) → (∀ S, Keep S H H1) → sp (.ref p :: us) H1 (fun v H2 => v = .non ∧ Q (.ref p) H2) E0) : MakeK C sp us H Q := fun p dx hp hdx ne => by
  refine h p dx _ hp (by rw [upd_same, List.zip_nil_right]) fun S => ?_
  exact ((Keep.refl H).put (.inr hdx)).put (.inr hp)
/-! targets of several names -/
theorem i_gTup {n : Nat} {t : TGs} {QS : L2.St → Hp → Prop} (c : SqT K H p vs) (hl : vs.length = n) (h : t vs σ H QS) : gTup K n t (.ref p) σ H QS := ⟨p, vs, rfl, c, hl, h⟩
theorem i_gCons {t : TG} {u : TGs} {QS : L2.St → Hp → Prop} (h : t v σ H fun σ' H' => u vs σ' H' QS) : gCons t u (v :: vs) σ H QS := ⟨v, vs, rfl, h⟩
theorem i_gNil {QS : L2.St → Hp → Prop} (h : QS σ H) : gNil [] σ H QS := ⟨rfl, h⟩
theorem i_isB {a b : Bool} (h : Q (.bl (decide (a = b))) H) : rIsB (.bl a) (.bl b) H Q := ⟨a, b, rfl, rfl, h⟩
theorem i_notB {a b : Bool} (h : Q (.bl (!decide (a = b))) H) : rNotB (.bl a) (.bl b) H Q := ⟨a, b, rfl, rfl, h⟩
end
theorem const_tup {K : PySem.W.Frag} {h : Heap} {mg : Str → Option Value} (X : K.In h) (G : h.Ns mainGlobals mg) {x : Str} {ls : List Lit} (c : constB x (.tup ls) K = true) : mg x = some (.ref (He.ga K x)) ∧ LitIs K (.ref (He.ga K x)) (.tup ls) := by
  unfold constB at c
  cases q : PySem.W.nsIn K mainGlobals x with
  | none =>
    rw [q] at c
    cases c
  | some o =>
    rw [q] at c
    cases o with
    | none => cases c
    | some u =>
      obtain ⟨v, r, i⟩ := litB_ok (show litB K u (.tup ls) = true from c)
      obtain ⟨a, xs, e, h1, h2⟩ := id i
      subst e
      obtain rfl : u = Value.ref a := r
      have e : He.ga K x = a := by unfold He.ga; rw [q]
      rw [e]
      exact ⟨PySem.W.mg_of X G q, i⟩

/-! ### enumerate over a tuple; a list or a tuple walked -/
set_option maxHeartbeats 2000000 in
theorem meets_enum1 {v : Value} {ob : Obj} {Hc : Heap → Prop} (B : Begins v ob Hc) :
    Meets (Builtin.«enumerate.__new__» ⟨[.type "enumerate", v], []⟩) (fun _ R s => Hc s.heap ∧
      R (.ok (.ret (.ref (s.heap.push ob).objs.size))) { s with heap := (s.heap.push ob).push { cls := .type "enumerate", data := .fields #[.none, .bool false, .ref s.heap.objs.size, rawInt 0, .none, .none] } }) :=
  .of_wp fun pr wd A R s hh => by
    obtain ⟨hp, g, d, tk, os⟩ := s
    obtain ⟨hc, hh⟩ := hh
    have hsub := sub_enumerate
    have go : ∀ {A' : Around} {E : Value → Shared → Prop} {Q : Value → Shared → Prop}, Q (.ref hp.objs.size) ⟨hp.push ob, g, d, tk, os⟩ → wpAny (model pr wd) A' (pyIter v) Q E ⟨hp, g, d, tk, os⟩ := fun q => B.iter pr wd _ _ ⟨hp, g, d, tk, os⟩ _ hc q
    wp_walk using go
    refine wpAny_stack_any fun st => wpAny_pure ?_
    split
    · rename_i cc _ _ _ _ _
      cases (cc == Value.type "enumerate") <;> (wp_walk using go; exact ⟨_, rfl, hh⟩)
    · (wp_walk using go; exact ⟨_, rfl, hh⟩)
theorem call_enum1 {prog : Program} {w : World} {A : Around} {E : Value → Shared → Prop} {s : Shared} {v : Value} {ob : Obj} {Hc : Heap → Prop} {Q : Value → Shared → Prop} (B : Begins v ob Hc) (hc : Hc s.heap)
    (k : ∀ h', IsEnum h' (s.heap.objs.size + 1) s.heap.objs.size 0 .none → h'.get? s.heap.objs.size = some ob → (∀ b u, s.heap.get? b = some u → h'.get? b = some u) → Q (.ref (s.heap.objs.size + 1)) { s with heap := h' }) :
    wpAny (model prog w) A (call (.type "enumerate") [v]) Q E s := by
  refine callType_new F.called_enumerate (by decide) (F.typeCall_enumerate_1 _) (F.newCall_enumerate_1 _) (fun z => F.args_object_init_2 z _) F.entry_enumerate_new (meets_enum1 B) ⟨hc, ?_⟩
  have sz : (s.heap.push ob).objs.size = s.heap.objs.size + 1 := Heap.size_push ..
  show _ ∧ _
  rw [sz]
  have en : IsEnum ((s.heap.push ob).push { cls := .type "enumerate", data := .fields #[.none, .bool false, .ref s.heap.objs.size, rawInt 0, .none, .none] }) (s.heap.objs.size + 1) s.heap.objs.size 0 .none := by
    have z := Heap.get?_push_size (s.heap.push ob) (o := { cls := .type "enumerate", data := .fields #[.none, .bool false, .ref s.heap.objs.size, rawInt 0, .none, .none] }) rfl
    rw [sz] at z
    exact z
  exact ⟨⟨_, en, rfl⟩, k _ en (Heap.get?_push_of_some _ (Heap.get?_push_size _ B.free)) fun b u x => Heap.get?_push_of_some _ (Heap.get?_push_of_some _ x)⟩
theorem enum_endT {prog : Program} {w : World} {A : Around} {E : Value → Shared → Prop} {s : Shared} {e it a : Addr} {c : Int} {i : Nat} {its : Array Value} {old : Value} {Q : Option Value → Shared → Prop} (hh : A.handled = none) (he : IsEnum s.heap e it c old)
    (hit : s.heap.IsTupleIter it a i) (ht : s.heap.IsTuple a its) (hx : its[i]? = none) (k : ∀ h', Heap.ExtBut it s.heap h' → Q none { s with heap := h' }) : wpAny (model prog w) A (pyNext (.ref e)) Q E s := by
  have ty : s.TypeIs (.ref e) "enumerate" := ⟨_, he, rfl⟩
  unfold pyNext
  refine wpAny_bind (wpAny_attempt (wpAny_callSpecial?_slot (name := Str.ofString "__next__") ty F.slot_enumerate_next (wpAny_call_entry F.slot_enumerate_next ty F.entry_enumerate_next ?_ (F.args_enumerate_next_1 _))))
  show wpAny _ _ (field (.ref e) 2 >>= _) _ _ _
  refine wpAny_bind (wpAny_field he rfl (x := .ref it) rfl (wpAny_bind (wpAny_nextOf_tuple_end hh hit ht hx fun h' z ex st => ?_)))
  obtain ⟨o, ho, hc⟩ := st
  exact wpAny_bind (wpAny_isInstance (T := "StopIteration") (b := true) ⟨o, ho, hc⟩ isSubtype_stop (wpAny_pure (k _ ex)))
/-- the tuple at a as it stands at each turn, each item in a new pair -/
def IteT (K : PySem.W.Frag) (a : Addr) : It :=
  ⟨fun i H => ∃ (xs : List V) (x : V), SqT K H a xs ∧ xs[i]? = some x, fun i H v H' => ∃ T x, v = .ref T ∧ H T = none ∧ H' = upd H T (.tup [.int (i : Nat), x]) ∧ ∀ xs, SqT K H a xs → xs[i]? = some x, fun i H => ∃ xs : List V, SqT K H a xs ∧ xs.length ≤ i⟩
theorem turn_enumT {P : Program} {w : World} {K : PySem.W.Frag} {elts : List Expr} {kk : Nat} {tpos : Pos} (a e it : Addr) (hae : a ≠ e) (hai : a ≠ it) :
    Turn P w K (.Tuple elts kk tpos) (IteT K a) [e, it] e (fun i h => (∃ old, IsEnum h e it ((i : Nat) : Int) old) ∧ h.IsTupleIter it a i ∧ e ≠ it) where
  mem := by simp
  obj := fun i h st b hb => by
    obtain ⟨⟨old, he⟩, ⟨o, ho, hc, hd⟩, _⟩ := st
    rcases (show b = e ∨ b = it by simpa using hb) with rfl | rfl
    · exact ⟨_, he, fun v q => nomatch q⟩
    · exact ⟨o, ho, fun v q => by rw [hd] at q; cases q⟩
  keep := fun i h h' st k => by
    obtain ⟨⟨old, he⟩, hi, hne⟩ := st
    exact ⟨⟨old, k e (by simp) _ he⟩, hi.at fun o q => k it (by simp) o q, hne⟩
  item := by
    intro X hP hw hK hc i pins s σ H E I hf st hg
    subst hP hw hK
    obtain ⟨⟨old, he⟩, hit, hne⟩ := st
    obtain ⟨xs, x, hq, hx⟩ := hg
    obtain ⟨its, rv, p, hz⟩ := I.tuple hq
    obtain ⟨u, hu, ru⟩ := rv.get hx
    have tup : s.heap.IsTuple a its.toArray := p
    have lte : e < s.heap.objs.size := Heap.lt_size he
    have lti : it < s.heap.objs.size := by obtain ⟨_, q, _⟩ := hit; exact Heap.lt_size q
    have hlt : i < its.toArray.size := by
      have z := (List.getElem?_eq_some_iff.mp hu).1
      simpa using z
    refine wpAny_pyNext_enum_itemD (Draws.tuple (A := X.A.in1) (I.ok.hd hc) it a hai its.toArray) he ⟨hit, tup⟩ hlt hne (by simp [hne, hae.symm]) fun x' h' tk hx' ho st' hT hsz hk => ?_
    obtain rfl : x' = u := by
      have z : its[i]? = some x' := by simpa using hx'
      rw [hu] at z
      exact (Option.some.inj z).symm
    refine ⟨_, rfl, wpAny_letOwnedTupleGo_enum (s := { s with heap := h', toks := tk + 1 }) ho fun h'' he' sb => ?_⟩
    have hT2 := (sb.2 _ (Nat.ne_of_gt lte)).trans hT
    have new : ObjOk X.prog X.w (upd H s.heap.objs.size (.tup [.int (i : Nat), x])) h'' s.heap.objs.size (.tup [.int (i : Nat), x]) :=
      ⟨small_of (by show 2 ≤ 1000000; decide), _, .cons ⟨_, rfl⟩ (.cons ru .nil), ⟨_, hT2, rfl, _, rfl⟩⟩
    have far : ∀ b, b ∈ [e, it] → b < s.heap.objs.size := fun b hb => by
      rcases (show b = e ∨ b = it by simpa using hb) with rfl | rfl
      · exact lte
      · exact lti
    have I1 : Inv X pins σ (upd H s.heap.objs.size (.tup [.int (i : Nat), x])) { s with heap := h'', toks := tk + 1 } :=
      I.turnedNew (ch := [e, it]) (fun b ob hb q => (sb.2 b (fun z => hb (by simp [z]))).trans (hk b ob (fun z => hb (by simp [z])) (fun z => hb (by simp [z])) q)) hf (Nat.le_refl _) new
    refine ⟨.ref s.heap.objs.size, _, I1, rfl, ⟨_, x, rfl, I.hok.fresh (Nat.le_refl _), rfl, fun ys hy => by rw [I.tuple_inj hy hq]; exact hx⟩, ⟨⟨x', ?_⟩, st'.1.at fun o q => (sb.2 it (Ne.symm hne)).trans q, hne⟩, fun b hb => ?_⟩
    · have z : ((i + 1 : Nat) : Int) = (i : Int) + 1 := by omega
      rw [z]
      exact he'
    · rw [upd_ne (Nat.ne_of_lt (far b hb))]
      exact (hf b hb).1
  done := by
    intro X hP hw hK hc i pins s σ H E I hf st hg
    subst hP hw hK
    obtain ⟨⟨old, he⟩, hit, hne⟩ := st
    obtain ⟨xs, hq, hx⟩ := hg
    obtain ⟨its, rv, p, hz⟩ := I.tuple hq
    have tup : s.heap.IsTuple a its.toArray := p
    obtain ⟨f0, f1, f2, f3, f4, f5⟩ := hf it (by simp)
    have hl := rv.length
    exact enum_endT (I.ok.hd hc) he hit tup (by simp; omega) fun h' eb => ⟨rfl, I.turned (t' := s.toks) (fun b o hb q => eb b o hb q) f0 f1 f3 f4 f5⟩
  self := fun A i s Q E st h => let ⟨⟨_, he⟩, _⟩ := st; wpAny_pyIter_enum he h
/-- what a for walks: one way or another -/
theorem PI.or {X : Cx} {tg e : Expr} {wi wj : TI} (h1 : PI X tg e wi) (h2 : PI X tg e wj) : PI X tg e (fun σ H R => wi σ H R ∨ wj σ H R) := ⟨fun pins s σ H R I h => by
  rcases h with h | h
  · exact h1.run pins s σ H R I h
  · exact h2.run pins s σ H R I h⟩
def iSeq (K : PySem.W.Frag) (tl : TE) : TI := fun σ H R => iList K tl σ H R ∨ iTup K tl σ H R
theorem pi_seq {X : Cx} {tg l : Expr} {tl : TE} (hl : PE X l tl) : PI X tg l (iSeq X.K tl) := PI.or (pi_list hl) (pi_tup hl)
def iEnumT (K : PySem.W.Frag) (ta : TA) : TI := fun σ H R => ta σ H fun vs H1 => ∃ a xs, vs = [.ref a] ∧ SqT K H1 a xs ∧ R (IteT K a) H1
theorem pi_enumT {X : Cx} {e : Expr} {ta : TA} {p pos tpos : Pos} {elts : List Expr} {kk : Nat} (hg : Gl X "enumerate") (hm : X.mg "enumerate" = none) (ha : PA X [e] ta) (hs : starEach [e] X.env = [(false, eval e X.env)] := by rfl) :
    PI X (.Tuple elts kk tpos) (.Call (.Name "enumerate" p) [e] [] pos) (iEnumT X.K ta) := by
  refine ⟨fun pins s σ H R I h => ?_⟩
  refine Call_ (ld_blt I hg hm boot_enumerate (PyProof.Rows.callWith_type1 (thn (ha.run pos pins s σ H _ I h) fun us s1 ⟨vs, H1, I1, r1, a, xs, ex, hq, q⟩ => ?_) hs rfl))
  subst ex
  cases r1 with
  | cons r rr =>
    cases rr
    cases r
    obtain ⟨its, rv, p', hz⟩ := I1.tuple hq
    have tup : s1.heap.IsTuple a its.toArray := p'
    have lta : a < s1.heap.objs.size := by obtain ⟨_, q, _⟩ := tup; exact Heap.lt_size q
    refine call_enum1 (begins_tuple a its.toArray) tup fun h' he hit hk => wpAny_pyIter_enum he ?_
    have I2 : Inv X pins σ H1 { s1 with heap := h' } := I1.kept (t' := s1.toks) hk
    refine ⟨s1.heap.objs.size + 1, [s1.heap.objs.size + 1, s1.heap.objs.size], _, _, H1, rfl, I2, turn_enumT a (s1.heap.objs.size + 1) s1.heap.objs.size (Nat.ne_of_lt (Nat.lt_succ_of_lt lta)) (Nat.ne_of_lt lta), ⟨⟨.none, he⟩, ⟨_, hit, rfl, rfl⟩, Nat.succ_ne_self _⟩, fun b hb => ?_, q⟩
    have le : s1.heap.objs.size ≤ b := by
      rcases (show b = s1.heap.objs.size + 1 ∨ b = s1.heap.objs.size by simpa using hb) with z | z
      · rw [z]; exact Nat.le_add_right _ _
      · rw [z]; exact Nat.le_refl _
    exact I1.fpOk le (I1.hok.fresh le)
def iEnumQ (K : PySem.W.Frag) (ta : TA) : TI := fun σ H R => iEnum K ta σ H R ∨ iEnumT K ta σ H R
theorem pi_enumQ {X : Cx} {e : Expr} {ta : TA} {p pos tpos : Pos} {elts : List Expr} {kk : Nat} (hg : Gl X "enumerate") (hm : X.mg "enumerate" = none) (ha : PA X [e] ta) (hs : starEach [e] X.env = [(false, eval e X.env)] := by rfl) :
    PI X (.Tuple elts kk tpos) (.Call (.Name "enumerate" p) [e] [] pos) (iEnumQ X.K ta) := PI.or (pi_enum hg hm ha hs) (pi_enumT hg hm ha hs)
section
variable {K : PySem.W.Frag} {σ : L2.St} {H H0 : Hp} {D : Ends} {g : TG} {tb : TS} {a : Addr} {xs : List V} {S : List Addr} {n : Nat}
/-- a walk of a list or a tuple that stays -/
theorem i_seqFor (e : σ[n]? = some (some (.ref a))) (hq : SqL K H0 a xs ∨ SqT K H0 a xs) (na : a ∉ S) (Pv : Nat → L2.St → Hp → Prop) (hk : ∀ i σ H1, Pv i σ H1 → Keep S H0 H1) (h0 : Pv 0 σ H)
    (hs : ∀ i x σ H1, xs[i]? = some x → Pv i σ H1 → g x σ H1 fun σ2 H2 => tb { D with nx := Pv (i + 1), ct := Pv (i + 1), bk := D.nx } σ2 H2) (hd : ∀ σ H1, Pv xs.length σ H1 → D.nx σ H1) : tFor (iSeq K (tVar n)) g tb D σ H := by
  rcases hq with h | h
  · exact .inl ⟨_, e, a, rfl, ⟨xs, (hk 0 σ H h0).sqL na h⟩, for_list Pv h0 (fun i σ H1 _ hp => (hk i σ H1 hp).sqL na h) hs hd⟩
  · exact .inr ⟨_, e, a, rfl, ⟨xs, (hk 0 σ H h0).sqT na h⟩, for_tup Pv h0 (fun i σ H1 _ hp => (hk i σ H1 hp).sqT na h) hs hd⟩
theorem i_enumFor (e : σ[n]? = some (some (.ref a))) (hq : SqL K H0 a xs ∨ SqT K H0 a xs) (na : a ∉ S) (Pv : Nat → L2.St → Hp → Prop) (hk : ∀ i σ H1, Pv i σ H1 → Keep S H0 H1) (h0 : Pv 0 σ H)
    (hs : ∀ i x σ H1 T H2, xs[i]? = some x → Pv i σ H1 → NewAt H1 T (.tup [.int (i : Nat), x]) H2 → g (.ref T) σ H2 fun σ2 H3 => tb { D with nx := Pv (i + 1), ct := Pv (i + 1), bk := D.nx } σ2 H3) (hd : ∀ σ H1, Pv xs.length σ H1 → D.nx σ H1) : tFor (iEnumQ K (tCons (tVar n) tNil)) g tb D σ H := by
  rcases hq with h | h
  · refine .inl ⟨_, e, a, xs, rfl, (hk 0 σ H h0).sqL na h, ?_⟩
    refine ⟨fun i m σ H1 => m = xs.length - i ∧ i ≤ xs.length ∧ Pv i σ H1, ⟨xs.length, by simp, Nat.zero_le _, h0⟩, ?_⟩
    rintro i m σ H1 ⟨rfl, hi, p⟩
    have q := (hk i σ H1 p).sqL na h
    by_cases hlt : i < xs.length
    · refine .inr ⟨⟨xs, xs[i], q, by simp [hlt]⟩, Pv (i + 1), fun σ' H' p' => ⟨xs.length - (i + 1), by omega, rfl, hlt, p'⟩, fun x H' y => ?_⟩
      obtain ⟨T, z, rfl, hT, rfl, hz⟩ := y
      exact hs i z σ H1 T _ (hz xs q) p (.mk' hT)
    · obtain rfl : i = xs.length := by omega
      exact .inl ⟨⟨xs, q, Nat.le_refl _⟩, hd σ H1 p⟩
  · refine .inr ⟨_, e, a, xs, rfl, (hk 0 σ H h0).sqT na h, ?_⟩
    refine ⟨fun i m σ H1 => m = xs.length - i ∧ i ≤ xs.length ∧ Pv i σ H1, ⟨xs.length, by simp, Nat.zero_le _, h0⟩, ?_⟩
    rintro i m σ H1 ⟨rfl, hi, p⟩
    have q := (hk i σ H1 p).sqT na h
    by_cases hlt : i < xs.length
    · refine .inr ⟨⟨xs, xs[i], q, by simp [hlt]⟩, Pv (i + 1), fun σ' H' p' => ⟨xs.length - (i + 1), by omega, rfl, hlt, p'⟩, fun x H' y => ?_⟩
      obtain ⟨T, z, rfl, hT, rfl, hz⟩ := y
      exact hs i z σ H1 T _ (hz xs q) p (.mk' hT)
    · obtain rfl : i = xs.length := by omega
      exact .inl ⟨⟨xs, q, Nat.le_refl _⟩, hd σ H1 p⟩
end

local macro_rules | `(tactic| walk_at "s1") => `(tactic| first
  | with_reducible refine i_seq ?_
  | with_reducible refine i_asg ?_
  | ((with_reducible refine i_var (v := ?kv) ?ke ?kh); (case ke => rfl))
  | with_reducible refine i_c ?_
  | with_reducible refine i_op ?_
  | with_reducible refine i_un ?_
  | with_reducible refine i_cons ?_
  | with_reducible refine i_nil ?_
  | with_reducible refine i_call ?_
  | with_reducible refine i_cb ?_
  | with_reducible refine i_test ?_
  | with_reducible refine i_tB ?_
  | with_reducible refine i_ex ?_
  | with_reducible refine i_ifS ?_
  | with_reducible refine i_T ?_
  | with_reducible refine i_F ?_
  | with_reducible refine i_NT ?_
  | with_reducible refine i_NF ?_
  | with_reducible refine i_NN ?_
  | with_reducible refine i_ret ?_
  | with_reducible refine i_retN ?_
  | with_reducible refine i_drop ?_
  | with_reducible refine i_next ?_
  | with_reducible refine i_and ?_
  | with_reducible refine i_or ?_
  | with_reducible refine i_not ?_
  | with_reducible refine i_andV ?_
  | with_reducible refine i_orV ?_
  | with_reducible refine i_notV ?_
  | with_reducible refine i_chain ?_
  | with_reducible refine i_if ?_
  | with_reducible refine i_lst ?_
  | with_reducible refine i_tup ?_
  | with_reducible refine i_append ?_
  | with_reducible refine i_extend ?_
  | with_reducible refine i_sl ?_
  | with_reducible refine i_noPart ?_
  | with_reducible refine i_part ?_
  | with_reducible refine i_partI ?_
  | with_reducible refine i_asgG ?_
  | with_reducible refine i_gSub ?_
  | with_reducible refine i_for ?_
  | with_reducible refine i_rng1 ?_
  | with_reducible refine i_rng2 ?_
  | with_reducible refine i_list ?_
  | with_reducible refine i_tupI ?_
  | with_reducible refine i_lc ?_
  | with_reducible refine i_yes ?_
  | ((with_reducible refine i_rngK1 ?_ ?_); (first | decide | omega))
  | ((with_reducible refine i_rngK2 ?_ ?_); (first | decide | omega))
  | with_reducible refine i_gName ?_
  | with_reducible refine i_add ?_
  | with_reducible refine i_sub ?_
  | with_reducible refine i_lt ?_
  | with_reducible refine i_le ?_
  | with_reducible refine i_gt ?_
  | with_reducible refine i_ge ?_
  | with_reducible refine i_neg ?_
  | with_reducible refine i_eqI ?_
  | with_reducible refine i_neI ?_
  | with_reducible refine i_neB ?_
  | with_reducible refine i_eqB ?_
  | with_reducible refine i_eqS ?_
  | with_reducible refine i_neS ?_
  | with_reducible refine i_isN ?_
  | with_reducible refine i_notN ?_
  | with_reducible refine i_abs ?_
  | with_reducible refine i_int1 ?_
  | with_reducible refine i_int1b ?_
  | with_reducible refine i_max2 ?_
  | with_reducible refine i_band ?_
  | ((with_reducible refine i_div ?_ ?_); (first | decide | omega))
  | ((with_reducible refine i_mod ?_ ?_); (first | decide | omega))
  | ((with_reducible refine i_pow ?_ ?_); (first | decide | omega))
  | ((with_reducible refine i_mulL ?_ ?_); (first | decide | omega))
  | ((with_reducible refine i_mulR ?_ ?_); (first | decide | omega))
  | ((with_reducible refine i_newL ?_ ?_); (exact Nat.le_of_ble_eq_true rfl))
  | ((with_reducible refine i_newT ?_ ?_); (exact Nat.le_of_ble_eq_true rfl)))
local macro_rules | `(tactic| walk_at "go") => `(tactic| repeat (walk_at "s1"))
local macro_rules | `(tactic| walk_at "D") => `(tactic| first
  | ((with_reducible apply i_D); all_goals intro)
  | ((with_reducible apply i_ND); all_goals intro)
  | ((with_reducible apply i_B); all_goals intro))
local macro_rules | `(tactic| walk_at "s1") => `(tactic| first
  | with_reducible refine i_fld ?_
  | with_reducible refine i_sfld ?_
  | with_reducible refine i_meth ?_
  | with_reducible refine i_prop ?_
  | with_reducible refine i_make ?_
  | with_reducible refine i_gCons ?_
  | with_reducible refine i_gNil ?_
  | with_reducible refine i_isB ?_
  | with_reducible refine i_notB ?_)
/-! ### base64: the mathematics -/
def worthZ (o : Int) : Int := if 65 ≤ o ∧ o ≤ 90 then o - 65 else if 97 ≤ o ∧ o ≤ 122 then o - 71 else if 48 ≤ o ∧ o ≤ 57 then o + 4 else if o = 43 then 62 else if o = 47 then 63 else -1
def alZ (d : Int) : Int := if d < 26 then d + 65 else if d < 52 then d + 71 else if d < 62 then d - 4 else if d = 62 then 43 else 47
def digitsS : Str := "ABCDEFGHIJKLMNOPQRSTUVWXYZabcdefghijklmnopqrstuvwxyz0123456789+/"
theorem digits_at : ∀ n : Nat, n < 64 → digitsS.cps.toList[n]? = some (alZ (n : Int)).toNat := by decide +kernel
theorem digits_len : digitsS.cps.size = 64 := by decide +kernel
theorem worth_al {d : Int} (h : 0 ≤ d ∧ d < 64) : worthZ (alZ d) = d := by
  unfold alZ worthZ
  repeat' split
  all_goals omega
theorem al_pos {d : Int} (h : 0 ≤ d ∧ d < 64) : 0 ≤ alZ d ∧ alZ d ≤ 255 ∧ alZ d ≠ 61 := by
  unfold alZ
  repeat' split
  all_goals omega
theorem al_worth {o : Int} (h : 0 ≤ worthZ o) : worthZ o < 64 ∧ alZ (worthZ o) = o := by
  unfold worthZ at h ⊢
  unfold alZ
  refine ⟨?_, ?_⟩
  · repeat' split
    all_goals omega
  · repeat' split
    all_goals omega
/-- the machine -/
structure B64 where
  oct : List Int
  d : Int
  p : Int
  b : Int
  r : Int
def b64new : B64 := ⟨[], 0, 0, 0, 0⟩
def b64pad (m : B64) : Option B64 := if m.d % 4 + m.p < 2 ∨ m.d % 4 + m.p > 3 ∨ m.r ≠ 0 then none else some { m with p := m.p + 1 }
def b64put (m : B64) (w : Int) : B64 := if m.b + 6 ≥ 8 then ⟨m.oct ++ [(m.r * 64 + w) / 2 ^ (m.b + 6 - 8).toNat], m.d + 1, m.p, m.b + 6 - 8, (m.r * 64 + w) % 2 ^ (m.b + 6 - 8).toNat⟩ else ⟨m.oct, m.d + 1, m.p, m.b + 6, m.r * 64 + w⟩
def b64take (m : B64) (o : Int) : Option B64 := if o = 61 then b64pad m else if worthZ o < 0 ∨ m.p > 0 then none else some (b64put m (worthZ o))
def b64feed (m : B64) (o : Int) : B64 := (b64take m o).getD m
/-- digits and pads, group by group -/
def enc64 : List Int → List Int
  | [] => []
  | [a] => [alZ (a / 4), alZ (a % 4 * 16), 61, 61]
  | [a, b] => [alZ (a / 4), alZ (a % 4 * 16 + b / 16), alZ (b % 16 * 4), 61]
  | a :: b :: c :: t => alZ (a / 4) :: alZ (a % 4 * 16 + b / 16) :: alZ (b % 16 * 4 + c / 64) :: alZ (c % 64) :: enc64 t
def okO (o : Int) : Prop := 0 ≤ o ∧ o < 256
theorem feed_dig {m : B64} {w : Int} (h : 0 ≤ w ∧ w < 64) (hp : m.p = 0) : b64feed m (alZ w) = b64put m w := by
  have h1 := al_pos h
  unfold b64feed b64take
  rw [if_neg h1.2.2, worth_al h, if_neg (by omega)]
  rfl
theorem p0 : (2 : Int) ^ (0 : Nat) = 1 := rfl
theorem put0 {m : B64} {w : Int} (h : m.b = 0) : b64put m w = ⟨m.oct, m.d + 1, m.p, 6, m.r * 64 + w⟩ := by
  unfold b64put
  rw [if_neg (by omega), h]
  rfl
theorem put6 {m : B64} {w : Int} (h : m.b = 6) : b64put m w = ⟨m.oct ++ [(m.r * 64 + w) / 16], m.d + 1, m.p, 4, (m.r * 64 + w) % 16⟩ := by
  unfold b64put
  rw [if_pos (by omega), h]
  rfl
theorem put4 {m : B64} {w : Int} (h : m.b = 4) : b64put m w = ⟨m.oct ++ [(m.r * 64 + w) / 4], m.d + 1, m.p, 2, (m.r * 64 + w) % 4⟩ := by
  unfold b64put
  rw [if_pos (by omega), h]
  rfl
theorem put2 {m : B64} {w : Int} (h : m.b = 2) : b64put m w = ⟨m.oct ++ [m.r * 64 + w], m.d + 1, m.p, 0, 0⟩ := by
  unfold b64put
  rw [if_pos (by omega), h]
  have e : (2 : Int) ^ ((2 : Int) + 6 - 8).toNat = 1 := rfl
  rw [e, Int.ediv_one, Int.emod_one]
  rfl
theorem d6 {oc : List Int} {d p r w : Int} (h : 0 ≤ w ∧ w < 64) (hp : p = 0) : b64feed ⟨oc, d, p, 6, r⟩ (alZ w) = ⟨oc ++ [(r * 64 + w) / 16], d + 1, p, 4, (r * 64 + w) % 16⟩ := by rw [feed_dig h hp, put6 rfl]
theorem d4 {oc : List Int} {d p r w : Int} (h : 0 ≤ w ∧ w < 64) (hp : p = 0) : b64feed ⟨oc, d, p, 4, r⟩ (alZ w) = ⟨oc ++ [(r * 64 + w) / 4], d + 1, p, 2, (r * 64 + w) % 4⟩ := by rw [feed_dig h hp, put4 rfl]
theorem d2 {oc : List Int} {d p r w : Int} (h : 0 ≤ w ∧ w < 64) (hp : p = 0) : b64feed ⟨oc, d, p, 2, r⟩ (alZ w) = ⟨oc ++ [r * 64 + w], d + 1, p, 0, 0⟩ := by rw [feed_dig h hp, put2 rfl]
theorem feed_all : ∀ {os : List Int} {m : B64}, (∀ o ∈ os, okO o) → m.d % 4 = 0 → m.p = 0 → m.b = 0 → m.r = 0 → ((enc64 os).foldl b64feed m).oct = m.oct ++ os ∧ (((enc64 os).foldl b64feed m).d + ((enc64 os).foldl b64feed m).p) % 4 = 0
  | [], m, _, hd, hp, _, _ => by
    show m.oct = m.oct ++ [] ∧ (m.d + m.p) % 4 = 0
    rw [List.append_nil]
    exact ⟨rfl, by omega⟩
  | [a], m, h, hd, hp, hb, hr => by
    have ha := h a (by simp)
    unfold okO at ha
    show (b64feed (b64feed (b64feed (b64feed m (alZ (a / 4))) (alZ (a % 4 * 16))) 61) 61).oct = _ ∧ ((b64feed (b64feed (b64feed (b64feed m (alZ (a / 4))) (alZ (a % 4 * 16))) 61) 61).d + (b64feed (b64feed (b64feed (b64feed m (alZ (a / 4))) (alZ (a % 4 * 16))) 61) 61).p) % 4 = 0
    rw [feed_dig (by omega) hp, put0 hb]
    rw [d6 (by omega) (by exact hp)]
    have e1 : ((m.r * 64 + a / 4) * 64 + a % 4 * 16) / 16 = a := by omega
    have e2 : ((m.r * 64 + a / 4) * 64 + a % 4 * 16) % 16 = 0 := by omega
    rw [e1, e2]
    have e3 : b64feed ⟨m.oct ++ [a], m.d + 1 + 1, m.p, 4, 0⟩ 61 = ⟨m.oct ++ [a], m.d + 1 + 1, m.p + 1, 4, 0⟩ := by
      unfold b64feed b64take b64pad
      rw [if_pos rfl]
      dsimp only
      rw [if_neg (by omega)]
      rfl
    rw [e3]
    have e4 : b64feed ⟨m.oct ++ [a], m.d + 1 + 1, m.p + 1, 4, 0⟩ 61 = ⟨m.oct ++ [a], m.d + 1 + 1, m.p + 1 + 1, 4, 0⟩ := by
      unfold b64feed b64take b64pad
      rw [if_pos rfl]
      dsimp only
      rw [if_neg (by omega)]
      rfl
    rw [e4]
    exact ⟨rfl, by dsimp only; omega⟩
  | [a, b], m, h, hd, hp, hb, hr => by
    have ha := h a (by simp)
    have hbb := h b (by simp)
    unfold okO at ha hbb
    show (b64feed (b64feed (b64feed (b64feed m (alZ (a / 4))) (alZ (a % 4 * 16 + b / 16))) (alZ (b % 16 * 4))) 61).oct = _ ∧ ((b64feed (b64feed (b64feed (b64feed m (alZ (a / 4))) (alZ (a % 4 * 16 + b / 16))) (alZ (b % 16 * 4))) 61).d + (b64feed (b64feed (b64feed (b64feed m (alZ (a / 4))) (alZ (a % 4 * 16 + b / 16))) (alZ (b % 16 * 4))) 61).p) % 4 = 0
    rw [feed_dig (by omega) hp, put0 hb]
    rw [d6 (by omega) (by exact hp)]
    rw [d4 (by omega) (by exact hp)]
    have e1 : ((m.r * 64 + a / 4) * 64 + (a % 4 * 16 + b / 16)) / 16 = a := by omega
    have e2 : ((m.r * 64 + a / 4) * 64 + (a % 4 * 16 + b / 16)) % 16 = b / 16 := by omega
    rw [e1, e2]
    have e3 : (b / 16 * 64 + b % 16 * 4) / 4 = b := by omega
    have e4 : (b / 16 * 64 + b % 16 * 4) % 4 = 0 := by omega
    rw [e3, e4]
    have e5 : b64feed ⟨m.oct ++ [a] ++ [b], m.d + 1 + 1 + 1, m.p, 2, 0⟩ 61 = ⟨m.oct ++ [a] ++ [b], m.d + 1 + 1 + 1, m.p + 1, 2, 0⟩ := by
      unfold b64feed b64take b64pad
      rw [if_pos rfl]
      dsimp only
      rw [if_neg (by omega)]
      rfl
    rw [e5]
    exact ⟨by simp, by dsimp only; omega⟩
  | a :: b :: c :: t, m, h, hd, hp, hb, hr => by
    have ha := h a (by simp)
    have hbb := h b (by simp)
    have hc := h c (by simp)
    unfold okO at ha hbb hc
    have z : (enc64 (a :: b :: c :: t)).foldl b64feed m = (enc64 t).foldl b64feed (b64feed (b64feed (b64feed (b64feed m (alZ (a / 4))) (alZ (a % 4 * 16 + b / 16))) (alZ (b % 16 * 4 + c / 64))) (alZ (c % 64))) := rfl
    rw [z]
    rw [feed_dig (by omega) hp, put0 hb]
    rw [d6 (by omega) (by exact hp)]
    rw [d4 (by omega) (by exact hp)]
    rw [d2 (by omega) (by exact hp)]
    have e1 : ((m.r * 64 + a / 4) * 64 + (a % 4 * 16 + b / 16)) / 16 = a := by omega
    have e2 : ((m.r * 64 + a / 4) * 64 + (a % 4 * 16 + b / 16)) % 16 = b / 16 := by omega
    rw [e1, e2]
    have e3 : (b / 16 * 64 + (b % 16 * 4 + c / 64)) / 4 = b := by omega
    have e4 : (b / 16 * 64 + (b % 16 * 4 + c / 64)) % 4 = c / 64 := by omega
    rw [e3, e4]
    have e5 : c / 64 * 64 + c % 64 = c := by omega
    rw [e5]
    obtain ⟨f1, f2⟩ := feed_all (os := t) (m := ⟨m.oct ++ [a] ++ [b] ++ [c], m.d + 1 + 1 + 1 + 1, m.p, 0, 0⟩) (fun o ho => h o (by simp [ho])) (by dsimp only; omega) hp rfl rfl
    exact ⟨by rw [f1]; simp, f2⟩
/-! bits of the law's own -/
def bits6 (w : Int) : List Int := [w / 32 % 2, w / 16 % 2, w / 8 % 2, w / 4 % 2, w / 2 % 2, w / 1 % 2]
def allBits (ws : List Int) : List Int := ws.flatMap bits6
def numB : List Int → Int := fun bs => bs.foldl (fun a b => a * 2 + b) 0
theorem numB_app (xs ys : List Int) : numB (xs ++ ys) = numB xs * 2 ^ ys.length + numB ys := by
  have key : ∀ (ys : List Int) (a : Int), ys.foldl (fun a b => a * 2 + b) a = a * 2 ^ ys.length + ys.foldl (fun a b => a * 2 + b) 0 := by
    intro ys
    induction ys with
    | nil => intro a; simp
    | cons y t ih =>
      intro a
      rw [List.foldl_cons, List.foldl_cons, ih (a * 2 + y), ih (0 * 2 + y), List.length_cons, Int.pow_succ]
      simp only [Int.add_mul, Int.mul_assoc, Int.mul_comm (2 ^ t.length) 2]
      omega
  unfold numB
  rw [List.foldl_append, key ys]
def isBit (b : Int) : Prop := b = 0 ∨ b = 1
theorem snoc_ind {P : List Int → Prop} (h0 : P []) (h1 : ∀ xs x, P xs → P (xs ++ [x])) (xs : List Int) : P xs := by
  have key : ∀ ys : List Int, P ys.reverse := fun ys => by
    induction ys with
    | nil => exact h0
    | cons y t ih => rw [List.reverse_cons]; exact h1 _ _ ih
  have z := key xs.reverse
  rwa [List.reverse_reverse] at z
theorem numB_bd {bs : List Int} : (∀ b ∈ bs, isBit b) → 0 ≤ numB bs ∧ numB bs < 2 ^ bs.length := by
  refine snoc_ind (P := fun bs => (∀ b ∈ bs, isBit b) → 0 ≤ numB bs ∧ numB bs < 2 ^ bs.length) ?_ ?_ bs
  · intro _; exact ⟨Int.le_refl _, by decide⟩
  · intro xs x ih h
    obtain ⟨a, b⟩ := ih (fun b hb => h b (by simp [hb]))
    have hx := h x (by simp)
    rw [numB_app]
    have e : numB [x] = x := by show (0 : Int) * 2 + x = x; omega
    have e2 : (2 : Int) ^ [x].length = 2 := rfl
    rw [e, e2, List.length_append]
    have e3 : (2 : Int) ^ (xs.length + [x].length) = 2 ^ xs.length * 2 := Int.pow_succ _ _
    rw [e3]
    rcases hx with rfl | rfl <;> omega
theorem bits6_bit {w b : Int} (h : b ∈ bits6 w) : isBit b := by
  unfold bits6 at h
  unfold isBit
  simp at h
  omega
theorem bits6_num {w : Int} (h : 0 ≤ w ∧ w < 64) : numB (bits6 w) = w := by
  show ((((((0 : Int) * 2 + w / 32 % 2) * 2 + w / 16 % 2) * 2 + w / 8 % 2) * 2 + w / 4 % 2) * 2 + w / 2 % 2) * 2 + w / 1 % 2 = w
  omega
theorem allBits_bit {ws : List Int} {b : Int} (h : b ∈ allBits ws) : isBit b := by
  obtain ⟨w, _, hb⟩ := List.mem_flatMap.mp h
  exact bits6_bit hb
theorem allBits_len (ws : List Int) : (allBits ws).length = 6 * ws.length := by
  induction ws with
  | nil => rfl
  | cons w t ih =>
    show (bits6 w ++ allBits t).length = _
    rw [List.length_append, ih, List.length_cons]
    show 6 + _ = _
    omega
theorem allBits_snoc (ws : List Int) (w : Int) : allBits (ws ++ [w]) = allBits ws ++ bits6 w := by
  unfold allBits
  rw [List.flatMap_append]
  simp
/-- the octets that are full, and what is left -/
def octAt (bs : List Int) (k : Nat) : Int := numB ((bs.drop (8 * k)).take 8)
def fullO (bs : List Int) : List Int := (List.range (bs.length / 8)).map (octAt bs)
def leftB (bs : List Int) : List Int := bs.drop (8 * (bs.length / 8))
theorem sum_zero {bs : List Int} : (∀ b ∈ bs, isBit b) → 0 ≤ bs.sum ∧ (bs.sum = 0 ↔ numB bs = 0) := by
  refine snoc_ind (P := fun bs => (∀ b ∈ bs, isBit b) → 0 ≤ bs.sum ∧ (bs.sum = 0 ↔ numB bs = 0)) ?_ ?_ bs
  · intro _; exact ⟨Int.le_refl _, Iff.rfl⟩
  · intro xs x ih h
    have hx' : ∀ b ∈ xs, isBit b := fun b hb => h b (by simp [hb])
    obtain ⟨a, b⟩ := ih hx'
    have hx := h x (by simp)
    have hb := numB_bd hx'
    rw [numB_app, List.sum_append]
    have e : numB [x] = x := by show (0 : Int) * 2 + x = x; omega
    have e2 : (2 : Int) ^ [x].length = 2 := rfl
    have e3 : [x].sum = x := by simp
    rw [e, e2, e3]
    rcases hx with rfl | rfl
    · refine ⟨by omega, ?_⟩
      constructor
      · intro z; have := b.mp (by omega); omega
      · intro z; have := b.mpr (by omega); omega
    · refine ⟨by omega, ?_⟩
      constructor <;> intro z <;> omega
/-- the machine that has taken these worths -/
structure Run64 (m : B64) (ws : List Int) : Prop where
  ok : ∀ w ∈ ws, 0 ≤ w ∧ w < 64
  oct : m.oct = fullO (allBits ws)
  d : m.d = ws.length
  b : m.b = ((leftB (allBits ws)).length : Int)
  r : m.r = numB (leftB (allBits ws))
theorem leftB_len (bs : List Int) : (leftB bs).length = bs.length % 8 := by
  unfold leftB
  rw [List.length_drop]
  omega
theorem full_same {bs ys : List Int} (h : (bs.length + ys.length) / 8 = bs.length / 8) : fullO (bs ++ ys) = fullO bs ∧ leftB (bs ++ ys) = leftB bs ++ ys := by
  have h1 : ∀ k < bs.length / 8, octAt (bs ++ ys) k = octAt bs k := fun k hk => by
    unfold octAt
    rw [List.drop_append_of_le_length (by omega), List.take_append_of_le_length (by rw [List.length_drop]; omega)]
  refine ⟨?_, ?_⟩
  · unfold fullO
    rw [List.length_append, h]
    exact List.map_congr_left fun k hk => h1 k (List.mem_range.mp hk)
  · unfold leftB
    rw [List.length_append, h, List.drop_append_of_le_length (by omega)]
theorem full_more {bs ys : List Int} (h : (bs.length + ys.length) / 8 = bs.length / 8 + 1) : fullO (bs ++ ys) = fullO bs ++ [numB ((leftB bs ++ ys).take 8)] ∧ leftB (bs ++ ys) = (leftB bs ++ ys).drop 8 := by
  have h1 : ∀ k < bs.length / 8, octAt (bs ++ ys) k = octAt bs k := fun k hk => by
    unfold octAt
    rw [List.drop_append_of_le_length (by omega), List.take_append_of_le_length (by rw [List.length_drop]; omega)]
  have h2 : (bs ++ ys).drop (8 * (bs.length / 8)) = leftB bs ++ ys := by
    unfold leftB
    rw [List.drop_append_of_le_length (by omega)]
  refine ⟨?_, ?_⟩
  · unfold fullO
    rw [List.length_append, h, List.range_succ, List.map_append]
    rw [List.map_congr_left fun k hk => h1 k (List.mem_range.mp hk)]
    show _ ++ [octAt (bs ++ ys) (bs.length / 8)] = _
    unfold octAt
    rw [h2]
  · have e : leftB (bs ++ ys) = (bs ++ ys).drop (8 * ((bs ++ ys).length / 8)) := rfl
    rw [e, List.length_append, h, ← h2, List.drop_drop]
    congr 1
theorem run_new : Run64 b64new [] := ⟨fun w h => (by cases h), rfl, rfl, rfl, rfl⟩
theorem run_put {m : B64} {ws : List Int} {w : Int} (h : Run64 m ws) (hw : 0 ≤ w ∧ w < 64) : Run64 (b64put m w) (ws ++ [w]) := by
  have hok : ∀ x ∈ ws ++ [w], 0 ≤ x ∧ x < 64 := fun x hx => by
    rcases List.mem_append.mp hx with z | z
    · exact h.ok x z
    · obtain rfl : x = w := by simpa using z
      exact hw
  have hbl : (bits6 w).length = 6 := rfl
  have hn : numB (leftB (allBits ws) ++ bits6 w) = m.r * 64 + w := by
    rw [numB_app, hbl, bits6_num hw, ← h.r]
    rfl
  have hll := leftB_len (allBits ws)
  have hb := h.b
  have hd := h.d
  have hbits : ∀ b ∈ leftB (allBits ws) ++ bits6 w, isBit b := fun b hb => by
    rcases List.mem_append.mp hb with z | z
    · exact allBits_bit (List.mem_of_mem_drop z)
    · exact bits6_bit z
  unfold b64put
  by_cases z : m.b + 6 ≥ 8
  · rw [if_pos z]
    obtain ⟨f1, f2⟩ := full_more (bs := allBits ws) (ys := bits6 w) (by rw [hbl]; omega)
    have hL : (leftB (allBits ws) ++ bits6 w).length = (leftB (allBits ws)).length + 6 := by rw [List.length_append, hbl]
    have hdl : ((leftB (allBits ws) ++ bits6 w).drop 8).length = (m.b + 6 - 8).toNat := by rw [List.length_drop, hL]; omega
    have sp : (leftB (allBits ws) ++ bits6 w).take 8 ++ (leftB (allBits ws) ++ bits6 w).drop 8 = leftB (allBits ws) ++ bits6 w := List.take_append_drop _ _
    have hs : numB ((leftB (allBits ws) ++ bits6 w).take 8) * 2 ^ (m.b + 6 - 8).toNat + numB ((leftB (allBits ws) ++ bits6 w).drop 8) = m.r * 64 + w := by
      rw [← hn, ← hdl, ← numB_app, sp]
    have hbd := numB_bd (bs := (leftB (allBits ws) ++ bits6 w).drop 8) fun b hb => hbits b (List.mem_of_mem_drop hb)
    rw [hdl] at hbd
    have hp : (0 : Int) < 2 ^ (m.b + 6 - 8).toNat := Int.pow_pos (by decide)
    have q1 : (m.r * 64 + w) / 2 ^ (m.b + 6 - 8).toNat = numB ((leftB (allBits ws) ++ bits6 w).take 8) := by
      rw [← hs, Int.add_comm, Int.add_mul_ediv_right _ _ (by omega), Int.ediv_eq_zero_of_lt hbd.1 hbd.2, Int.zero_add]
    have q2 : (m.r * 64 + w) % 2 ^ (m.b + 6 - 8).toNat = numB ((leftB (allBits ws) ++ bits6 w).drop 8) := by
      rw [← hs, Int.add_comm, Int.add_mul_emod_self_right, Int.emod_eq_of_lt hbd.1 hbd.2]
    refine ⟨hok, ?_, ?_, ?_, ?_⟩
    · show m.oct ++ _ = _
      rw [allBits_snoc, f1, h.oct, q1]
    · show m.d + 1 = _
      rw [List.length_append, hd]
      simp
    · show m.b + 6 - 8 = _
      rw [allBits_snoc, f2, hdl]
      omega
    · show _ % _ = _
      rw [allBits_snoc, f2, q2]
  · rw [if_neg z]
    obtain ⟨f1, f2⟩ := full_same (bs := allBits ws) (ys := bits6 w) (by rw [hbl]; omega)
    refine ⟨hok, ?_, ?_, ?_, ?_⟩
    · show m.oct = _
      rw [allBits_snoc, f1, h.oct]
    · show m.d + 1 = _
      rw [List.length_append, hd]
      simp
    · show m.b + 6 = _
      rw [allBits_snoc, f2, List.length_append, hbl]
      omega
    · show m.r * 64 + w = _
      rw [allBits_snoc, f2, hn]
/-! ### the law's draws -/
def sp__law_cell (K : PySem.W.Frag) : Sp := fun vs H Q _ => ∃ (a : Addr) (ns : List Int) (k : Int), vs = [.ref a, .int k] ∧ SqL K H a (ns.map V.int) ∧ 0 ≤ k ∧ ∀ z, Q (.int z) H
def sp__law_numbers (K : PySem.W.Frag) : Sp := fun vs H Q _ => ∃ (c : Int) (m : Nat), vs = [.int c, .int m] ∧ m ≤ 1000 ∧ ∀ (p : Addr) (ns : List Int) (H1 : Hp), ns.length = m → NewAt H p (.lst (ns.map V.int)) H1 → Q (.ref p) H1
/-- the law's own state: its list, the list of its numbers, the script -/
structure Pst where
  p : Addr
  nl : Addr
  sc : Addr
instance : Coe Pst Addr := ⟨Pst.p⟩
/-- the script stands -/
def Scr (K : PySem.W.Frag) (p : Pst) (ns : List Int) (H : Hp) : Prop := (Rd H p.sc (.lst (ns.map V.int)) ∧ p.sc ≠ p.p) ∨ ∀ H', SqL K H' p.sc (ns.map V.int)
theorem Scr.sq {K : PySem.W.Frag} {p : Pst} {ns : List Int} {H : Hp} (h : Scr K p ns H) : SqL K H p.sc (ns.map V.int) := by
  rcases h with h | h
  · exact .inl h.1
  · exact h H
theorem Scr.keep {K : PySem.W.Frag} {p : Pst} {ns : List Int} {H H1 : Hp} (h : Scr K p ns H) (k : Keep [p] H H1) : Scr K p ns H1 := by
  rcases h with h | h
  · exact .inl ⟨k.rd (by simpa using h.2) h.1, h.2⟩
  · exact .inr h
/-- the law's own state stands at p -/
structure Dr (K : PySem.W.Frag) (p : Pst) (left last : Int) (H : Hp) : Prop where
  ex : ∃ (at_ : Int) (nums ns : List Int), H p = some (.lst [.ref p.nl, .int at_, .int left, .ref p.sc, .int last]) ∧ 0 ≤ at_ ∧ H p.nl = some (.lst (nums.map V.int)) ∧ nums.length = 120 ∧ p.nl ≠ p ∧ Scr K p ns H
def sp__law_state (K : PySem.W.Frag) : Sp := fun vs H Q _ => ∃ (a : Addr) (ns : List Int) (left : Int), vs = [.ref a, .int left] ∧ SqL K H a (ns.map V.int) ∧ ∀ (p : Pst) H1, H p = none → (∀ S, Keep S H H1) → Dr K p left 3 H1 → Q (.ref p) H1
def sp__law_next (K : PySem.W.Frag) : Sp := fun vs H Q _ => ∃ (p : Pst) (left last m : Int), vs = [.ref p, .int m] ∧ 0 < m ∧ Dr K p left last H ∧ ∀ r H1, 0 ≤ r → r < m → Dr K p left last H1 → Keep [p] H H1 → Q (.int r) H1
def sp__law_big (K : PySem.W.Frag) : Sp := sp__law_next K
/-! _law_cell(_law_script, _law_k) : _law_script=0 _law_k=1 -/
def N__law_cell : List Str := ["_law_script", "_law_k"]
-- sp__law_cell
def t__law_cell_0a_0 (K : PySem.W.Frag) : TS := (tRet (tOp (rIxL K) (tVar 0) (tVar 1)))
def t__law_cell_1 (K : PySem.W.Frag) : TS := (tRet (tC (.int 0)))
def t__law_cell_0 (K : PySem.W.Frag) : TS := tSeq (tIfS (tTest (tOp rLtI (tVar 1) (tCB (rLenQ K) (tCons (tVar 0) tNil)))) (t__law_cell_0a_0 K) tNext) (t__law_cell_1 K)
/-! _law_numbers(_law_cell_here, _law_many) : _law_cell_here=0 _law_many=1 _law_rest=2 _law_size=3 _law_numbers_here=4 _law_k=5 _law_mixed=6 -/
def N__law_numbers : List Str := ["_law_cell_here", "_law_many", "_law_rest", "_law_size", "_law_numbers_here", "_law_k", "_law_mixed"]
-- sp__law_numbers
def t__law_numbers_3a_0a_1 (K : PySem.W.Frag) : TS := (tAsg (tOp rDivI (tVar 2) (tC (.int 1000))) (gName 2))
def t__law_numbers_3a_0a_0 (K : PySem.W.Frag) : TS := tSeq (tDrop (tBM K "list" rAppend (tVar 4) (tCons (tOp rModI (tCB rInt1 (tCons (tVar 2) tNil)) (tC (.int 1000))) tNil))) (t__law_numbers_3a_0a_1 K)
def t__law_numbers_3a_0b_2 (K : PySem.W.Frag) : TS := (tDrop (tBM K "list" rAppend (tVar 4) (tCons (tOp rModI (tCB rInt1 (tCons (tOp rDivI (tVar 6) (tC (.int 7))) tNil)) (tC (.int 1000))) tNil)))
def t__law_numbers_3a_0b_1 (K : PySem.W.Frag) : TS := tSeq (tAsg (tOp rModI (tCB rInt1 (tCons (tOp rAddI (tOp rAddI (tOp rMulI (tVar 6) (tVar 6)) (tOp rMulI (tC (.int 40692)) (tVar 5))) (tC (.int 3))) tNil)) (tC (.int 2147483629))) (gName 6)) (t__law_numbers_3a_0b_2 K)
def t__law_numbers_3a_0b_0 (K : PySem.W.Frag) : TS := tSeq (tAsg (tOp rModI (tCB rInt1 (tCons (tOp rAddI (tOp rAddI (tOp rMulI (tVar 3) (tC (.int 48271))) (tOp rMulI (tVar 5) (tC (.int 69621)))) (tC (.int 11))) tNil)) (tC (.int 2147483647))) (gName 6)) (t__law_numbers_3a_0b_1 K)
def t__law_numbers_3a_0 (K : PySem.W.Frag) : TS := (tIfS (tAnd (tTest (tOp rGeI (tVar 3) (tOp rPowI (tC (.int 10)) (tC (.int 18))))) (tTest (tOp rGtI (tVar 2) (tC (.int 0))))) (t__law_numbers_3a_0a_0 K) (t__law_numbers_3a_0b_0 K))
def t__law_numbers_4 (K : PySem.W.Frag) : TS := (tRet (tVar 4))
def t__law_numbers_3 (K : PySem.W.Frag) : TS := tSeq (tFor (iRng1 (tCons (tVar 1) tNil)) (gName 5) (t__law_numbers_3a_0 K)) (t__law_numbers_4 K)
def t__law_numbers_2 (K : PySem.W.Frag) : TS := tSeq (tAsg (tLst tNil) (gName 4)) (t__law_numbers_3 K)
def t__law_numbers_1 (K : PySem.W.Frag) : TS := tSeq (tAsg (tVar 2) (gName 3)) (t__law_numbers_2 K)
def t__law_numbers_0 (K : PySem.W.Frag) : TS := tSeq (tAsg (tCB rAbs (tCons (tVar 0) tNil)) (gName 2)) (t__law_numbers_1 K)
/-! _law_state(_law_script, _law_left) : _law_script=0 _law_left=1 _law_numbers_here=2 _law_parted=3 _law_k=4 -/
def N__law_state : List Str := ["_law_script", "_law_left", "_law_numbers_here", "_law_parted", "_law_k"]
-- sp__law_state
def t__law_state_2a_2 (K : PySem.W.Frag) : TS := (tDrop (tBM K "list" rAppend (tVar 2) (tCons (tOp (rIxL K) (tOp (rIxL K) (tVar 3) (tC (.int 2))) (tVar 4)) tNil)))
def t__law_state_2a_1 (K : PySem.W.Frag) : TS := tSeq (tDrop (tBM K "list" rAppend (tVar 2) (tCons (tOp (rIxL K) (tOp (rIxL K) (tVar 3) (tC (.int 1))) (tVar 4)) tNil))) (t__law_state_2a_2 K)
def t__law_state_2a_0 (K : PySem.W.Frag) : TS := tSeq (tDrop (tBM K "list" rAppend (tVar 2) (tCons (tOp (rIxL K) (tOp (rIxL K) (tVar 3) (tC (.int 0))) (tVar 4)) tNil))) (t__law_state_2a_1 K)
def t__law_state_3 (K : PySem.W.Frag) : TS := (tRet (tLst (tCons (tVar 2) (tCons (tC (.int 0)) (tCons (tVar 1) (tCons (tVar 0) (tCons (tC (.int 3)) tNil)))))))
def t__law_state_2 (K : PySem.W.Frag) : TS := tSeq (tFor (iRng1 (tCons (tC (.int 40)) tNil)) (gName 4) (t__law_state_2a_0 K)) (t__law_state_3 K)
def t__law_state_1 (K : PySem.W.Frag) : TS := tSeq (tAsg (tLc (iRng1 (tCons (tC (.int 3)) tNil)) (gName 4) tYes (tCall (sp__law_numbers K) [] E0 (tCons (tCall (sp__law_cell K) [] E0 (tCons (tVar 0) (tCons (tVar 4) tNil))) (tCons (tC (.int 40)) tNil))) [4]) (gName 3)) (t__law_state_2 K)
def t__law_state_0 (K : PySem.W.Frag) : TS := tSeq (tAsg (tLst tNil) (gName 2)) (t__law_state_1 K)
/-! _law_next(_law_state_here, _law_many) : _law_state_here=0 _law_many=1 _law_at=2 -/
def N__law_next : List Str := ["_law_state_here", "_law_many", "_law_at"]
-- sp__law_next
def t__law_next_2 (K : PySem.W.Frag) : TS := (tRet (tOp rModI (tCB rInt1 (tCons (tOp rAddI (tOp (rIxL K) (tOp (rIxL K) (tVar 0) (tC (.int 0))) (tOp rModI (tVar 2) (tC (.int 120)))) (tOp rMulI (tC (.int 7)) (tOp rDivI (tVar 2) (tC (.int 120))))) tNil)) (tVar 1)))
def t__law_next_1 (K : PySem.W.Frag) : TS := tSeq (tAsg (tOp rAddI (tVar 2) (tC (.int 1))) (gSub (tVar 0) (tC (.int 1)) rSetL)) (t__law_next_2 K)
def t__law_next_0 (K : PySem.W.Frag) : TS := tSeq (tAsg (tOp (rIxL K) (tVar 0) (tC (.int 1))) (gName 2)) (t__law_next_1 K)
/-! _law_big(_law_state_here, _law_many) : _law_state_here=0 _law_many=1 _law_cell_here=2 -/
def N__law_big : List Str := ["_law_state_here", "_law_many", "_law_cell_here"]
-- sp__law_big
def t__law_big_1 (K : PySem.W.Frag) : TS := (tRet (tOp rModI (tCB rInt1 (tCons (tOp rAddI (tOp rMulI (tVar 2) (tC (.int 1009))) (tCall (sp__law_next K) [] E0 (tCons (tVar 0) (tCons (tC (.int 1000)) tNil)))) tNil)) (tVar 1)))
def t__law_big_0 (K : PySem.W.Frag) : TS := tSeq (tAsg (tCB rAbs (tCons (tCall (sp__law_cell K) [] E0 (tCons (tOp (rIxL K) (tVar 0) (tC (.int 3))) (tCons (tOp rAddI (tC (.int 3)) (tCall (sp__law_next K) [] E0 (tCons (tVar 0) (tCons (tC (.int 30)) tNil)))) tNil))) tNil)) (gName 2)) (t__law_big_1 K)
section
variable {K : PySem.W.Frag}
theorem Dr.keep {p : Pst} {left last : Int} {H H1 : Hp} (h : Dr K p left last H) (k : Keep [] H H1) : Dr K p left last H1 := by
  obtain ⟨at_, nums, ns, hp, ha, hn, hl, nn, hs⟩ := h
  exact ⟨at_, nums, ns, k _ _ (by simp) hp, ha, k _ _ (by simp) hn, hl, nn, hs.keep k.all⟩
theorem Dr.new {p : Pst} {q : Addr} {o : HO} {left last : Int} {H H1 : Hp} (h : Dr K p left last H) (n : NewAt H q o H1) : Dr K p left last H1 := h.keep (n.keep [])
theorem Dr.at_ {p : Pst} {left last : Int} {H : Hp} (h : Dr K p left last H) : ∃ xs, H p = some (.lst xs) := by
  obtain ⟨at_, nums, ns, hp, _⟩ := h
  exact ⟨_, hp⟩
theorem Dr.ne {p : Pst} {q : Addr} {o : HO} {left last : Int} {H H1 : Hp} (h : Dr K p left last H) (n : NewAt H q o H1) : p.p ≠ q := by
  obtain ⟨xs, hp⟩ := h.at_
  exact ne_of_none hp n.free
theorem Dr.neT {p : Pst} {q : Addr} {xs : List V} {left last : Int} {H : Hp} (h : Dr K p left last H) (n : H q = some (.tup xs)) : q ≠ p.p := by
  obtain ⟨ys, e⟩ := h.at_
  exact ne_of n e (by intro z; cases z)
/-- what was not there when the state stood may be written -/
theorem Dr.upd {p : Pst} {P : Addr} {o : HO} {l l' t t' : Int} {H0 H : Hp} (h0 : Dr K p l t H0) (hP : H0 P = none) (h : Dr K p l' t' H) : Dr K p l' t' (upd H P o) := by
  obtain ⟨at0, nums0, ns0, hp0, ha0, hn0, hl0, nn0, hs0⟩ := h0
  obtain ⟨at_, nums, ns, hp, ha, hn, hl, nn, hs⟩ := h
  have n1 : p.p ≠ P := ne_of_none hp0 hP
  have n2 : p.nl ≠ P := ne_of_none hn0 hP
  rcases hs0 with ⟨r, _⟩ | r
  · refine ⟨at_, nums, ns, by rw [upd_ne n1]; exact hp, ha, by rw [upd_ne n2]; exact hn, hl, nn, ?_⟩
    rcases hs with ⟨q, e⟩ | q
    · have n3 : p.sc ≠ P := by rcases r with r | ⟨_, r⟩ <;> exact ne_of_none r hP
      refine .inl ⟨?_, e⟩
      rcases q with q | ⟨u, q⟩
      · exact .inl (by rw [upd_ne n3]; exact q)
      · exact .inr ⟨u, by rw [upd_ne n3]; exact q⟩
    · exact .inr q
  · exact ⟨at_, nums, ns0, by rw [upd_ne n1]; exact hp, ha, by rw [upd_ne n2]; exact hn, hl, nn, .inr r⟩
theorem atI_map {ns : List Int} {j : Nat} (h : j < ns.length) : atI (ns.map V.int) (j : Int) = some (.int (ns[j]'h)) := atI_nat (by simp [h])
theorem len__law_cell {vs : List V} {H : Hp} {Q : VK} {E : XK} (h : sp__law_cell K vs H Q E) : vs.length = 2 := by obtain ⟨_, _, _, rfl, _⟩ := h; rfl
theorem r__law_cell {vs : List V} {H : Hp} {Q : VK} {E : XK} (h : sp__law_cell K vs H Q E) : t__law_cell_0 K { nx := fun _ H' => Q .non H', rt := Q } (start N__law_cell vs) H := by
  obtain ⟨a, ns, k, rfl, hs, hk, hq⟩ := h
  obtain ⟨j, rfl⟩ : ∃ j : Nat, k = j := ⟨k.toNat, by omega⟩
  unfold t__law_cell_0
  walk_at "go"
  refine i_lenL hs ?_
  walk_at "go"
  walk_at "D"
  all_goals rename_i h
  · unfold t__law_cell_0a_0
    walk_at "go"
    have h' : j < ns.length := by simpa using h
    exact i_ixL hs (atI_map h') (hq _)
  · walk_at "go"
    unfold t__law_cell_1
    walk_at "go"
    exact hq 0
theorem len__law_next {vs : List V} {H : Hp} {Q : VK} {E : XK} (h : sp__law_next K vs H Q E) : vs.length = 2 := by obtain ⟨_, _, _, _, rfl, _⟩ := h; rfl
theorem r__law_next {vs : List V} {H : Hp} {Q : VK} {E : XK} (h : sp__law_next K vs H Q E) : t__law_next_0 K { nx := fun _ H' => Q .non H', rt := Q } (start N__law_next vs) H := by
  obtain ⟨p, left, last, m, rfl, hm, ⟨at_, nums, ns, hp, ha, hn, hl, nn, hs⟩, hq⟩ := h
  unfold t__law_next_0
  walk_at "go"
  refine i_ixL (SqL.of hp) rfl ?_
  unfold t__law_next_1
  walk_at "go"
  refine i_setL hp rfl ?_
  have k1 : Keep [p] H (upd H p (.lst [.ref p.nl, .int (at_ + 1), .int left, .ref p.sc, .int last])) := Keep.put (.refl H) (.inl (by simp))
  have nn' : p.nl ∉ [p.p] := by simpa using nn
  have hn1 := k1 _ _ nn' hn
  have hs1 := hs.keep k1
  unfold t__law_next_2
  walk_at "go"
  refine i_ixL (SqL.of upd_same) rfl ?_
  walk_at "go"
  obtain ⟨j, hj, hj2⟩ : ∃ j : Nat, at_ % 120 = j ∧ j < nums.length := ⟨(at_ % 120).toNat, by omega, by omega⟩
  rw [hj]
  refine i_ixL (SqL.of hn1) (atI_map hj2) ?_
  walk_at "go"
  refine hq _ _ (Int.emod_nonneg _ (by omega)) (Int.emod_lt_of_pos _ hm) ⟨at_ + 1, nums, ns, upd_same, by omega, hn1, hl, nn, hs1⟩ k1
theorem len__law_big {vs : List V} {H : Hp} {Q : VK} {E : XK} (h : sp__law_big K vs H Q E) : vs.length = 2 := by obtain ⟨_, _, _, _, rfl, _⟩ := h; rfl
theorem r__law_big {vs : List V} {H : Hp} {Q : VK} {E : XK} (h : sp__law_big K vs H Q E) : t__law_big_0 K { nx := fun _ H' => Q .non H', rt := Q } (start N__law_big vs) H := by
  obtain ⟨p, left, last, m, rfl, hm, hd, hq⟩ := h
  obtain ⟨at_, nums, ns, hp, ha, hn, hl, nn, hs⟩ := id hd
  unfold t__law_big_0
  walk_at "go"
  refine i_ixL (SqL.of hp) rfl ?_
  walk_at "go"
  refine ⟨p, left, last, 30, rfl, by decide, hd, fun r H1 r0 r1 hd1 k1 => ?_⟩
  walk_at "go"
  refine ⟨p.sc, ns, 3 + r, rfl, (hs.keep k1).sq, by omega, fun z => ?_⟩
  walk_at "go"
  unfold t__law_big_1
  walk_at "go"
  refine ⟨p, left, last, 1000, rfl, by decide, hd1, fun r2 H2 r20 r21 hd2 k2 => ?_⟩
  walk_at "go"
  exact hq _ _ (Int.emod_nonneg _ (by omega)) (Int.emod_lt_of_pos _ hm) hd2 (k1.trans k2)

theorem len__law_numbers {vs : List V} {H : Hp} {Q : VK} {E : XK} (h : sp__law_numbers K vs H Q E) : vs.length = 2 := by obtain ⟨_, _, rfl, _⟩ := h; rfl
theorem r__law_numbers {vs : List V} {H : Hp} {Q : VK} {E : XK} (h : sp__law_numbers K vs H Q E) : t__law_numbers_0 K { nx := fun _ H' => Q .non H', rt := Q } (start N__law_numbers vs) H := by
  obtain ⟨c, m, rfl, hm, hq⟩ := h
  unfold t__law_numbers_0
  walk_at "go"
  generalize (if c < 0 then -c else c) = s
  unfold t__law_numbers_1
  walk_at "go"
  unfold t__law_numbers_2
  walk_at "go"
  intro p H1 new
  walk_at "go"
  unfold t__law_numbers_3
  walk_at "go"
  refine f_rng (fun i σ H2 => ∃ (r : Int) (ns : List Int) (k mx : Option V), σ = [some (.int c), some (.int m), some (.int r), some (.int s), some (.ref p), k, mx] ∧ ns.length = i ∧ NewAt H p (.lst (ns.map V.int)) H2)
    ⟨s, [], none, none, rfl, rfl, new⟩ ?_ ?_
  · rintro i σ H2 hi ⟨r, ns, k, mx, rfl, hl, new2⟩
    have hi' : i < m := by simpa using hi
    walk_at "go"
    unfold t__law_numbers_3a_0
    have up : ∀ v : Int, NewAt H p (.lst ((ns ++ [v]).map V.int)) (upd H2 p (.lst (ns.map V.int ++ [.int v]))) := fun v => ⟨new2.free, by rw [upd_same, List.map_append]; rfl, fun S => (new2.keep S).put (.inr new2.free)⟩
    walk_at "go"
    have two : t__law_numbers_3a_0b_0 K { nx := fun σ H2 => ∃ (r : Int) (ns : List Int) (k mx : Option V), σ = [some (.int c), some (.int m), some (.int r), some (.int s), some (.ref p), k, mx] ∧ ns.length = i + 1 ∧ NewAt H p (.lst (ns.map V.int)) H2, rt := Q, bk := t__law_numbers_4 K { nx := fun _ H' => Q .non H', rt := Q }, ct := fun σ H2 => ∃ (r : Int) (ns : List Int) (k mx : Option V), σ = [some (.int c), some (.int m), some (.int r), some (.int s), some (.ref p), k, mx] ∧ ns.length = i + 1 ∧ NewAt H p (.lst (ns.map V.int)) H2 } [some (.int c), some (.int m), some (.int r), some (.int s), some (.ref p), some (.int i), mx] H2 := by
      unfold t__law_numbers_3a_0b_0
      walk_at "go"
      generalize hz : ((s * 48271 + (i : Int) * 69621 + 11) % 2147483647) = z
      have z0 : 0 ≤ z ∧ z < 2147483647 := by omega
      unfold t__law_numbers_3a_0b_1
      walk_at "go"
      generalize ((z * z + 40692 * (i : Int) + 3) % 2147483629) = y
      unfold t__law_numbers_3a_0b_2
      walk_at "go"
      refine ⟨ty_lst new2.at_, ?_⟩
      walk_at "go"
      refine i_app new2.at_ (by simp; omega) ?_
      exact ⟨r, ns ++ [y / 7 % 1000], _, _, rfl, by simp [hl], up _⟩
    walk_at "D"
    · walk_at "go"
      walk_at "D"
      · unfold t__law_numbers_3a_0a_0
        walk_at "go"
        refine ⟨ty_lst new2.at_, ?_⟩
        walk_at "go"
        refine i_app new2.at_ (by simp; omega) ?_
        unfold t__law_numbers_3a_0a_1
        walk_at "go"
        exact ⟨r / 1000, ns ++ [r % 1000], _, _, rfl, by simp [hl], up _⟩
      · exact two
    · walk_at "go"
      exact two
  · rintro σ H2 ⟨r, ns, k, mx, rfl, hl, new2⟩
    unfold t__law_numbers_4
    walk_at "go"
    exact hq _ ns _ (by simpa using hl) new2
theorem len__law_state {vs : List V} {H : Hp} {Q : VK} {E : XK} (h : sp__law_state K vs H Q E) : vs.length = 2 := by obtain ⟨_, _, _, rfl, _⟩ := h; rfl
theorem r__law_state {vs : List V} {H : Hp} {Q : VK} {E : XK} (h : sp__law_state K vs H Q E) : t__law_state_0 K { nx := fun _ H' => Q .non H', rt := Q } (start N__law_state vs) H := by
  obtain ⟨a, ns, left, rfl, hs, hq⟩ := h
  unfold t__law_state_0
  walk_at "go"
  intro nl H1 new
  walk_at "go"
  unfold t__law_state_1
  walk_at "go"
  -- the three rows
  have hs1 := (new.keep []).sqL (K := K) (by simp) hs
  refine c_rng (fun D i H2 => ∃ rows : List (Addr × List Int), H2 D = some (.lst (rows.map fun r => V.ref r.1)) ∧ rows.length = i ∧ (∀ r ∈ rows, H2 r.1 = some (.lst (r.2.map V.int)) ∧ r.2.length = 40 ∧ H r.1 = none ∧ r.1 ≠ nl ∧ r.1 ≠ D) ∧ ∀ S, Keep S H1 H2) ?_ ?_ ?_
  · intro D hD
    exact ⟨[], upd_same, rfl, by simp, fun S => .new hD⟩
  · rintro D i H2 hD hi ⟨rows, hDl, hl, hr, kp⟩
    walk_at "go"
    refine ⟨rfl, ?_⟩
    walk_at "go"
    refine ⟨a, ns, i, rfl, (kp []).sqL (by simp) hs1, by omega, fun z => ?_⟩
    walk_at "go"
    refine ⟨z, 40, rfl, by decide, fun p ms H3 hm n3 => ?_⟩
    have hD3 := n3.keep [] _ _ (by simp) hDl
    have hi3 : i < 3 := by simpa using hi
    have nDp : D ≠ p := ne_of_none hDl n3.free
    refine ⟨_, hD3, small_lt (by simp; omega), rows ++ [(p, ms)], by rw [upd_same]; simp, by simp [hl], fun r hr' => ?_, fun S => ((kp S).trans (n3.keep S)).put (.inr hD)⟩
    rcases List.mem_append.mp hr' with h | h
    · obtain ⟨e1, e2, e3, e4, e5⟩ := hr r h
      exact ⟨by rw [upd_ne e5]; exact n3.keep [] _ _ (by simp) e1, e2, e3, e4, e5⟩
    · obtain rfl : r = (p, ms) := by simpa using h
      have f0 : H1 p = none := (kp []).fresh (by simp) n3.free
      exact ⟨by rw [upd_ne nDp.symm]; exact n3.at_, hm, (new.keep []).fresh (by simp) f0, (ne_of_none new.at_ f0).symm, nDp.symm⟩
  · rintro D H2 hD ⟨rows, hDl, hl, hr, kp⟩
    have hl3 : rows.length = 3 := by simpa using hl
    obtain ⟨r0, r1, r2, rfl⟩ : ∃ r0 r1 r2, rows = [r0, r1, r2] := by
      match rows, hl3 with
      | [r0, r1, r2], _ => exact ⟨r0, r1, r2, rfl⟩
    have q0 := hr r0 (by simp)
    have q1 := hr r1 (by simp)
    have q2 := hr r2 (by simp)
    have nlD : nl ≠ D := ne_of_none new.at_ hD
    walk_at "go"
    unfold t__law_state_2
    walk_at "go"
    have hnl : H2 nl = some (.lst []) := kp [] _ _ (by simp) new.at_
    have kp0 : ∀ S, Keep S H H2 := fun S => (new.keep S).trans (kp S)
    refine f_rng (fun i σ H3 => ∃ (nums : List Int) (k : Option V), σ = [some (.ref a), some (.int left), some (.ref nl), some (.ref D), k] ∧ nums.length = 3 * i ∧ H3 nl = some (.lst (nums.map V.int)) ∧ Keep [nl] H2 H3) ⟨[], none, rfl, rfl, hnl, .refl _⟩ ?_ ?_
    · rintro i σ H3 hi ⟨nums, k, rfl, hn, h3, k3⟩
      have hi40 : i < 40 := by simpa using hi
      walk_at "go"
      unfold t__law_state_2a_0
      walk_at "go"
      have put : ∀ (H4 : Hp) (o : HO), Keep [nl] H2 H4 → Keep [nl] H2 (upd H4 nl o) := fun H4 o k => k.put (.inl (by simp))
      have gD : ∀ H4, Keep [nl] H2 H4 → SqL K H4 D [.ref r0.1, .ref r1.1, .ref r2.1] := fun H4 k => SqL.of (k _ _ (by simpa using nlD.symm) (by simpa using hDl))
      have gr : ∀ H4 (r : Addr × List Int), Keep [nl] H2 H4 → (H2 r.1 = some (.lst (r.2.map V.int)) ∧ r.2.length = 40 ∧ H r.1 = none ∧ r.1 ≠ nl ∧ r.1 ≠ D) → SqL K H4 r.1 (r.2.map V.int) := fun H4 r k q => SqL.of (k _ _ (by simpa using q.2.2.2.1) q.1)
      refine ⟨ty_lst h3, ?_⟩
      walk_at "go"
      refine i_ixL (gD _ k3) rfl ?_
      walk_at "go"
      refine i_ixL (gr _ r0 k3 q0) (atI_map (by omega)) ?_
      walk_at "go"
      refine i_app h3 (by simp; omega) ?_
      unfold t__law_state_2a_1
      walk_at "go"
      refine ⟨ty_lst upd_same, ?_⟩
      have k4 := put H3 (.lst (nums.map V.int ++ [.int (r0.2[i]'(by omega))])) k3
      walk_at "go"
      refine i_ixL (gD _ k4) rfl ?_
      walk_at "go"
      refine i_ixL (gr _ r1 k4 q1) (atI_map (by omega)) ?_
      walk_at "go"
      refine i_app upd_same (by simp; omega) ?_
      have k5 := put _ (.lst (nums.map V.int ++ [.int (r0.2[i]'(by omega))] ++ [.int (r1.2[i]'(by omega))])) k4
      unfold t__law_state_2a_2
      walk_at "go"
      refine ⟨ty_lst upd_same, ?_⟩
      walk_at "go"
      refine i_ixL (gD _ k5) rfl ?_
      walk_at "go"
      refine i_ixL (gr _ r2 k5 q2) (atI_map (by omega)) ?_
      walk_at "go"
      refine i_app upd_same (by simp; omega) ?_
      refine ⟨nums ++ [r0.2[i]'(by omega)] ++ [r1.2[i]'(by omega)] ++ [r2.2[i]'(by omega)], _, rfl, by simp; omega, by rw [upd_same]; simp, put _ _ k5⟩
    · rintro σ H3 ⟨nums, k, rfl, hn, h3, k3⟩
      unfold t__law_state_3
      walk_at "go"
      have kH : ∀ S, Keep S H H3 := fun S x o n e => k3 x o (by simpa using ne_of_none e new.free) ((kp0 S) x o n e)
      intro p H4 n4
      refine hq ⟨p, nl, a⟩ H4 ((kH []).fresh (by simp) n4.free) (fun S => (kH S).trans (n4.keep S)) ⟨0, nums, ns, n4.at_, by decide, n4.keep [] _ _ (by simp) h3, by simpa using hn, ne_of_none h3 n4.free, ?_⟩
      rcases hs with h | ⟨o, its, n, h1, h2, h3, h4⟩
      · have h' := (kH []).rd (by simp) h
        refine .inl ⟨(n4.keep []).rd (by simp) h', ?_⟩
        rcases h' with h' | ⟨_, h'⟩ <;> exact ne_of_none h' n4.free
      · exact .inr fun H' => .inr ⟨o, its, n, h1, h2, h3, h4⟩
end
def F_Base64 : List Str := ["octets", "digits", "pads", "bits", "rest"]
/-! ### more of the forward rules -/
section
variable {K : PySem.W.Frag} {σ : L2.St} {H : Hp} {Q : VK} {D : Ends} {g : TG} {tb : TS} {ar : TA} {te : TE} {a : Addr} {xs : List V}
theorem f_str {x : Str} (Pv : Nat → L2.St → Hp → Prop) (h0 : Pv 0 σ H)
    (hs : ∀ i c σ H, x.cps[i]? = some c → Pv i σ H → g (.str { cps := #[c] }) σ H fun σ2 H2 => tb { D with nx := Pv (i + 1), ct := Pv (i + 1), bk := D.nx } σ2 H2) (hd : ∀ σ H, Pv x.cps.size σ H → D.nx σ H) : ForK (Its x) g tb D σ H := by
  refine ⟨fun i m σ H => Pv i σ H ∧ i + m = x.cps.size, ⟨_, h0, Nat.zero_add _⟩, ?_⟩
  rintro i m σ H ⟨hp, e⟩
  by_cases z : i < x.cps.size
  · refine .inr ⟨z, Pv (i + 1), fun σ' H' h => ⟨m - 1, by omega, h, by omega⟩, ?_⟩
    rintro v H' ⟨rfl, c, hc, rfl⟩
    exact hs i c σ _ hc hp
  · refine .inl ⟨Nat.le_of_not_lt z, hd σ H ?_⟩
    have e2 : i = x.cps.size := by omega
    rw [← e2]
    exact hp
theorem i_str {R : It → Hp → Prop} (h : te σ H fun v H1 => ∃ x, v = V.str x ∧ R (Its x) H1) : iStr te σ H R := h
theorem i_rng3 {R : It → Hp → Prop} (h : ar σ H fun vs H1 => ∃ i j c n, vs = [V.int i, V.int j, V.int c] ∧ RgC i j c n ∧ R (Itc i c n) H1) : iRng3 ar σ H R := h
theorem rgC3 {n : Nat} (h : n ≤ 1000000) : RgC 0 n 3 ((n + 2) / 3) := by
  have e : Builtin.Range.rangeSize 0 n 3 = (((n + 2) / 3 : Nat) : Int) := by
    unfold Builtin.Range.rangeSize
    rw [if_pos (by decide)]
    by_cases z : (0 : Int) < n
    · rw [if_pos z]
      omega
    · rw [if_neg z]
      omega
  refine ⟨by decide, by decide, ?_, e⟩
  unfold Builtin.Range.small
  rw [e]
  have f : ∀ i : Int, 0 ≤ i → i ≤ 2000000 → Builtin.Range.rangeFitsLong i = true := fun i h0 h1 => by
    unfold Builtin.Range.rangeFitsLong
    simp
    omega
  rw [f 0 (by decide) (by decide), f n (by omega) (by omega), f 3 (by decide) (by decide), f _ (by omega) (by omega), if_pos (by decide), f _ (by omega) (by omega)]
  simp
theorem f_rngC {lo c : Int} {n : Nat} (Pv : Nat → L2.St → Hp → Prop) (h0 : Pv 0 σ H)
    (hs : ∀ i σ H, i < n → Pv i σ H → g (.int (lo + i * c)) σ H fun σ2 H2 => tb { D with nx := Pv (i + 1), ct := Pv (i + 1), bk := D.nx } σ2 H2) (hd : ∀ σ H, Pv n σ H → D.nx σ H) : ForK (Itc lo c n) g tb D σ H :=
  for_rangeC Pv h0 hs hd
def rSlQ (K : PySem.W.Frag) : V → Option Int → Option Int → Hp → VK → Prop := fun x lo hi H Q => rSlL K x lo hi H Q ∨ rSlA K x lo hi H Q
theorem sl_or {X : Cx} {r1 r2 : V → Option Int → Option Int → Hp → VK → Prop} (h1 : SlR X r1) (h2 : SlR X r2) : SlR X fun x lo hi H Q => r1 x lo hi H Q ∨ r2 x lo hi H Q := fun pins s σ H x v vl vu lo hi sl Q a b c d e f => by
  rcases f with f | f
  · exact h1 pins s σ H x v vl vu lo hi sl Q a b c d e f
  · exact h2 pins s σ H x v vl vu lo hi sl Q a b c d e f
theorem i_slQ {lo hi : Option Int} (e : SqL K H a xs ∨ SqT K H a xs) (h : ∀ r H1, Keep [] H H1 → SqL K H1 r (cutV xs lo hi) ∨ SqT K H1 r (cutV xs lo hi) → Q (.ref r) H1) : rSlQ K (.ref a) lo hi H Q := by
  rcases e with e | e
  · exact .inl (i_slL e fun r H1 n => h r H1 (n.keep []) (.inl n.sqL))
  · refine .inr ⟨a, xs, rfl, e, fun z => h a H (.refl _) (.inr ?_), fun _ p hp => h p _ (.new hp) (.inr (SqT.of upd_same))⟩
    have e2 : cutV xs lo hi = xs := by
      unfold cutV
      rw [z.1, z.2, Nat.sub_zero, List.drop_zero, List.take_length]
    rw [e2]
    exact e
theorem cutV_mid (xs : List V) (i k : Nat) : cutV xs (some (i : Int)) (some ((i + k : Nat) : Int)) = (xs.drop i).take k := by
  unfold cutV
  rw [HT.sIx_nat, HT.sIx_nat]
  by_cases c : i ≤ xs.length
  · rw [Nat.min_eq_left c]
    by_cases c2 : i + k ≤ xs.length
    · rw [Nat.min_eq_left c2, Nat.add_sub_cancel_left]
    · rw [Nat.min_eq_right (by omega), List.take_of_length_le (by rw [List.length_drop]; exact Nat.le_refl _), List.take_of_length_le (by rw [List.length_drop]; omega)]
  · rw [Nat.min_eq_right (by omega), Nat.min_eq_right (by omega), Nat.sub_self, List.drop_of_length_le (Nat.le_refl _), List.drop_of_length_le (by omega)]
    simp
theorem and_mask {i : Int} {k : Nat} (h : 0 ≤ i) : Builtin.bitAnd i (1 * 2 ^ k - 1) = i % 2 ^ k := by
  have hp : (0 : Int) < 2 ^ k := Int.pow_pos (by decide)
  unfold Builtin.bitAnd
  rw [decide_eq_true h, decide_eq_true (show (0 : Int) ≤ 1 * 2 ^ k - 1 by omega)]
  have e : ((1 : Int) * 2 ^ k - 1).toNat = 2 ^ k - 1 := by
    have e2 : ((2 ^ k : Nat) : Int) = (2 : Int) ^ k := by simp
    rw [← e2]
    have := Nat.one_le_two_pow (n := k)
    omega
  show ((i.toNat &&& ((1 : Int) * 2 ^ k - 1).toNat : Nat) : Int) = _
  rw [e, Nat.and_two_pow_sub_one_eq_mod]
  obtain ⟨n, rfl⟩ : ∃ n : Nat, i = n := ⟨i.toNat, by omega⟩
  simp
theorem i_ixS {z : Str} {i : Int} {c : Nat} (hl : z.length ≤ sizeLine) (e : atI z.cps.toList i = some c) (h : Q (.str { cps := #[c] }) H) : rIxS (.str z) (.int i) H Q := ⟨z, i, c, rfl, rfl, hl, e, h⟩
theorem i_ord1 {c : Nat} (h : Q (.int (c : Int)) H) : rOrd [.str { cps := #[c] }] H Q := ⟨_, rfl, rfl, h⟩
theorem i_sum {ns : List Int} (e : SqL K H a (ns.map V.int)) (h : Q (.int ns.sum) H) : rSum K [.ref a] H Q := ⟨a, ns, rfl, e, h⟩
theorem i_rep {k : Int} (e : H a = some (.lst xs)) (c : 0 ≤ k ∧ k ≤ 1000 ∧ xs.length ≤ 1000) (h : ∀ r H1, NewAt H r (.lst (List.replicate k.toNat xs).flatten) H1 → Q (.ref r) H1) : rRep (.ref a) (.int k) H Q := by
  refine ⟨a, k, xs, rfl, rfl, e, by omega, by omega, ?_, fun p hp => h p _ (.mk' hp)⟩
  have h1 : xs.length * k.toNat ≤ 1000 * 1000 := Nat.mul_le_mul c.2.2 (by omega)
  have h2 : sizeLine = 16777216 := rfl
  omega
end
/-! ### base64: promises -/
abbrev cB (K : PySem.W.Frag) : Addr := gA "Base64" K
def bRow (l : Addr) (m : B64) : List V := [.ref l, .int m.d, .int m.p, .int m.b, .int m.r]
structure B64At (K : PySem.W.Frag) (H : Hp) (p l : Addr) (m : B64) : Prop where
  ob : ∃ dx, H p = some (.ins (cB K) dx (F_Base64.zip (bRow l m)))
  oc : H l = some (.lst (m.oct.map V.int))
theorem B64At.keep {K : PySem.W.Frag} {S : List Addr} {H H1 : Hp} {p l : Addr} {u : B64} (h : B64At K H p l u) (k : Keep S H H1) (hp : p ∉ S) (hl : l ∉ S) : B64At K H1 p l u := by
  obtain ⟨⟨dx, e⟩, f⟩ := h
  exact ⟨⟨dx, k _ _ hp e⟩, k _ _ hl f⟩
theorem B64At.ne {K : PySem.W.Frag} {H : Hp} {p l : Addr} {u : B64} (h : B64At K H p l u) : l ≠ p := by
  obtain ⟨⟨dx, e⟩, f⟩ := h
  exact ne_of f e (by intro z; cases z)
structure B64Ok (m : B64) : Prop where
  len : m.oct.length < 900000
  b0 : 0 ≤ m.b
  b1 : m.b ≤ 8
  r0 : 0 ≤ m.r
def sp_worth (K : PySem.W.Frag) : Sp := fun vs H Q _ => ∃ o : Int, vs = [.int o] ∧ Q (.int (worthZ o)) H
def sp_Base64_init (K : PySem.W.Frag) : Sp := fun vs H Q _ => ∃ p dx : Addr, vs = [.ref p] ∧ H p = some (.ins (cB K) dx (F_Base64.zip [])) ∧ ∀ l H1, H l = none → B64At K H1 p l b64new → Keep [p] H H1 → Q .non H1
def sp_Base64_is_whole (K : PySem.W.Frag) : Sp := fun vs H Q _ => ∃ (p l : Addr) (m : B64), vs = [.ref p] ∧ B64At K H p l m ∧ Q (.bl (decide ((m.d + m.p) % 4 = 0))) H
def sp_Base64_take_pad (K : PySem.W.Frag) : Sp := fun vs H Q _ => ∃ (p l : Addr) (m : B64), vs = [.ref p] ∧ B64At K H p l m ∧ (b64pad m = none → Q (.bl false) H) ∧ ∀ m' H1, b64pad m = some m' → B64At K H1 p l m' → Keep [p, l] H H1 → Q (.bl true) H1
def sp_Base64_take (K : PySem.W.Frag) : Sp := fun vs H Q _ => ∃ (p l : Addr) (m : B64) (o : Int), vs = [.ref p, .int o] ∧ B64At K H p l m ∧ B64Ok m ∧ (b64take m o = none → Q (.bl false) H) ∧ ∀ m' H1, b64take m o = some m' → B64At K H1 p l m' → Keep [p, l] H H1 → Q (.bl true) H1
def sp_encode64 (K : PySem.W.Frag) : Sp := fun vs H Q _ => ∃ (a : Addr) (os : List Int), vs = [.ref a] ∧ (SqL K H a (os.map V.int) ∨ SqT K H a (os.map V.int)) ∧ os.length ≤ 1000 ∧ (∀ o ∈ os, okO o) ∧ ∀ q H1, H q = none → H1 q = some (.lst ((enc64 os).map V.int)) → Keep [] H H1 → Q (.ref q) H1
def sp__law_digits (K : PySem.W.Frag) : Sp := fun vs H Q _ => vs = [] ∧ Q (.str digitsS) H
def sp__law_encoded (K : PySem.W.Frag) : Sp := fun vs H Q _ => ∃ (a : Addr) (os : List Int), vs = [.ref a] ∧ SqL K H a (os.map V.int) ∧ os.length ≤ 1000 ∧ (∀ o ∈ os, okO o) ∧ ∀ q H1, H q = none → H1 q = some (.lst ((enc64 os).map V.int)) → Keep [] H H1 → Q (.ref q) H1
def sp__law_full (K : PySem.W.Frag) : Sp := fun vs H Q _ => ∃ (a : Addr) (ws : List Int), vs = [.ref a] ∧ SqL K H a (ws.map V.int) ∧ ws.length ≤ 1000 ∧ ∀ (q l : Addr) H1, H1 q = some (.lst [.ref l, .int (leftB (allBits ws)).sum]) → H1 l = some (.lst ((fullO (allBits ws)).map V.int)) → Keep [] H H1 → Q (.ref q) H1
/-- the law's own rule -/
def standsB (ws : List Int) (p o : Int) : Bool := if o = 61 then decide ((leftB (allBits ws)).sum = 0 ∧ (((ws.length : Int) % 4 = 2 ∧ p < 2) ∨ ((ws.length : Int) % 4 = 3 ∧ p = 0))) else decide (0 ≤ worthZ o ∧ p = 0)
def sp__law_stands (K : PySem.W.Frag) : Sp := fun vs H Q _ => ∃ (a : Addr) (ws : List Int) (p o : Int), vs = [.ref a, .int p, .int o] ∧ SqL K H a (ws.map V.int) ∧ ws.length ≤ 1000 ∧ ∀ H1, Keep [] H H1 → Q (.bl (standsB ws p o)) H1
def sp_law (K : PySem.W.Frag) : Sp := fun vs H Q _ => ∃ (a : Addr) (ns : List Int), vs = [.ref a] ∧ SqL K H a (ns.map V.int) ∧ ns.length ≤ 63 ∧ Only H ∧ ∀ H', Q (.bl true) H'
/-! worth(octet) : octet=0 -/
def N_worth : List Str := ["octet"]
def t_worth_0a_0 (K : PySem.W.Frag) : TS := (tRet (tOp rSubI (tVar 0) (tC (.int 65))))
def t_worth_1a_0 (K : PySem.W.Frag) : TS := (tRet (tOp rSubI (tVar 0) (tC (.int 71))))
def t_worth_2a_0 (K : PySem.W.Frag) : TS := (tRet (tOp rAddI (tVar 0) (tC (.int 4))))
def t_worth_3a_0 (K : PySem.W.Frag) : TS := (tRet (tC (.int 62)))
def t_worth_4a_0 (K : PySem.W.Frag) : TS := (tRet (tC (.int 63)))
def t_worth_5 (K : PySem.W.Frag) : TS := (tRet (tUn rNegI (tC (.int 1))))
def t_worth_4 (K : PySem.W.Frag) : TS := tSeq (tIfS (tTest (tOp rEq (tVar 0) (tC (.int 47)))) (t_worth_4a_0 K) tNext) (t_worth_5 K)
def t_worth_3 (K : PySem.W.Frag) : TS := tSeq (tIfS (tTest (tOp rEq (tVar 0) (tC (.int 43)))) (t_worth_3a_0 K) tNext) (t_worth_4 K)
def t_worth_2 (K : PySem.W.Frag) : TS := tSeq (tIfS (tTest (tChain rLeI rLeI (tC (.int 48)) (tVar 0) (tC (.int 57)))) (t_worth_2a_0 K) tNext) (t_worth_3 K)
def t_worth_1 (K : PySem.W.Frag) : TS := tSeq (tIfS (tTest (tChain rLeI rLeI (tC (.int 97)) (tVar 0) (tC (.int 122)))) (t_worth_1a_0 K) tNext) (t_worth_2 K)
def t_worth_0 (K : PySem.W.Frag) : TS := tSeq (tIfS (tTest (tChain rLeI rLeI (tC (.int 65)) (tVar 0) (tC (.int 90)))) (t_worth_0a_0 K) tNext) (t_worth_1 K)
/-! __init__(self) : self=0 -/
def N_Base64_init : List Str := ["self"]
def t_Base64_init_4 (K : PySem.W.Frag) : TS := (sFld K (tVar 0) (tC (.int 0)) "rest")
def t_Base64_init_3 (K : PySem.W.Frag) : TS := tSeq (sFld K (tVar 0) (tC (.int 0)) "bits") (t_Base64_init_4 K)
def t_Base64_init_2 (K : PySem.W.Frag) : TS := tSeq (sFld K (tVar 0) (tC (.int 0)) "pads") (t_Base64_init_3 K)
def t_Base64_init_1 (K : PySem.W.Frag) : TS := tSeq (sFld K (tVar 0) (tC (.int 0)) "digits") (t_Base64_init_2 K)
def t_Base64_init_0 (K : PySem.W.Frag) : TS := tSeq (sFld K (tVar 0) (tLst tNil) "octets") (t_Base64_init_1 K)
/-! is_whole(self) : self=0 -/
def N_Base64_is_whole : List Str := ["self"]
def t_Base64_is_whole_0 (K : PySem.W.Frag) : TS := (tRet (tOp rEq (tOp rModI (tOp rAddI (tFld K (tVar 0) "digits") (tFld K (tVar 0) "pads")) (tC (.int 4))) (tC (.int 0))))
/-! take_pad(self) : self=0 -/
def N_Base64_take_pad : List Str := ["self"]
def t_Base64_take_pad_0a_0 (K : PySem.W.Frag) : TS := (tRet (tC (.bl false)))
def t_Base64_take_pad_2 (K : PySem.W.Frag) : TS := (tRet (tC (.bl true)))
def t_Base64_take_pad_1 (K : PySem.W.Frag) : TS := tSeq (sFld K (tVar 0) (tOp rAddI (tFld K (tVar 0) "pads") (tC (.int 1))) "pads") (t_Base64_take_pad_2 K)
def t_Base64_take_pad_0 (K : PySem.W.Frag) : TS := tSeq (tIfS (tOr (tTest (tOp rLtI (tOp rAddI (tOp rModI (tFld K (tVar 0) "digits") (tC (.int 4))) (tFld K (tVar 0) "pads")) (tC (.int 2)))) (tOr (tTest (tOp rGtI (tOp rAddI (tOp rModI (tFld K (tVar 0) "digits") (tC (.int 4))) (tFld K (tVar 0) "pads")) (tC (.int 3)))) (tTest (tOp rNe (tFld K (tVar 0) "rest") (tC (.int 0)))))) (t_Base64_take_pad_0a_0 K) tNext) (t_Base64_take_pad_1 K)
/-! take(self, octet) : self=0 octet=1 digit=2 -/
def N_Base64_take : List Str := ["self", "octet", "digit"]
def t_Base64_take_0a_0 (K : PySem.W.Frag) : TS := (tRet (tMeth (gA "Base64" K) "take_pad" (sp_Base64_take_pad K) [] E0 (tVar 0) tNil))
def t_Base64_take_2a_0 (K : PySem.W.Frag) : TS := (tRet (tC (.bl false)))
def t_Base64_take_6a_2 (K : PySem.W.Frag) : TS := (sFld K (tVar 0) (tOp rAndI (tFld K (tVar 0) "rest") (tOp rSubI (tOp rShlI (tC (.int 1)) (tFld K (tVar 0) "bits")) (tC (.int 1)))) "rest")
def t_Base64_take_6a_1 (K : PySem.W.Frag) : TS := tSeq (tDrop (tBM K "list" rAppend (tFld K (tVar 0) "octets") (tCons (tOp rShrI (tFld K (tVar 0) "rest") (tFld K (tVar 0) "bits")) tNil))) (t_Base64_take_6a_2 K)
def t_Base64_take_6a_0 (K : PySem.W.Frag) : TS := tSeq (sFld K (tVar 0) (tOp rSubI (tFld K (tVar 0) "bits") (tC (.int 8))) "bits") (t_Base64_take_6a_1 K)
def t_Base64_take_7 (K : PySem.W.Frag) : TS := (tRet (tC (.bl true)))
def t_Base64_take_6 (K : PySem.W.Frag) : TS := tSeq (tIfS (tTest (tOp rGeI (tFld K (tVar 0) "bits") (tC (.int 8)))) (t_Base64_take_6a_0 K) tNext) (t_Base64_take_7 K)
def t_Base64_take_5 (K : PySem.W.Frag) : TS := tSeq (sFld K (tVar 0) (tOp rAddI (tFld K (tVar 0) "bits") (tC (.int 6))) "bits") (t_Base64_take_6 K)
def t_Base64_take_4 (K : PySem.W.Frag) : TS := tSeq (sFld K (tVar 0) (tOp rAddI (tOp rMulI (tFld K (tVar 0) "rest") (tC (.int 64))) (tVar 2)) "rest") (t_Base64_take_5 K)
def t_Base64_take_3 (K : PySem.W.Frag) : TS := tSeq (sFld K (tVar 0) (tOp rAddI (tFld K (tVar 0) "digits") (tC (.int 1))) "digits") (t_Base64_take_4 K)
def t_Base64_take_2 (K : PySem.W.Frag) : TS := tSeq (tIfS (tOr (tTest (tOp rLtI (tVar 2) (tC (.int 0)))) (tTest (tOp rGtI (tFld K (tVar 0) "pads") (tC (.int 0))))) (t_Base64_take_2a_0 K) tNext) (t_Base64_take_3 K)
def t_Base64_take_1 (K : PySem.W.Frag) : TS := tSeq (tAsg (tCall (sp_worth K) [] E0 (tCons (tVar 1) tNil)) (gName 2)) (t_Base64_take_2 K)
def t_Base64_take_0 (K : PySem.W.Frag) : TS := tSeq (tIfS (tTest (tOp rEq (tVar 1) (tC (.int 61)))) (t_Base64_take_0a_0 K) tNext) (t_Base64_take_1 K)
/-! encode64(octets) : octets=0 found=1 at=2 group=3 bits=4 octet=5 digits=6 digit=7 -/
def N_encode64 : List Str := ["octets", "found", "at", "group", "bits", "octet", "digits", "digit"]
def t_encode64_1a_2a_0 (K : PySem.W.Frag) : TS := (tAsg (tOp rAddI (tOp rMulI (tVar 4) (tC (.int 256))) (tVar 5)) (gName 4))
def t_encode64_1a_4a_0 (K : PySem.W.Frag) : TS := (tDrop (tBM K "list" rAppend (tVar 1) (tCons (tCB rOrd (tCons (tOp rIxS (tC (.str "ABCDEFGHIJKLMNOPQRSTUVWXYZabcdefghijklmnopqrstuvwxyz0123456789+/")) (tVar 7)) tNil)) tNil)))
def t_encode64_1a_5 (K : PySem.W.Frag) : TS := (tDrop (tBM K "list" rExtend (tVar 1) (tCons (tOp rRep (tLst (tCons (tC (.int 61)) tNil)) (tOp rSubI (tC (.int 3)) (tCB (rLenQ K) (tCons (tVar 3) tNil)))) tNil)))
def t_encode64_1a_4 (K : PySem.W.Frag) : TS := tSeq (tFor (iList K (tSl (rSlL K) (tVar 6) tNoPart (tPart (tOp rAddI (tCB (rLenQ K) (tCons (tVar 3) tNil)) (tC (.int 1)))))) (gName 7) (t_encode64_1a_4a_0 K)) (t_encode64_1a_5 K)
def t_encode64_1a_3 (K : PySem.W.Frag) : TS := tSeq (tAsg (tLst (tCons (tOp rDivI (tVar 4) (tC (.int 262144))) (tCons (tOp rModI (tOp rDivI (tVar 4) (tC (.int 4096))) (tC (.int 64))) (tCons (tOp rModI (tOp rDivI (tVar 4) (tC (.int 64))) (tC (.int 64))) (tCons (tOp rModI (tVar 4) (tC (.int 64))) tNil))))) (gName 6)) (t_encode64_1a_4 K)
def t_encode64_1a_2 (K : PySem.W.Frag) : TS := tSeq (tFor (iList K (tOp rCat (tVar 3) (tOp rRep (tLst (tCons (tC (.int 0)) tNil)) (tOp rSubI (tC (.int 3)) (tCB (rLenQ K) (tCons (tVar 3) tNil)))))) (gName 5) (t_encode64_1a_2a_0 K)) (t_encode64_1a_3 K)
def t_encode64_1a_1 (K : PySem.W.Frag) : TS := tSeq (tAsg (tC (.int 0)) (gName 4)) (t_encode64_1a_2 K)
def t_encode64_1a_0 (K : PySem.W.Frag) : TS := tSeq (tAsg (tCB (rListOf K) (tCons (tSl (rSlQ K) (tVar 0) (tPart (tVar 2)) (tPart (tOp rAddI (tVar 2) (tC (.int 3))))) tNil)) (gName 3)) (t_encode64_1a_1 K)
def t_encode64_2 (K : PySem.W.Frag) : TS := (tRet (tVar 1))
def t_encode64_1 (K : PySem.W.Frag) : TS := tSeq (tFor (iRng3 (tCons (tC (.int 0)) (tCons (tCB (rLenQ K) (tCons (tVar 0) tNil)) (tCons (tC (.int 3)) tNil)))) (gName 2) (t_encode64_1a_0 K)) (t_encode64_2 K)
def t_encode64_0 (K : PySem.W.Frag) : TS := tSeq (tAsg (tLst tNil) (gName 1)) (t_encode64_1 K)
/-! _law_digits() :  -/
def N__law_digits : List Str := []
def t__law_digits_0 (K : PySem.W.Frag) : TS := (tRet (tC (.str "ABCDEFGHIJKLMNOPQRSTUVWXYZabcdefghijklmnopqrstuvwxyz0123456789+/")))
/-! _law_encoded(_law_octets) : _law_octets=0 _law_found=1 _law_k=2 _law_bits=3 _law_j=4 _law_at=5 -/
def N__law_encoded : List Str := ["_law_octets", "_law_found", "_law_k", "_law_bits", "_law_j", "_law_at"]
def t__law_encoded_1a_1a_1a_0 (K : PySem.W.Frag) : TS := (tAsg (tOp rAddI (tVar 3) (tOp rMulI (tOp rModI (tOp rDivI (tOp (rIxL K) (tVar 0) (tOp rDivI (tVar 5) (tC (.int 8)))) (tOp (rIxL K) (tLst (tCons (tC (.int 128)) (tCons (tC (.int 64)) (tCons (tC (.int 32)) (tCons (tC (.int 16)) (tCons (tC (.int 8)) (tCons (tC (.int 4)) (tCons (tC (.int 2)) (tCons (tC (.int 1)) tNil))))))))) (tOp rModI (tVar 5) (tC (.int 8))))) (tC (.int 2))) (tOp (rIxL K) (tLst (tCons (tC (.int 32)) (tCons (tC (.int 16)) (tCons (tC (.int 8)) (tCons (tC (.int 4)) (tCons (tC (.int 2)) (tCons (tC (.int 1)) tNil))))))) (tVar 4)))) (gName 3))
def t__law_encoded_1a_1a_1 (K : PySem.W.Frag) : TS := (tIfS (tTest (tOp rLtI (tOp rDivI (tVar 5) (tC (.int 8))) (tCB (rLenQ K) (tCons (tVar 0) tNil)))) (t__law_encoded_1a_1a_1a_0 K) tNext)
def t__law_encoded_1a_1a_0 (K : PySem.W.Frag) : TS := tSeq (tAsg (tOp rAddI (tOp rMulI (tC (.int 6)) (tVar 2)) (tVar 4)) (gName 5)) (t__law_encoded_1a_1a_1 K)
def t__law_encoded_1a_2 (K : PySem.W.Frag) : TS := (tDrop (tBM K "list" rAppend (tVar 1) (tCons (tCB rOrd (tCons (tOp rIxS (tCall (sp__law_digits K) [] E0 tNil) (tVar 3)) tNil)) tNil)))
def t__law_encoded_1a_1 (K : PySem.W.Frag) : TS := tSeq (tFor (iRng1 (tCons (tC (.int 6)) tNil)) (gName 4) (t__law_encoded_1a_1a_0 K)) (t__law_encoded_1a_2 K)
def t__law_encoded_1a_0 (K : PySem.W.Frag) : TS := tSeq (tAsg (tC (.int 0)) (gName 3)) (t__law_encoded_1a_1 K)
def t__law_encoded_2a_0 (K : PySem.W.Frag) : TS := (tDrop (tBM K "list" rAppend (tVar 1) (tCons (tC (.int 61)) tNil)))
def t__law_encoded_3 (K : PySem.W.Frag) : TS := (tRet (tVar 1))
def t__law_encoded_2 (K : PySem.W.Frag) : TS := tSeq (tWhile (tTest (tOp rNe (tOp rModI (tCB (rLenQ K) (tCons (tVar 1) tNil)) (tC (.int 4))) (tC (.int 0)))) (t__law_encoded_2a_0 K)) (t__law_encoded_3 K)
def t__law_encoded_1 (K : PySem.W.Frag) : TS := tSeq (tFor (iRng1 (tCons (tOp rDivI (tOp rAddI (tOp rMulI (tCB (rLenQ K) (tCons (tVar 0) tNil)) (tC (.int 8))) (tC (.int 5))) (tC (.int 6))) tNil)) (gName 2) (t__law_encoded_1a_0 K)) (t__law_encoded_2 K)
def t__law_encoded_0 (K : PySem.W.Frag) : TS := tSeq (tAsg (tLst tNil) (gName 1)) (t__law_encoded_1 K)
/-! _law_full(_law_worths) : _law_worths=0 _law_bits=1 _law_worth=2 _law_power=3 _law_octets=4 _law_k=5 _law_octet=6 _law_j=7 -/
def N__law_full : List Str := ["_law_worths", "_law_bits", "_law_worth", "_law_power", "_law_octets", "_law_k", "_law_octet", "_law_j"]
def t__law_full_1a_0a_0 (K : PySem.W.Frag) : TS := (tDrop (tBM K "list" rAppend (tVar 1) (tCons (tOp rModI (tOp rDivI (tVar 2) (tVar 3)) (tC (.int 2))) tNil)))
def t__law_full_1a_0 (K : PySem.W.Frag) : TS := (tFor (iList K (tLst (tCons (tC (.int 32)) (tCons (tC (.int 16)) (tCons (tC (.int 8)) (tCons (tC (.int 4)) (tCons (tC (.int 2)) (tCons (tC (.int 1)) tNil)))))))) (gName 3) (t__law_full_1a_0a_0 K))
def t__law_full_3a_1a_0 (K : PySem.W.Frag) : TS := (tAsg (tOp rAddI (tOp rMulI (tVar 6) (tC (.int 2))) (tOp (rIxL K) (tVar 1) (tOp rAddI (tOp rMulI (tC (.int 8)) (tVar 5)) (tVar 7)))) (gName 6))
def t__law_full_3a_2 (K : PySem.W.Frag) : TS := (tDrop (tBM K "list" rAppend (tVar 4) (tCons (tVar 6) tNil)))
def t__law_full_3a_1 (K : PySem.W.Frag) : TS := tSeq (tFor (iRng1 (tCons (tC (.int 8)) tNil)) (gName 7) (t__law_full_3a_1a_0 K)) (t__law_full_3a_2 K)
def t__law_full_3a_0 (K : PySem.W.Frag) : TS := tSeq (tAsg (tC (.int 0)) (gName 6)) (t__law_full_3a_1 K)
def t__law_full_4 (K : PySem.W.Frag) : TS := (tRet (tLst (tCons (tVar 4) (tCons (tCB (rSum K) (tCons (tSl (rSlL K) (tVar 1) (tPart (tOp rMulI (tC (.int 8)) (tOp rDivI (tCB (rLenQ K) (tCons (tVar 1) tNil)) (tC (.int 8))))) tNoPart) tNil)) tNil))))
def t__law_full_3 (K : PySem.W.Frag) : TS := tSeq (tFor (iRng1 (tCons (tOp rDivI (tCB (rLenQ K) (tCons (tVar 1) tNil)) (tC (.int 8))) tNil)) (gName 5) (t__law_full_3a_0 K)) (t__law_full_4 K)
def t__law_full_2 (K : PySem.W.Frag) : TS := tSeq (tAsg (tLst tNil) (gName 4)) (t__law_full_3 K)
def t__law_full_1 (K : PySem.W.Frag) : TS := tSeq (tFor (iList K (tVar 0)) (gName 2) (t__law_full_1a_0 K)) (t__law_full_2 K)
def t__law_full_0 (K : PySem.W.Frag) : TS := tSeq (tAsg (tLst tNil) (gName 1)) (t__law_full_1 K)
/-! _law_stands(_law_worths, _law_pads, _law_octet) : _law_worths=0 _law_pads=1 _law_octet=2 _law_digit=3 -/
def N__law_stands : List Str := ["_law_worths", "_law_pads", "_law_octet", "_law_digit"]
def t__law_stands_0a_0a_0 (K : PySem.W.Frag) : TS := (tRet (tC (.bl false)))
def t__law_stands_0a_1 (K : PySem.W.Frag) : TS := (tRet (tOrV (tAndV (tOp rEq (tOp rModI (tCB (rLenQ K) (tCons (tVar 0) tNil)) (tC (.int 4))) (tC (.int 2))) (tOp rLtI (tVar 1) (tC (.int 2)))) (tAndV (tOp rEq (tOp rModI (tCB (rLenQ K) (tCons (tVar 0) tNil)) (tC (.int 4))) (tC (.int 3))) (tOp rEq (tVar 1) (tC (.int 0))))))
def t__law_stands_0a_0 (K : PySem.W.Frag) : TS := tSeq (tIfS (tTest (tOp rNe (tOp (rIxL K) (tCall (sp__law_full K) [] E0 (tCons (tVar 0) tNil)) (tC (.int 1))) (tC (.int 0)))) (t__law_stands_0a_0a_0 K) tNext) (t__law_stands_0a_1 K)
def t__law_stands_1a_0a_0 (K : PySem.W.Frag) : TS := (tRet (tOp rEq (tVar 1) (tC (.int 0))))
def t__law_stands_1a_0 (K : PySem.W.Frag) : TS := (tIfS (tTest (tOp rEq (tCB rOrd (tCons (tVar 3) tNil)) (tVar 2))) (t__law_stands_1a_0a_0 K) tNext)
def t__law_stands_2 (K : PySem.W.Frag) : TS := (tRet (tC (.bl false)))
def t__law_stands_1 (K : PySem.W.Frag) : TS := tSeq (tFor (iStr (tCall (sp__law_digits K) [] E0 tNil)) (gName 3) (t__law_stands_1a_0 K)) (t__law_stands_2 K)
def t__law_stands_0 (K : PySem.W.Frag) : TS := tSeq (tIfS (tTest (tOp rEq (tVar 2) (tC (.int 61)))) (t__law_stands_0a_0 K) tNext) (t__law_stands_1 K)
/-! law(_law_script) : _law_script=0 _law_state_here=1 _law_octets=2 _law_k=3 _law_written=4 _law_rows=5 _law_at=6 _law_odd=7 _law_machine=8 _law_worths=9 _law_pads=10 _law_octet=11 _law_stands_here=12 _law_taken=13 -/
def N_law : List Str := ["_law_script", "_law_state_here", "_law_octets", "_law_k", "_law_written", "_law_rows", "_law_at", "_law_odd", "_law_machine", "_law_worths", "_law_pads", "_law_octet", "_law_stands_here", "_law_taken"]
def t_law_3a_0 (K : PySem.W.Frag) : TS := (tRet (tC (.bl false)))
def t_law_5a_2 (K : PySem.W.Frag) : TS := (tAsg (tOp (rIxL K) (tLst (tCons (tOp rCat (tOp rCat (tSl (rSlL K) (tVar 5) tNoPart (tPart (tVar 6))) (tLst (tCons (tVar 7) tNil))) (tSl (rSlL K) (tVar 5) (tPart (tVar 6)) tNoPart)) (tCons (tOp rCat (tOp rCat (tSl (rSlL K) (tVar 5) tNoPart (tPart (tVar 6))) (tLst (tCons (tVar 7) tNil))) (tSl (rSlL K) (tVar 5) (tPart (tOp rAddI (tVar 6) (tC (.int 1)))) tNoPart)) (tCons (tOp rCat (tSl (rSlL K) (tVar 5) tNoPart (tPart (tVar 6))) (tSl (rSlL K) (tVar 5) (tPart (tOp rAddI (tVar 6) (tC (.int 1)))) tNoPart)) tNil)))) (tCall (sp__law_next K) [] E0 (tCons (tVar 1) (tCons (tC (.int 3)) tNil)))) (gName 5))
def t_law_5a_1 (K : PySem.W.Frag) : TS := tSeq (tAsg (tOp (rIxL K) (tLst (tCons (tCall (sp__law_next K) [] E0 (tCons (tVar 1) (tCons (tC (.int 256)) tNil))) (tCons (tOp (rIxL K) (tLst (tCons (tC (.int 61)) (tCons (tC (.int 65)) (tCons (tC (.int 47)) (tCons (tC (.int 43)) (tCons (tC (.int 57)) (tCons (tC (.int 122)) (tCons (tC (.int 64)) (tCons (tC (.int 91)) (tCons (tC (.int 96)) (tCons (tC (.int 123)) (tCons (tC (.int 58)) (tCons (tC (.int 45)) (tCons (tC (.int 95)) (tCons (tC (.int 66)) tNil))))))))))))))) (tCall (sp__law_next K) [] E0 (tCons (tVar 1) (tCons (tC (.int 14)) tNil)))) tNil))) (tCall (sp__law_next K) [] E0 (tCons (tVar 1) (tCons (tC (.int 2)) tNil)))) (gName 7)) (t_law_5a_2 K)
def t_law_5a_0 (K : PySem.W.Frag) : TS := tSeq (tAsg (tCall (sp__law_next K) [] E0 (tCons (tVar 1) (tCons (tOp rAddI (tCB (rLenQ K) (tCons (tVar 5) tNil)) (tC (.int 1))) tNil))) (gName 6)) (t_law_5a_1 K)
def t_law_9a_2a_0 (K : PySem.W.Frag) : TS := (tRet (tC (.bl false)))
def t_law_9a_3a_0 (K : PySem.W.Frag) : TS := (tAsg (tOp rAddI (tVar 10) (tC (.int 1))) (gName 10))
def t_law_9a_3b_0a_0 (K : PySem.W.Frag) : TS := (tDrop (tBM K "list" rAppend (tVar 9) (tCons (tOp (rIxL K) (tLc (iRng1 (tCons (tC (.int 64)) tNil)) (gName 3) (tTest (tOp rEq (tCB rOrd (tCons (tOp rIxS (tCall (sp__law_digits K) [] E0 tNil) (tVar 3)) tNil)) (tVar 11))) (tVar 3) [3]) (tC (.int 0))) tNil)))
def t_law_9a_3b_0 (K : PySem.W.Frag) : TS := (tIfS (tB (tVar 12)) (t_law_9a_3b_0a_0 K) tNext)
def t_law_9a_4a_0 (K : PySem.W.Frag) : TS := (tRet (tC (.bl false)))
def t_law_9a_4 (K : PySem.W.Frag) : TS := (tIfS (tOr (tTest (tOp (rNeD K) (tFld K (tVar 8) "octets") (tOp (rIxL K) (tCall (sp__law_full K) [] E0 (tCons (tVar 9) tNil)) (tC (.int 0))))) (tTest (tOp (rNeD K) (tProp (gA "Base64" K) (sp_Base64_is_whole K) [] E0 (tVar 8)) (tOp rEq (tOp rModI (tOp rAddI (tCB (rLenQ K) (tCons (tVar 9) tNil)) (tVar 10)) (tC (.int 4))) (tC (.int 0)))))) (t_law_9a_4a_0 K) tNext)
def t_law_9a_3 (K : PySem.W.Frag) : TS := tSeq (tIfS (tAnd (tB (tVar 12)) (tTest (tOp rEq (tVar 11) (tC (.int 61))))) (t_law_9a_3a_0 K) (t_law_9a_3b_0 K)) (t_law_9a_4 K)
def t_law_9a_2 (K : PySem.W.Frag) : TS := tSeq (tIfS (tOr (tNot (tB (tCB (rIsi K) (tCons (tVar 13) (tCons (tC (.ty "bool")) tNil))))) (tTest (tOp (rNeD K) (tVar 13) (tVar 12)))) (t_law_9a_2a_0 K) tNext) (t_law_9a_3 K)
def t_law_9a_1 (K : PySem.W.Frag) : TS := tSeq (tAsg (tMeth (gA "Base64" K) "take" (sp_Base64_take K) [] E0 (tVar 8) (tCons (tVar 11) tNil)) (gName 13)) (t_law_9a_2 K)
def t_law_9a_0 (K : PySem.W.Frag) : TS := tSeq (tAsg (tCall (sp__law_stands K) [] E0 (tCons (tVar 9) (tCons (tVar 10) (tCons (tVar 11) tNil)))) (gName 12)) (t_law_9a_1 K)
def t_law_10 (K : PySem.W.Frag) : TS := (tRet (tOrV (tOp (rNeD K) (tVar 5) (tVar 4)) (tAndV (tOp (rEqD K) (tFld K (tVar 8) "octets") (tVar 2)) (tOp rIsB (tProp (gA "Base64" K) (sp_Base64_is_whole K) [] E0 (tVar 8)) (tC (.bl true))))))
def t_law_9 (K : PySem.W.Frag) : TS := tSeq (tFor (iList K (tVar 5)) (gName 11) (t_law_9a_0 K)) (t_law_10 K)
def t_law_8 (K : PySem.W.Frag) : TS := tSeq (tAsg (tC (.int 0)) (gName 10)) (t_law_9 K)
def t_law_7 (K : PySem.W.Frag) : TS := tSeq (tAsg (tLst tNil) (gName 9)) (t_law_8 K)
def t_law_6 (K : PySem.W.Frag) : TS := tSeq (tAsg (tMake (gA "Base64" K) (sp_Base64_init K) [] E0 tNil) (gName 8)) (t_law_7 K)
def t_law_5 (K : PySem.W.Frag) : TS := tSeq (tFor (iRng1 (tCons (tCall (sp__law_next K) [] E0 (tCons (tVar 1) (tCons (tC (.int 3)) tNil))) tNil)) (gName 3) (t_law_5a_0 K)) (t_law_6 K)
def t_law_4 (K : PySem.W.Frag) : TS := tSeq (tAsg (tCB (rListOf K) (tCons (tVar 4) tNil)) (gName 5)) (t_law_5 K)
def t_law_3 (K : PySem.W.Frag) : TS := tSeq (tIfS (tOr (tTest (tOp (rNeD K) (tCall (sp_encode64 K) [] E0 (tCons (tVar 2) tNil)) (tVar 4))) (tTest (tOp (rNeD K) (tCall (sp_encode64 K) [] E0 (tCons (tCB (rTupOf K) (tCons (tVar 2) tNil)) tNil)) (tVar 4)))) (t_law_3a_0 K) tNext) (t_law_4 K)
def t_law_2 (K : PySem.W.Frag) : TS := tSeq (tAsg (tCall (sp__law_encoded K) [] E0 (tCons (tVar 2) tNil)) (gName 4)) (t_law_3 K)
def t_law_1 (K : PySem.W.Frag) : TS := tSeq (tAsg (tLc (iRng1 (tCons (tCall (sp__law_next K) [] E0 (tCons (tVar 1) (tCons (tOp (rIxL K) (tLst (tCons (tC (.int 4)) (tCons (tC (.int 30)) tNil))) (tCall (sp__law_next K) [] E0 (tCons (tVar 1) (tCons (tC (.int 2)) tNil)))) tNil))) tNil)) (gName 3) tYes (tOp (rIxL K) (tLst (tCons (tCall (sp__law_next K) [] E0 (tCons (tVar 1) (tCons (tC (.int 256)) tNil))) (tCons (tC (.int 255)) (tCons (tC (.int 0)) tNil)))) (tCall (sp__law_next K) [] E0 (tCons (tVar 1) (tCons (tC (.int 3)) tNil)))) [3]) (gName 2)) (t_law_2 K)
def t_law_0 (K : PySem.W.Frag) : TS := tSeq (tAsg (tCall (sp__law_state K) [] E0 (tCons (tVar 0) (tCons (tC (.int 0)) tNil))) (gName 1)) (t_law_1 K)
section
variable {K : PySem.W.Frag}
theorem len_worth {vs : List V} {H : Hp} {Q : VK} {E : XK} (h : sp_worth K vs H Q E) : vs.length = 1 := by obtain ⟨_, rfl, _⟩ := h; rfl
theorem r_worth {vs : List V} {H : Hp} {Q : VK} {E : XK} (h : sp_worth K vs H Q E) : t_worth_0 K { nx := fun _ H' => Q .non H', rt := Q } (start N_worth vs) H := by
  obtain ⟨o, rfl, hq⟩ := h
  unfold worthZ at hq
  have w3 : ¬ (65 ≤ o ∧ o ≤ 90) → ¬ (97 ≤ o ∧ o ≤ 122) → ¬ (48 ≤ o ∧ o ≤ 57) → t_worth_3 K { nx := fun _ H' => Q .non H', rt := Q } (start N_worth [.int o]) H := fun h1 h2 h3 => by
    rw [if_neg h1, if_neg h2, if_neg h3] at hq
    unfold t_worth_3
    walk_at "go"
    refine i_D (fun a => ?_) (fun a => ?_)
    · rw [if_pos a] at hq
      unfold t_worth_3a_0
      walk_at "go"
      exact hq
    · rw [if_neg a] at hq
      walk_at "go"
      unfold t_worth_4
      walk_at "go"
      refine i_D (fun b => ?_) (fun b => ?_)
      · rw [if_pos b] at hq
        unfold t_worth_4a_0
        walk_at "go"
        exact hq
      · rw [if_neg b] at hq
        walk_at "go"
        unfold t_worth_5
        walk_at "go"
        exact hq
  have w2 : ¬ (65 ≤ o ∧ o ≤ 90) → ¬ (97 ≤ o ∧ o ≤ 122) → t_worth_2 K { nx := fun _ H' => Q .non H', rt := Q } (start N_worth [.int o]) H := fun h1 h2 => by
    unfold t_worth_2
    walk_at "go"
    refine i_D (fun a => ?_) (fun a => ?_)
    · walk_at "go"
      refine i_D (fun b => ?_) (fun b => ?_)
      · rw [if_neg h1, if_neg h2, if_pos ⟨a, b⟩] at hq
        unfold t_worth_2a_0
        walk_at "go"
        exact hq
      · walk_at "go"
        exact w3 h1 h2 (fun z => b z.2)
    · walk_at "go"
      exact w3 h1 h2 (fun z => a z.1)
  have w1 : ¬ (65 ≤ o ∧ o ≤ 90) → t_worth_1 K { nx := fun _ H' => Q .non H', rt := Q } (start N_worth [.int o]) H := fun h1 => by
    unfold t_worth_1
    walk_at "go"
    refine i_D (fun a => ?_) (fun a => ?_)
    · walk_at "go"
      refine i_D (fun b => ?_) (fun b => ?_)
      · rw [if_neg h1, if_pos ⟨a, b⟩] at hq
        unfold t_worth_1a_0
        walk_at "go"
        exact hq
      · walk_at "go"
        exact w2 h1 (fun z => b z.2)
    · walk_at "go"
      exact w2 h1 (fun z => a z.1)
  unfold t_worth_0
  walk_at "go"
  refine i_D (fun a => ?_) (fun a => ?_)
  · walk_at "go"
    refine i_D (fun b => ?_) (fun b => ?_)
    · rw [if_pos ⟨a, b⟩] at hq
      unfold t_worth_0a_0
      walk_at "go"
      exact hq
    · walk_at "go"
      exact w1 (fun z => b z.2)
  · walk_at "go"
    exact w1 (fun z => a z.1)
theorem len_Base64_init {vs : List V} {H : Hp} {Q : VK} {E : XK} (h : sp_Base64_init K vs H Q E) : vs.length = 1 := by obtain ⟨_, _, rfl, _⟩ := h; rfl
theorem r_Base64_init (kU : Kls K "Base64" F_Base64) {vs : List V} {H : Hp} {Q : VK} {E : XK} (h : sp_Base64_init K vs H Q E) : t_Base64_init_0 K { nx := fun _ H' => Q .non H', rt := Q } (start N_Base64_init vs) H := by
  obtain ⟨p, dx, rfl, hp, hq⟩ := h
  unfold t_Base64_init_0
  walk_at "go"
  intro l H1 n1
  walk_at "go"
  refine i_putN kU (n1.keep [] _ _ (by simp) hp) rfl (by decide) ?_
  unfold t_Base64_init_1
  walk_at "go"
  refine i_putN kU upd_same rfl (by decide) ?_
  unfold t_Base64_init_2
  walk_at "go"
  refine i_putN kU upd_same rfl (by decide) ?_
  unfold t_Base64_init_3
  walk_at "go"
  refine i_putN kU upd_same rfl (by decide) ?_
  unfold t_Base64_init_4
  walk_at "go"
  refine i_putN kU upd_same rfl (by decide) ?_
  have ne : l ≠ p := (ne_of_none hp n1.free).symm
  refine hq l _ n1.free ⟨⟨dx, upd_same⟩, ?_⟩ ?_
  · rw [upd_ne ne, upd_ne ne, upd_ne ne, upd_ne ne, upd_ne ne]
    exact n1.at_
  · have k : Keep [p] H H1 := n1.keep _
    exact ((((k.put (.inl (by simp))).put (.inl (by simp))).put (.inl (by simp))).put (.inl (by simp))).put (.inl (by simp))
theorem len_Base64_is_whole {vs : List V} {H : Hp} {Q : VK} {E : XK} (h : sp_Base64_is_whole K vs H Q E) : vs.length = 1 := by obtain ⟨_, _, _, rfl, _⟩ := h; rfl
theorem r_Base64_is_whole (kU : Kls K "Base64" F_Base64) {vs : List V} {H : Hp} {Q : VK} {E : XK} (h : sp_Base64_is_whole K vs H Q E) : t_Base64_is_whole_0 K { nx := fun _ H' => Q .non H', rt := Q } (start N_Base64_is_whole vs) H := by
  obtain ⟨p, l, m, rfl, ⟨⟨dx, hp⟩, hl⟩, hq⟩ := h
  unfold t_Base64_is_whole_0
  walk_at "go"
  refine i_fldK kU hp 1 rfl rfl ?_
  walk_at "go"
  refine i_fldK kU hp 2 rfl rfl ?_
  walk_at "go"
  exact hq
theorem len_Base64_take_pad {vs : List V} {H : Hp} {Q : VK} {E : XK} (h : sp_Base64_take_pad K vs H Q E) : vs.length = 1 := by obtain ⟨_, _, _, rfl, _⟩ := h; rfl
theorem r_Base64_take_pad (kU : Kls K "Base64" F_Base64) {vs : List V} {H : Hp} {Q : VK} {E : XK} (h : sp_Base64_take_pad K vs H Q E) : t_Base64_take_pad_0 K { nx := fun _ H' => Q .non H', rt := Q } (start N_Base64_take_pad vs) H := by
  obtain ⟨p, l, m, rfl, hm, hno, hyes⟩ := h
  have hne := hm.ne
  obtain ⟨⟨dx, hp⟩, hl⟩ := id hm
  have bad : (m.d % 4 + m.p < 2 ∨ m.d % 4 + m.p > 3 ∨ m.r ≠ 0) → Q (.bl false) H := fun c => hno (if_pos c)
  unfold t_Base64_take_pad_0
  walk_at "go"
  refine i_fldK kU hp 1 rfl rfl ?_
  walk_at "go"
  refine i_fldK kU hp 2 rfl rfl ?_
  walk_at "go"
  refine i_D (fun h1 => ?_) (fun h1 => ?_)
  · unfold t_Base64_take_pad_0a_0
    walk_at "go"
    exact bad (.inl h1)
  · walk_at "go"
    refine i_fldK kU hp 1 rfl rfl ?_
    walk_at "go"
    refine i_fldK kU hp 2 rfl rfl ?_
    walk_at "go"
    refine i_D (fun h2 => ?_) (fun h2 => ?_)
    · unfold t_Base64_take_pad_0a_0
      walk_at "go"
      exact bad (.inr (.inl h2))
    · walk_at "go"
      refine i_fldK kU hp 4 rfl rfl ?_
      walk_at "go"
      refine i_ND (fun h3 => ?_) (fun h3 => ?_)
      · unfold t_Base64_take_pad_0a_0
        walk_at "go"
        exact bad (.inr (.inr h3))
      · walk_at "go"
        unfold t_Base64_take_pad_1
        walk_at "go"
        refine i_fldK kU hp 2 rfl rfl ?_
        walk_at "go"
        refine i_putK kU hp 2 rfl (Nat.le_of_ble_eq_true rfl) (by decide) ?_
        unfold t_Base64_take_pad_2
        walk_at "go"
        refine hyes { m with p := m.p + 1 } _ (if_neg (by simp; omega)) ⟨⟨dx, upd_same⟩, ?_⟩ (.put (.refl _) (.inl (by simp)))
        rw [upd_ne hne]
        exact hl
theorem len_Base64_take {vs : List V} {H : Hp} {Q : VK} {E : XK} (h : sp_Base64_take K vs H Q E) : vs.length = 2 := by obtain ⟨_, _, _, _, rfl, _⟩ := h; rfl
theorem r_Base64_take (kU : Kls K "Base64" F_Base64) {vs : List V} {H : Hp} {Q : VK} {E : XK} (h : sp_Base64_take K vs H Q E) : t_Base64_take_0 K { nx := fun _ H' => Q .non H', rt := Q } (start N_Base64_take vs) H := by
  obtain ⟨p, l, m, o, rfl, hm, hok, hno, hyes⟩ := h
  have hne := hm.ne
  obtain ⟨⟨dx, hp⟩, hl⟩ := id hm
  unfold t_Base64_take_0
  walk_at "go"
  refine i_D (fun h1 => ?_) (fun h1 => ?_)
  · have e : b64take m o = b64pad m := if_pos h1
    rw [e] at hno
    unfold t_Base64_take_0a_0
    walk_at "go"
    refine i_methK hp (by decide +kernel) ?_
    walk_at "go"
    exact ⟨p, l, m, rfl, hm, hno, fun m' H1 e1 => hyes m' H1 (e.trans e1)⟩
  · have e : b64take m o = if worthZ o < 0 ∨ m.p > 0 then none else some (b64put m (worthZ o)) := if_neg h1
    walk_at "go"
    unfold t_Base64_take_1
    walk_at "go"
    refine ⟨o, rfl, ?_⟩
    walk_at "go"
    unfold t_Base64_take_2
    walk_at "go"
    refine i_D (fun h2 => ?_) (fun h2 => ?_)
    · unfold t_Base64_take_2a_0
      walk_at "go"
      exact hno (by rw [e, if_pos (.inl h2)])
    · walk_at "go"
      refine i_fldK kU hp 2 rfl rfl ?_
      walk_at "go"
      refine i_D (fun h3 => ?_) (fun h3 => ?_)
      · unfold t_Base64_take_2a_0
        walk_at "go"
        exact hno (by rw [e, if_pos (.inr h3)])
      · rw [if_neg (by omega)] at e
        walk_at "go"
        unfold t_Base64_take_3
        walk_at "go"
        refine i_fldK kU hp 1 rfl rfl ?_
        walk_at "go"
        refine i_putK kU hp 1 rfl (Nat.le_of_ble_eq_true rfl) (by decide) ?_
        unfold t_Base64_take_4
        walk_at "go"
        refine i_fldK kU upd_same 4 rfl rfl ?_
        walk_at "go"
        refine i_putK kU upd_same 4 rfl (Nat.le_of_ble_eq_true rfl) (by decide) ?_
        unfold t_Base64_take_5
        walk_at "go"
        refine i_fldK kU upd_same 3 rfl rfl ?_
        walk_at "go"
        refine i_putK kU upd_same 3 rfl (Nat.le_of_ble_eq_true rfl) (by decide) ?_
        unfold t_Base64_take_6
        walk_at "go"
        refine i_fldK kU upd_same 3 rfl rfl ?_
        walk_at "go"
        have kp : p ∈ [p, l] := by simp
        have kl : l ∈ [p, l] := by simp
        have hr0 := hok.r0
        have hb0 := hok.b0
        have hb1 := hok.b1
        refine i_D (fun h4 => ?_) (fun h4 => ?_)
        · unfold t_Base64_take_6a_0
          walk_at "go"
          refine i_fldK kU upd_same 3 rfl rfl ?_
          walk_at "go"
          refine i_putK kU upd_same 3 rfl (Nat.le_of_ble_eq_true rfl) (by decide) ?_
          unfold t_Base64_take_6a_1
          walk_at "go"
          refine i_fldK kU upd_same 0 rfl rfl ?_
          have hl4 : ∀ {a b c d : HO}, (upd (upd (upd (upd H p a) p b) p c) p d) l = some (.lst (m.oct.map V.int)) := fun {a b c d} => by
            rw [upd_ne hne, upd_ne hne, upd_ne hne, upd_ne hne]
            exact hl
          refine ⟨ty_lst hl4, ?_⟩
          walk_at "go"
          refine i_fldK kU upd_same 4 rfl rfl ?_
          walk_at "go"
          refine i_fldK kU upd_same 3 rfl rfl ?_
          refine i_shr (by omega) ?_
          walk_at "go"
          refine i_app hl4 (by rw [List.length_map]; have := hok.len; omega) ?_
          unfold t_Base64_take_6a_2
          have pl : p ≠ l := fun z => hne z.symm
          walk_at "go"
          refine i_fldK kU (by rw [upd_ne pl]; exact upd_same) 4 rfl rfl ?_
          walk_at "go"
          refine i_fldK kU (by rw [upd_ne pl]; exact upd_same) 3 rfl rfl ?_
          refine i_shl ⟨by omega, by omega, by decide⟩ ?_
          walk_at "go"
          refine i_putK kU (by rw [upd_ne pl]; exact upd_same) 4 rfl (Nat.le_of_ble_eq_true rfl) (by decide) ?_
          unfold t_Base64_take_7
          walk_at "go"
          refine hyes _ _ e ⟨⟨dx, ?_⟩, ?_⟩ ?_
          · rw [upd_same, and_mask (by omega)]
            unfold b64put
            rw [if_pos h4]
            rfl
          · rw [upd_ne hne, upd_same]
            unfold b64put
            rw [if_pos h4]
            simp
          · exact (((((Keep.refl H).put (.inl kp)).put (.inl kp)).put (.inl kp)).put (.inl kp)).put (.inl kl) |>.put (.inl kp)
        · walk_at "go"
          unfold t_Base64_take_7
          walk_at "go"
          refine hyes _ _ e ⟨⟨dx, ?_⟩, ?_⟩ ?_
          · rw [upd_same]
            unfold b64put
            rw [if_neg h4]
            rfl
          · rw [upd_ne hne, upd_ne hne, upd_ne hne]
            unfold b64put
            rw [if_neg h4]
            exact hl
          · exact (((Keep.refl H).put (.inl kp)).put (.inl kp)).put (.inl kp)
end
/-! ### digits: the two ways -/
def grpN (g : List Int) : Int := g.foldl (fun b o => b * 256 + o) 0
def grpD (g : List Int) : List Int := ([grpN (g ++ List.replicate (3 - g.length) 0) / 262144, grpN (g ++ List.replicate (3 - g.length) 0) / 4096 % 64, grpN (g ++ List.replicate (3 - g.length) 0) / 64 % 64, grpN (g ++ List.replicate (3 - g.length) 0) % 64] : List Int).take (g.length + 1)
theorem grp_ok {g : List Int} (h : ∀ o ∈ g, okO o) (h1 : 1 ≤ g.length) (h3 : g.length ≤ 3) : enc64 g = (grpD g).map alZ ++ List.replicate (3 - g.length) 61 ∧ ∀ d ∈ grpD g, 0 ≤ d ∧ d < 64 := by
  match g, h, h1, h3 with
  | [a], h, _, _ =>
    have ha := h a (by simp)
    unfold okO at ha
    have e : grpN ([a] ++ List.replicate (3 - [a].length) 0) = ((0 * 256 + a) * 256 + 0) * 256 + 0 := rfl
    have e1 : (((0 * 256 + a) * 256 + 0) * 256 + 0) / 262144 = a / 4 := by omega
    have e2 : (((0 * 256 + a) * 256 + 0) * 256 + 0) / 4096 % 64 = a % 4 * 16 := by omega
    unfold grpD
    rw [e, e1, e2]
    refine ⟨rfl, fun d hd => ?_⟩
    simp at hd
    omega
  | [a, b], h, _, _ =>
    have ha := h a (by simp)
    have hb := h b (by simp)
    unfold okO at ha hb
    have e : grpN ([a, b] ++ List.replicate (3 - [a, b].length) 0) = ((0 * 256 + a) * 256 + b) * 256 + 0 := rfl
    have e1 : (((0 * 256 + a) * 256 + b) * 256 + 0) / 262144 = a / 4 := by omega
    have e2 : (((0 * 256 + a) * 256 + b) * 256 + 0) / 4096 % 64 = a % 4 * 16 + b / 16 := by omega
    have e3 : (((0 * 256 + a) * 256 + b) * 256 + 0) / 64 % 64 = b % 16 * 4 := by omega
    unfold grpD
    rw [e, e1, e2, e3]
    refine ⟨rfl, fun d hd => ?_⟩
    simp at hd
    omega
  | [a, b, c], h, _, _ =>
    have ha := h a (by simp)
    have hb := h b (by simp)
    have hc := h c (by simp)
    unfold okO at ha hb hc
    have e : grpN ([a, b, c] ++ List.replicate (3 - [a, b, c].length) 0) = ((0 * 256 + a) * 256 + b) * 256 + c := rfl
    have e1 : (((0 * 256 + a) * 256 + b) * 256 + c) / 262144 = a / 4 := by omega
    have e2 : (((0 * 256 + a) * 256 + b) * 256 + c) / 4096 % 64 = a % 4 * 16 + b / 16 := by omega
    have e3 : (((0 * 256 + a) * 256 + b) * 256 + c) / 64 % 64 = b % 16 * 4 + c / 64 := by omega
    have e4 : (((0 * 256 + a) * 256 + b) * 256 + c) % 64 = c % 64 := by omega
    unfold grpD
    rw [e, e1, e2, e3, e4]
    refine ⟨rfl, fun d hd => ?_⟩
    simp at hd
    omega
  | _ :: _ :: _ :: _ :: t, _, _, h3 => simp at h3
theorem enc_app : ∀ {n : Nat} {xs ys : List Int}, xs.length = 3 * n → enc64 (xs ++ ys) = enc64 xs ++ enc64 ys
  | 0, xs, ys, h => by
    obtain rfl : xs = [] := List.eq_nil_of_length_eq_zero h
    rfl
  | n + 1, [], ys, h => by simp at h <;> omega
  | n + 1, [a], ys, h => by simp at h <;> omega
  | n + 1, [a, b], ys, h => by simp at h <;> omega
  | n + 1, a :: b :: c :: t, ys, h => by
    have z := enc_app (n := n) (xs := t) (ys := ys) (by simp at h; omega)
    show alZ (a / 4) :: alZ (a % 4 * 16 + b / 16) :: alZ (b % 16 * 4 + c / 64) :: alZ (c % 64) :: enc64 (t ++ ys) = _
    rw [z]
    rfl
theorem enc_len : ∀ os : List Int, (enc64 os).length = (os.length + 2) / 3 * 4
  | [] => rfl
  | [a] => by simp [enc64]
  | [a, b] => by simp [enc64]
  | a :: b :: c :: t => by
    show (enc64 t).length + 1 + 1 + 1 + 1 = _
    rw [enc_len t]
    simp only [List.length_cons]
    omega
def p8 (n : Nat) : Int := [128, 64, 32, 16, 8, 4, 2, 1].getD n 1
def w6 (n : Nat) : Int := [32, 16, 8, 4, 2, 1].getD n 0
def bitAt (os : List Int) (n : Nat) : Int := os.getD (n / 8) 0 / p8 (n % 8) % 2
def digS (os : List Int) (k : Nat) : Nat → Int
  | 0 => 0
  | j + 1 => digS os k j + bitAt os (6 * k + j) * w6 j
def dig (os : List Int) (k : Nat) : Int := digS os k 6
def encL (os : List Int) : List Int := (List.range ((8 * os.length + 5) / 6)).map fun k => alZ (dig os k)
theorem bit_shift (a b c : Int) (t : List Int) (n : Nat) : bitAt (a :: b :: c :: t) (n + 24) = bitAt t n := by
  unfold bitAt
  have e1 : (n + 24) / 8 = n / 8 + 3 := by omega
  have e2 : (n + 24) % 8 = n % 8 := by omega
  rw [e1, e2]
  rfl
theorem dig_shift (a b c : Int) (t : List Int) (k : Nat) : dig (a :: b :: c :: t) (k + 4) = dig t k := by
  have h : ∀ j, digS (a :: b :: c :: t) (k + 4) j = digS t k j := fun j => by
    induction j with
    | zero => rfl
    | succ j ih =>
      show digS (a :: b :: c :: t) (k + 4) j + bitAt (a :: b :: c :: t) (6 * (k + 4) + j) * w6 j = digS t k j + bitAt t (6 * k + j) * w6 j
      have e : 6 * (k + 4) + j = 6 * k + j + 24 := by omega
      rw [ih, e, bit_shift]
  exact h 6
theorem dig_bits (x0 x1 x2 x3 x4 x5 : Int) (os : List Int) (k : Nat) (h0 : bitAt os (6 * k) = x0) (h1 : bitAt os (6 * k + 1) = x1) (h2 : bitAt os (6 * k + 2) = x2) (h3 : bitAt os (6 * k + 3) = x3) (h4 : bitAt os (6 * k + 4) = x4) (h5 : bitAt os (6 * k + 5) = x5) :
    dig os k = x0 * 32 + x1 * 16 + x2 * 8 + x3 * 4 + x4 * 2 + x5 := by
  show 0 + bitAt os (6 * k + 0) * 32 + bitAt os (6 * k + 1) * 16 + bitAt os (6 * k + 2) * 8 + bitAt os (6 * k + 3) * 4 + bitAt os (6 * k + 4) * 2 + bitAt os (6 * k + 5) * 1 = _
  rw [Nat.add_zero, h0, h1, h2, h3, h4, h5]
  omega
theorem dig0 {a : Int} {t : List Int} (h : okO a) : dig (a :: t) 0 = a / 4 := by
  unfold okO at h
  rw [dig_bits (a / 128 % 2) (a / 64 % 2) (a / 32 % 2) (a / 16 % 2) (a / 8 % 2) (a / 4 % 2) _ _ rfl rfl rfl rfl rfl rfl]
  omega
theorem dig1 {a b : Int} {t : List Int} (h : okO a) (h2 : okO b) : dig (a :: b :: t) 1 = a % 4 * 16 + b / 16 := by
  unfold okO at h h2
  rw [dig_bits (a / 2 % 2) (a / 1 % 2) (b / 128 % 2) (b / 64 % 2) (b / 32 % 2) (b / 16 % 2) _ _ rfl rfl rfl rfl rfl rfl]
  omega
theorem dig1' {a : Int} (h : okO a) : dig [a] 1 = a % 4 * 16 := by
  unfold okO at h
  rw [dig_bits (a / 2 % 2) (a / 1 % 2) 0 0 0 0 _ _ rfl rfl rfl rfl rfl rfl]
  omega
theorem dig2 {a b c : Int} {t : List Int} (h : okO b) (h2 : okO c) : dig (a :: b :: c :: t) 2 = b % 16 * 4 + c / 64 := by
  unfold okO at h h2
  rw [dig_bits (b / 8 % 2) (b / 4 % 2) (b / 2 % 2) (b / 1 % 2) (c / 128 % 2) (c / 64 % 2) _ _ rfl rfl rfl rfl rfl rfl]
  omega
theorem dig2' {a b : Int} (h : okO b) : dig [a, b] 2 = b % 16 * 4 := by
  unfold okO at h
  rw [dig_bits (b / 8 % 2) (b / 4 % 2) (b / 2 % 2) (b / 1 % 2) 0 0 _ _ rfl rfl rfl rfl rfl rfl]
  omega
theorem dig3 {a b c : Int} {t : List Int} (h : okO c) : dig (a :: b :: c :: t) 3 = c % 64 := by
  unfold okO at h
  rw [dig_bits (c / 32 % 2) (c / 16 % 2) (c / 8 % 2) (c / 4 % 2) (c / 2 % 2) (c / 1 % 2) _ _ rfl rfl rfl rfl rfl rfl]
  omega
theorem encL_is : ∀ {os : List Int}, (∀ o ∈ os, okO o) → enc64 os = encL os ++ List.replicate ((4 - (encL os).length % 4) % 4) 61
  | [], _ => rfl
  | [a], h => by
    have e : encL [a] = [alZ (dig [a] 0), alZ (dig [a] 1)] := by
      unfold encL
      have e2 : (8 * [a].length + 5) / 6 = 2 := by simp
      rw [e2]
      rfl
    rw [e, dig0 (h a (by simp)), dig1' (h a (by simp))]
    rfl
  | [a, b], h => by
    have e : encL [a, b] = [alZ (dig [a, b] 0), alZ (dig [a, b] 1), alZ (dig [a, b] 2)] := by
      unfold encL
      have e2 : (8 * [a, b].length + 5) / 6 = 3 := by simp
      rw [e2]
      rfl
    rw [e, dig0 (h a (by simp)), dig1 (h a (by simp)) (h b (by simp)), dig2' (h b (by simp))]
    rfl
  | a :: b :: c :: t, h => by
    have z := encL_is (os := t) (fun o ho => h o (by simp [ho]))
    have e : encL (a :: b :: c :: t) = alZ (dig (a :: b :: c :: t) 0) :: alZ (dig (a :: b :: c :: t) 1) :: alZ (dig (a :: b :: c :: t) 2) :: alZ (dig (a :: b :: c :: t) 3) :: encL t := by
      have e1 : (8 * (a :: b :: c :: t).length + 5) / 6 = (8 * t.length + 5) / 6 + 1 + 1 + 1 + 1 := by
        simp only [List.length_cons]
        omega
      unfold encL
      rw [e1]
      simp only [List.range_succ_eq_map, List.map_cons, List.map_map]
      refine congrArg _ (congrArg _ (congrArg _ (congrArg _ ?_)))
      refine List.map_congr_left fun k _ => ?_
      show alZ (dig (a :: b :: c :: t) (k + 4)) = _
      rw [dig_shift]
    have e4 : (4 - (encL (a :: b :: c :: t)).length % 4) % 4 = (4 - (encL t).length % 4) % 4 := by
      rw [e]
      simp only [List.length_cons]
      omega
    rw [e4, e, dig0 (h a (by simp)), dig1 (h a (by simp)) (h b (by simp)), dig2 (h b (by simp)) (h c (by simp)), dig3 (h c (by simp))]
    show alZ (a / 4) :: alZ (a % 4 * 16 + b / 16) :: alZ (b % 16 * 4 + c / 64) :: alZ (c % 64) :: enc64 t = _
    rw [z]
    simp only [List.cons_append]
theorem bit_bd (os : List Int) (n : Nat) : bitAt os n = 0 ∨ bitAt os n = 1 := by
  unfold bitAt
  omega
theorem dig_bd (os : List Int) (k : Nat) : 0 ≤ dig os k ∧ dig os k < 64 := by
  have h0 := bit_bd os (6 * k)
  have h1 := bit_bd os (6 * k + 1)
  have h2 := bit_bd os (6 * k + 2)
  have h3 := bit_bd os (6 * k + 3)
  have h4 := bit_bd os (6 * k + 4)
  have h5 := bit_bd os (6 * k + 5)
  rw [dig_bits _ _ _ _ _ _ os k rfl rfl rfl rfl rfl rfl]
  omega
theorem bit_out {os : List Int} {n : Nat} (h : os.length ≤ n / 8) : bitAt os n = 0 := by
  unfold bitAt
  rw [List.getD_eq_getElem?_getD, List.getElem?_eq_none h, Option.getD_none, Int.zero_ediv]
  rfl
section
theorem get_map {ns : List Int} {i : Nat} {x : V} (h : (ns.map V.int)[i]? = some x) : ∃ n, ns[i]? = some n ∧ x = .int n := by
  rw [List.getElem?_map] at h
  cases e : ns[i]? with
  | none => rw [e] at h; cases h
  | some n => rw [e] at h; exact ⟨n, rfl, (Option.some.inj h).symm⟩
theorem take_succ {ns : List Int} {i : Nat} {x : Int} (h : ns[i]? = some x) : ns.take (i + 1) = ns.take i ++ [x] := by
  rw [List.take_succ, h]
  rfl
end
section
variable {K : PySem.W.Frag}
theorem digits_ix {d : Int} (h : 0 ≤ d ∧ d < 64) : ∃ c : Nat, atI digitsS.cps.toList d = some c ∧ (c : Int) = alZ d := by
  obtain ⟨n, rfl⟩ : ∃ n : Nat, d = n := ⟨d.toNat, by omega⟩
  refine ⟨_, atI_nat (digits_at n (by omega)), ?_⟩
  have := al_pos h
  omega
theorem digits_small : digitsS.length ≤ sizeLine := by
  have e : digitsS.length = 64 := digits_len
  rw [e]
  decide
theorem rep_flat {n : Nat} {x : V} : (List.replicate n [x]).flatten = List.replicate n x := by
  induction n with
  | zero => rfl
  | succ n ih => rw [List.replicate_succ, List.flatten_cons, ih]; rfl
theorem len_encode64 {vs : List V} {H : Hp} {Q : VK} {E : XK} (h : sp_encode64 K vs H Q E) : vs.length = 1 := by obtain ⟨_, _, rfl, _⟩ := h; rfl
theorem r_encode64 {vs : List V} {H : Hp} {Q : VK} {E : XK} (h : sp_encode64 K vs H Q E) : t_encode64_0 K { nx := fun _ H' => Q .non H', rt := Q } (start N_encode64 vs) H := by
  obtain ⟨a, os, rfl, ha, hlen, hok, hq⟩ := h
  unfold t_encode64_0
  walk_at "go"
  intro q H1 n1
  walk_at "go"
  unfold t_encode64_1
  walk_at "go"
  refine i_rng3 ?_
  walk_at "go"
  have haK : ∀ {H2 : Hp}, Keep [] H H2 → SqL K H2 a (os.map V.int) ∨ SqT K H2 a (os.map V.int) := fun k => ha.elim (fun h => .inl (k.sqL (by simp) h)) (fun h => .inr (k.sqT (by simp) h))
  refine i_lenQ (haK (n1.keep [])) ?_
  walk_at "go"
  have rc := rgC3 (n := os.length) (by omega)
  refine ⟨0, _, 3, _, rfl, by rw [List.length_map]; exact rc, ?_⟩
  refine f_rngC (fun i σ H2 => ∃ (x2 x3 x4 x5 x6 x7 : Option V), σ = [some (.ref a), some (.ref q), x2, x3, x4, x5, x6, x7] ∧ H2 q = some (.lst ((enc64 (os.take (3 * i))).map V.int)) ∧ Keep [] H H2)
    ⟨none, none, none, none, none, none, rfl, n1.at_, n1.keep []⟩ ?_ ?_
  · rintro i σ H2 hi ⟨x2, x3, x4, x5, x6, x7, rfl, hq2, k2⟩
    walk_at "go"
    unfold t_encode64_1a_0
    have e0 : (0 : Int) + (i : Int) * 3 = ((3 * i : Nat) : Int) := by omega
    rw [e0]
    walk_at "go"
    refine i_slQ (haK k2) fun r H3 k3 hr => ?_
    have e1 : ((3 * i : Nat) : Int) + 3 = ((3 * i + 3 : Nat) : Int) := by omega
    rw [e1, cutV_mid, ← List.map_drop, ← List.map_take] at hr
    have hgl : ((os.drop (3 * i)).take 3).length = min 3 (os.length - 3 * i) := by rw [List.length_take, List.length_drop]
    have hgo : ∀ o ∈ (os.drop (3 * i)).take 3, okO o := fun o ho => hok o (List.mem_of_mem_drop (List.mem_of_mem_take ho))
    have henc : enc64 (os.take (3 * (i + 1))) = enc64 (os.take (3 * i)) ++ enc64 ((os.drop (3 * i)).take 3) := by
      have e2 : os.take (3 * (i + 1)) = os.take (3 * i) ++ (os.drop (3 * i)).take 3 := by
        have e3 : 3 * (i + 1) = 3 * i + 3 := by omega
        rw [e3, List.take_add]
      rw [e2, enc_app (n := i)]
      rw [List.length_take]
      omega
    generalize (os.drop (3 * i)).take 3 = g at hr hgl hgo henc
    have h1 : 1 ≤ g.length := by omega
    have h3 : g.length ≤ 3 := by omega
    obtain ⟨ge, gd⟩ := grp_ok hgo h1 h3
    rw [ge] at henc
    have hq3 := k3 _ _ (by simp) hq2
    walk_at "go"
    refine i_lstOf hr fun G H4 n4 => ?_
    have k4 : Keep [] H H4 := (k2.trans k3).trans (n4.keep [])
    have hq4 := n4.keep [] _ _ (by simp) hq3
    walk_at "go"
    unfold t_encode64_1a_1
    walk_at "go"
    unfold t_encode64_1a_2
    walk_at "go"
    intro z H5 n5
    walk_at "go"
    refine i_lenL (SqL.of (n5.keep [] _ _ (by simp) n4.at_)) ?_
    walk_at "go"
    refine i_rep n5.at_ (by rw [List.length_map]; simp; omega) fun y H6 n6 => ?_
    rw [rep_flat] at n6
    have hG6 := n6.keep [] _ _ (by simp) (n5.keep [] _ _ (by simp) n4.at_)
    refine i_cat hG6 n6.at_ (by rw [List.length_map, List.length_replicate]; omega) fun w H7 n7 => ?_
    have e7 : g.map V.int ++ List.replicate ((3 : Int) - ((g.map V.int).length : Int)).toNat (V.int 0) = (g ++ List.replicate (3 - g.length) 0).map V.int := by
      have e8 : ((3 : Int) - ((g.map V.int).length : Int)).toNat = 3 - g.length := by rw [List.length_map]; omega
      rw [e8]
      simp
    rw [e7] at n7
    walk_at "go"
    have k7 : Keep [] H H7 := ((k4.trans (n5.keep [])).trans (n6.keep [])).trans (n7.keep [])
    have hq7 := n7.keep [] _ _ (by simp) (n6.keep [] _ _ (by simp) (n5.keep [] _ _ (by simp) hq4))
    have hG7 := n7.keep [] _ _ (by simp) hG6
    have qG : q ≠ G := by
      intro z
      have := n4.free
      rw [← z, hq3] at this
      cases this
    refine i_listK n7.sqL ?_
    refine f_list (xs := (g ++ List.replicate (3 - g.length) 0).map V.int) (fun j σ H8 => H8 = H7 ∧ ∃ (x5 : Option V), σ = [some (.ref a), some (.ref q), some (.int ((3 * i : Nat) : Int)), some (.ref G), some (.int (grpN ((g ++ List.replicate (3 - g.length) 0).take j))), x5, x6, x7])
      ⟨rfl, _, rfl⟩ (fun j σ H8 _ ⟨z, _⟩ => by rw [z]; exact n7.sqL) ?_ ?_
    · rintro j x σ H8 hj ⟨rfl, x5', rfl⟩
      obtain ⟨o, ho, rfl⟩ := get_map hj
      walk_at "go"
      unfold t_encode64_1a_2a_0
      walk_at "go"
      refine ⟨rfl, some (.int o), ?_⟩
      rw [take_succ ho]
      have e9 : ∀ xs : List Int, grpN (xs ++ [o]) = grpN xs * 256 + o := fun xs => by
        unfold grpN
        rw [List.foldl_append]
        rfl
      rw [e9]
      rfl
    · rintro σ H8 ⟨rfl, x5', rfl⟩
      rw [List.length_map, List.take_length]
      unfold t_encode64_1a_3
      walk_at "go"
      intro d H9 n9
      walk_at "go"
      unfold t_encode64_1a_4
      walk_at "go"
      refine i_lenL (SqL.of (n9.keep [] _ _ (by simp) hG7)) ?_
      walk_at "go"
      refine i_slL n9.sqL fun s H10 n10 => ?_
      have e10 : ((g.map V.int).length : Int) + 1 = ((g.length + 1 : Nat) : Int) := by rw [List.length_map]; omega
      rw [e10, cutV_to] at n10
      have e11 : ([V.int (grpN (g ++ List.replicate (3 - g.length) 0) / 262144), V.int (grpN (g ++ List.replicate (3 - g.length) 0) / 4096 % 64), V.int (grpN (g ++ List.replicate (3 - g.length) 0) / 64 % 64), V.int (grpN (g ++ List.replicate (3 - g.length) 0) % 64)] : List V).take (g.length + 1) = (grpD g).map V.int := by
        unfold grpD
        rw [List.map_take]
        rfl
      rw [e11] at n10
      walk_at "go"
      have k10 : Keep [] H H10 := (k7.trans (n9.keep [])).trans (n10.keep [])
      have hq10 := n10.keep [] _ _ (by simp) (n9.keep [] _ _ (by simp) hq7)
      have hG10 := n10.keep [] _ _ (by simp) (n9.keep [] _ _ (by simp) hG7)
      have qs : q ≠ s := fun z => by
        have := n10.free
        rw [← z, n9.keep [] _ _ (by simp) hq7] at this
        cases this
      have el := enc_len (os.take (3 * i))
      have el2 : (os.take (3 * i)).length ≤ 1000 := by rw [List.length_take]; omega
      have gl : (grpD g).length ≤ 4 := by
        unfold grpD
        rw [List.length_take]
        simp
        omega
      refine i_listK n10.sqL ?_
      have keepq : ∀ {H11 : Hp} {o : HO}, Keep [q] H10 H11 → Keep [] H H11 → Keep [] H (upd H11 q o) := fun {H11 o} _ k => k.put (.inr n1.free)
      refine f_list (xs := (grpD g).map V.int) (fun j σ H11 => ∃ (x7 : Option V), σ = [some (.ref a), some (.ref q), some (.int ((3 * i : Nat) : Int)), some (.ref G), some (.int (grpN (g ++ List.replicate (3 - g.length) 0))), x5', some (.ref d), x7] ∧ H11 q = some (.lst ((enc64 (os.take (3 * i)) ++ ((grpD g).take j).map alZ).map V.int)) ∧ Keep [q] H10 H11 ∧ Keep [] H H11)
        ⟨_, rfl, by rw [List.take_zero, List.map_nil, List.append_nil]; exact hq10, .refl _, k10⟩ (fun j σ H11 _ ⟨_, _, _, k, _⟩ => k.sqL (by simpa using qs.symm) n10.sqL) ?_ ?_
      · rintro j x σ H11 hj ⟨x7', rfl, hq11, k11, kk⟩
        obtain ⟨o, ho, rfl⟩ := get_map hj
        obtain ⟨c, hc, hca⟩ := digits_ix (gd o (List.mem_of_getElem? ho))
        walk_at "go"
        unfold t_encode64_1a_4a_0
        walk_at "go"
        refine ⟨ty_lst hq11, ?_⟩
        walk_at "go"
        refine i_ixS digits_small hc ?_
        walk_at "go"
        refine i_ord1 ?_
        walk_at "go"
        rw [hca]
        have tl : ((grpD g).take j).length ≤ 4 := by rw [List.length_take]; omega
        refine i_app hq11 (by rw [List.length_map, List.length_append, List.length_map]; omega) ?_
        refine ⟨_, rfl, ?_, k11.put (.inl (by simp)), kk.put (.inr n1.free)⟩
        rw [upd_same, take_succ ho]
        simp
      · rintro σ H11 ⟨x7', rfl, hq11, k11, kk⟩
        rw [List.length_map, List.take_length] at hq11
        have hG11 := k11 _ _ (by simpa using qG.symm) hG10
        unfold t_encode64_1a_5
        walk_at "go"
        refine ⟨ty_lst hq11, ?_⟩
        walk_at "go"
        intro z2 H12 n12
        walk_at "go"
        refine i_lenL (SqL.of (n12.keep [] _ _ (by simp) hG11)) ?_
        walk_at "go"
        refine i_rep n12.at_ (by rw [List.length_map]; simp; omega) fun y2 H13 n13 => ?_
        rw [rep_flat] at n13
        walk_at "go"
        have hq13 := n13.keep [] _ _ (by simp) (n12.keep [] _ _ (by simp) hq11)
        refine i_ext hq13 n13.at_ (by rw [List.length_map, List.length_append, List.length_map, List.length_replicate, List.length_map]; omega) ?_
        have k13 : Keep [] H H13 := (kk.trans (n12.keep [])).trans (n13.keep [])
        refine ⟨_, _, _, _, _, _, rfl, ?_, k13.put (.inr n1.free)⟩
        rw [upd_same, henc]
        have e8 : ((3 : Int) - ((g.map V.int).length : Int)).toNat = 3 - g.length := by rw [List.length_map]; omega
        rw [e8]
        simp
  · rintro σ H2 ⟨x2, x3, x4, x5, x6, x7, rfl, hq2, k2⟩
    unfold t_encode64_2
    walk_at "go"
    rw [List.take_of_length_le (by omega)] at hq2
    exact hq q H2 n1.free hq2 k2
theorem len__law_digits {vs : List V} {H : Hp} {Q : VK} {E : XK} (h : sp__law_digits K vs H Q E) : vs.length = 0 := by obtain ⟨rfl, _⟩ := h; rfl
theorem r__law_digits {vs : List V} {H : Hp} {Q : VK} {E : XK} (h : sp__law_digits K vs H Q E) : t__law_digits_0 K { nx := fun _ H' => Q .non H', rt := Q } (start N__law_digits vs) H := by
  obtain ⟨rfl, hq⟩ := h
  unfold t__law_digits_0
  walk_at "go"
  exact hq
end
section
variable {K : PySem.W.Frag}
theorem ix_p8 {n : Nat} (h : n < 8) : atI [V.int 128, .int 64, .int 32, .int 16, .int 8, .int 4, .int 2, .int 1] (n : Int) = some (.int (p8 n)) := by
  match n, h with
  | 0, _ | 1, _ | 2, _ | 3, _ | 4, _ | 5, _ | 6, _ | 7, _ => rfl
theorem p8_bd {n : Nat} (h : n < 8) : 0 < p8 n ∧ p8 n < 1073741824 := by
  match n, h with
  | 0, _ | 1, _ | 2, _ | 3, _ | 4, _ | 5, _ | 6, _ | 7, _ => decide
theorem ix_w6 {n : Nat} (h : n < 6) : atI [V.int 32, .int 16, .int 8, .int 4, .int 2, .int 1] (n : Int) = some (.int (w6 n)) := by
  match n, h with
  | 0, _ | 1, _ | 2, _ | 3, _ | 4, _ | 5, _ => rfl
theorem w6_bd {n : Nat} (h : n < 6) : -(2 ^ 64) < w6 n ∧ w6 n < 2 ^ 64 := by
  match n, h with
  | 0, _ | 1, _ | 2, _ | 3, _ | 4, _ | 5, _ => decide
theorem len__law_encoded {vs : List V} {H : Hp} {Q : VK} {E : XK} (h : sp__law_encoded K vs H Q E) : vs.length = 1 := by obtain ⟨_, _, rfl, _⟩ := h; rfl
theorem r__law_encoded {vs : List V} {H : Hp} {Q : VK} {E : XK} (h : sp__law_encoded K vs H Q E) : t__law_encoded_0 K { nx := fun _ H' => Q .non H', rt := Q } (start N__law_encoded vs) H := by
  obtain ⟨a, os, rfl, ha, hlen, hok, hq⟩ := h
  unfold t__law_encoded_0
  walk_at "go"
  intro q H1 n1
  walk_at "go"
  unfold t__law_encoded_1
  walk_at "go"
  refine i_lenL ((n1.keep []).sqL (by simp) ha) ?_
  walk_at "go"
  refine i_rngK1 (by rw [List.length_map]; omega) ?_
  have en : ((((os.map V.int).length : Int) * 8 + 5) / 6).toNat = (8 * os.length + 5) / 6 := by rw [List.length_map]; omega
  rw [en]
  refine f_rng (fun i σ H2 => ∃ (x2 x3 x4 x5 : Option V), σ = [some (.ref a), some (.ref q), x2, x3, x4, x5] ∧ H2 q = some (.lst (((List.range i).map fun k => alZ (dig os k)).map V.int)) ∧ Keep [] H H2)
    ⟨none, none, none, none, rfl, n1.at_, n1.keep []⟩ ?_ ?_
  · rintro k σ H2 hk ⟨x2, x3, x4, x5, rfl, hq2, k2⟩
    walk_at "go"
    unfold t__law_encoded_1a_0
    walk_at "go"
    unfold t__law_encoded_1a_1
    walk_at "go"
    refine f_rng (n := 6) (fun j σ H3 => Keep [] H2 H3 ∧ ∃ (x4 x5 : Option V), σ = [some (.ref a), some (.ref q), some (.int k), some (.int (digS os k j)), x4, x5]) ⟨.refl _, _, _, rfl⟩ ?_ ?_
    · rintro j σ H3 hj ⟨k3, x4, x5, rfl⟩
      have ha3 := (k2.trans k3).sqL (by simp) ha
      walk_at "go"
      unfold t__law_encoded_1a_1a_0
      walk_at "go"
      have e0 : (6 : Int) * (k : Int) + (j : Int) = ((6 * k + j : Nat) : Int) := by omega
      rw [e0]
      unfold t__law_encoded_1a_1a_1
      walk_at "go"
      refine i_lenL ha3 ?_
      walk_at "go"
      have e1 : ((6 * k + j : Nat) : Int) / 8 = (((6 * k + j) / 8 : Nat) : Int) := by omega
      have e2 : ((6 * k + j : Nat) : Int) % 8 = (((6 * k + j) % 8 : Nat) : Int) := by omega
      rw [List.length_map]
      refine i_D (fun h1 => ?_) (fun h1 => ?_)
      · have hin : (6 * k + j) / 8 < os.length := by omega
        unfold t__law_encoded_1a_1a_1a_0
        walk_at "go"
        have ix : atI (os.map V.int) (((6 * k + j : Nat) : Int) / 8) = some (.int (os.getD ((6 * k + j) / 8) 0)) := by
          rw [e1]
          refine atI_nat ?_
          rw [List.getElem?_map, List.getD_eq_getElem?_getD, List.getElem?_eq_getElem hin]
          rfl
        refine i_ixL ha3 ix ?_
        walk_at "go"
        intro r4 H4 n4
        walk_at "go"
        rw [e2]
        refine i_ixL n4.sqL (ix_p8 (by omega)) ?_
        refine i_div (p8_bd (by omega)) ?_
        walk_at "go"
        intro r5 H5 n5
        walk_at "go"
        refine i_ixL n5.sqL (ix_w6 hj) ?_
        refine i_mulR (w6_bd hj) ?_
        walk_at "go"
        exact ⟨(k3.trans (n4.keep [])).trans (n5.keep []), _, _, rfl⟩
      · walk_at "go"
        have z : digS os k (j + 1) = digS os k j := by
          show digS os k j + bitAt os (6 * k + j) * w6 j = _
          rw [bit_out (by omega)]
          omega
        exact ⟨k3, some (.int j), some (.int ((6 * k + j : Nat) : Int)), by rw [z]; rfl⟩
    · rintro σ H3 ⟨k3, x4, x5, rfl⟩
      have hd := dig_bd os k
      obtain ⟨c, hc, hca⟩ := digits_ix hd
      have hq3 := k3 _ _ (by simp) hq2
      unfold t__law_encoded_1a_2
      walk_at "go"
      refine ⟨ty_lst hq3, ?_⟩
      walk_at "go"
      refine ⟨rfl, ?_⟩
      walk_at "go"
      refine i_ixS digits_small hc ?_
      walk_at "go"
      refine i_ord1 ?_
      walk_at "go"
      rw [hca]
      refine i_app hq3 (by rw [List.length_map, List.length_map, List.length_range]; omega) ?_
      refine ⟨_, _, _, _, rfl, ?_, (k2.trans k3).put (.inr n1.free)⟩
      rw [upd_same, List.range_succ]
      simp
  · rintro σ H2 ⟨x2, x3, x4, x5, rfl, hq2, k2⟩
    have hq2 : H2 q = some (.lst ((encL os).map V.int)) := hq2
    have hL : (encL os).length = (8 * os.length + 5) / 6 := by
      unfold encL
      rw [List.length_map, List.length_range]
    unfold t__law_encoded_2
    walk_at "go"
    refine ⟨fun n σ H3 => ∃ (m : Nat), σ = [some (.ref a), some (.ref q), x2, x3, x4, x5] ∧ H3 q = some (.lst ((encL os ++ List.replicate m 61).map V.int)) ∧ Keep [] H H3 ∧ n + m = (4 - (encL os).length % 4) % 4, ⟨_, 0, rfl, ?_, k2, Nat.add_zero _⟩, ?_⟩
    · rw [List.replicate_zero, List.append_nil]
      exact hq2
    rintro n σ H3 ⟨m, rfl, hq3, k3, hnm⟩
    walk_at "go"
    refine i_lenL (SqL.of hq3) ?_
    walk_at "go"
    rw [List.length_map, List.length_append, List.length_replicate]
    refine i_ND (fun h1 => ?_) (fun h1 => ?_)
    · refine ⟨_, fun _ _ h => h, ?_⟩
      unfold t__law_encoded_2a_0
      walk_at "go"
      refine ⟨ty_lst hq3, ?_⟩
      walk_at "go"
      refine i_app hq3 (by rw [List.length_map, List.length_append, List.length_replicate]; omega) ?_
      refine ⟨n - 1, by omega, m + 1, rfl, ?_, k3.put (.inr n1.free), by omega⟩
      rw [upd_same, List.replicate_succ']
      simp
    · unfold t__law_encoded_3
      walk_at "go"
      refine hq q H3 n1.free ?_ k3
      rw [encL_is hok, hq3]
      have e : m = (4 - (encL os).length % 4) % 4 := by omega
      rw [e]
theorem len__law_full {vs : List V} {H : Hp} {Q : VK} {E : XK} (h : sp__law_full K vs H Q E) : vs.length = 1 := by obtain ⟨_, _, rfl, _⟩ := h; rfl
theorem r__law_full {vs : List V} {H : Hp} {Q : VK} {E : XK} (h : sp__law_full K vs H Q E) : t__law_full_0 K { nx := fun _ H' => Q .non H', rt := Q } (start N__law_full vs) H := by
  obtain ⟨a, ws, rfl, ha, hlen, hq⟩ := h
  unfold t__law_full_0
  walk_at "go"
  intro B H1 n1
  walk_at "go"
  unfold t__law_full_1
  walk_at "go"
  refine i_listK ((n1.keep []).sqL (by simp) ha) ?_
  refine f_list (xs := ws.map V.int) (fun i σ H2 => ∃ (x2 x3 : Option V), σ = [some (.ref a), some (.ref B), x2, x3, none, none, none, none] ∧ H2 B = some (.lst ((allBits (ws.take i)).map V.int)) ∧ Keep [] H H2)
    ⟨none, none, rfl, n1.at_, n1.keep []⟩ (fun i σ H2 _ ⟨_, _, _, _, k⟩ => k.sqL (by simp) ha) ?_ ?_
  · rintro i x σ H2 hi ⟨x2, x3, rfl, hB2, k2⟩
    obtain ⟨w, hw, rfl⟩ := get_map hi
    have wl : (allBits (ws.take i)).length ≤ 6000 := by
      rw [allBits_len, List.length_take]
      omega
    walk_at "go"
    unfold t__law_full_1a_0
    walk_at "go"
    intro P H3 n3
    have hB3 := n3.keep [] _ _ (by simp) hB2
    have PB : P ≠ B := fun z => by
      have := n3.free
      rw [z, hB2] at this
      cases this
    refine i_listK n3.sqL ?_
    refine f_list (xs := [32, 16, 8, 4, 2, 1].map V.int) (fun j σ H4 => ∃ (x3 : Option V), σ = [some (.ref a), some (.ref B), some (.int w), x3, none, none, none, none] ∧ H4 B = some (.lst ((allBits (ws.take i) ++ ([32, 16, 8, 4, 2, 1].take j).map fun p => w / p % 2).map V.int)) ∧ Keep [B] H3 H4 ∧ Keep [] H H4)
      ⟨_, rfl, by rw [List.take_zero, List.map_nil, List.append_nil]; exact hB3, .refl _, k2.trans (n3.keep [])⟩ (fun j σ H4 _ ⟨_, _, _, k, _⟩ => k.sqL (by simpa using PB) n3.sqL) ?_ ?_
    · rintro j x σ H4 hj ⟨x3, rfl, hB4, k4, kk⟩
      obtain ⟨p, hp, rfl⟩ := get_map hj
      have hpm : 0 < p ∧ p < 1073741824 := by
        have := List.mem_of_getElem? hp
        simp at this
        omega
      walk_at "go"
      unfold t__law_full_1a_0a_0
      walk_at "go"
      refine ⟨ty_lst hB4, ?_⟩
      walk_at "go"
      have tl : (([32, 16, 8, 4, 2, 1] : List Int).take j).length ≤ 6 := by rw [List.length_take]; simp; omega
      refine i_app hB4 (by rw [List.length_map, List.length_append, List.length_map]; omega) ?_
      refine ⟨_, rfl, ?_, k4.put (.inl (by simp)), kk.put (.inr n1.free)⟩
      rw [upd_same, take_succ hp]
      simp
    · rintro σ H4 ⟨x3, rfl, hB4, k4, kk⟩
      refine ⟨_, _, rfl, ?_, kk⟩
      rw [hB4, take_succ hw, allBits_snoc]
      rfl
  · rintro σ H2 ⟨x2, x3, rfl, hB2, k2⟩
    rw [List.length_map, List.take_length] at hB2
    have bl := allBits_len ws
    generalize allBits ws = bs at hB2 hq bl
    unfold t__law_full_2
    walk_at "go"
    intro O H3 n3
    have hB3 := n3.keep [] _ _ (by simp) hB2
    have hO0 : H O = none := k2.fresh (by simp) n3.free
    have OB : B ≠ O := fun z => by
      have := n3.free
      rw [← z, hB2] at this
      cases this
    walk_at "go"
    unfold t__law_full_3
    walk_at "go"
    refine i_lenL (SqL.of hB3) ?_
    walk_at "go"
    refine i_rngK1 (by rw [List.length_map]; omega) ?_
    have en : (((bs.map V.int).length : Int) / 8).toNat = bs.length / 8 := by rw [List.length_map]; omega
    rw [en]
    refine f_rng (fun i σ H4 => ∃ (x5 x6 x7 : Option V), σ = [some (.ref a), some (.ref B), x2, x3, some (.ref O), x5, x6, x7] ∧ H4 O = some (.lst (((List.range i).map (octAt bs)).map V.int)) ∧ H4 B = some (.lst (bs.map V.int)) ∧ Keep [] H H4)
      ⟨none, none, none, rfl, n3.at_, hB3, k2.trans (n3.keep [])⟩ ?_ ?_
    · rintro i σ H4 hi ⟨x5, x6, x7, rfl, hO4, hB4, k4⟩
      walk_at "go"
      unfold t__law_full_3a_0
      walk_at "go"
      unfold t__law_full_3a_1
      walk_at "go"
      refine f_rng (n := 8) (fun j σ H5 => H5 = H4 ∧ ∃ (x7 : Option V), σ = [some (.ref a), some (.ref B), x2, x3, some (.ref O), some (.int i), some (.int (numB ((bs.drop (8 * i)).take j))), x7]) ⟨rfl, _, rfl⟩ ?_ ?_
      · rintro j σ H5 hj ⟨rfl, x7, rfl⟩
        have hin : 8 * i + j < bs.length := by omega
        obtain ⟨b, hb⟩ : ∃ b, bs[8 * i + j]? = some b := ⟨_, List.getElem?_eq_getElem hin⟩
        walk_at "go"
        unfold t__law_full_3a_1a_0
        walk_at "go"
        have e0 : (8 : Int) * (i : Int) + (j : Int) = ((8 * i + j : Nat) : Int) := by omega
        rw [e0]
        refine i_ixL (SqL.of hB4) (atI_nat (v := .int b) (by rw [List.getElem?_map, hb]; rfl)) ?_
        walk_at "go"
        have e1 : (bs.drop (8 * i)).take (j + 1) = (bs.drop (8 * i)).take j ++ [b] := take_succ (by rw [List.getElem?_drop]; exact hb)
        have e2 : ∀ xs : List Int, numB (xs ++ [b]) = numB xs * 2 + b := fun xs => by
          unfold numB
          rw [List.foldl_append]
          rfl
        exact ⟨rfl, some (.int j), by rw [e1, e2]; rfl⟩
      · rintro σ H5 ⟨rfl, x7, rfl⟩
        unfold t__law_full_3a_2
        walk_at "go"
        refine ⟨ty_lst hO4, ?_⟩
        walk_at "go"
        refine i_app hO4 (by rw [List.length_map, List.length_map, List.length_range]; omega) ?_
        refine ⟨_, _, _, rfl, ?_, by rw [upd_ne OB]; exact hB4, k4.put (.inr hO0)⟩
        rw [upd_same, List.range_succ]
        simp [octAt]
    · rintro σ H4 ⟨x5, x6, x7, rfl, hO4, hB4, k4⟩
      unfold t__law_full_4
      walk_at "go"
      refine i_lenL (SqL.of hB4) ?_
      walk_at "go"
      have e0 : (8 : Int) * (((bs.map V.int).length : Int) / 8) = ((8 * (bs.length / 8) : Nat) : Int) := by rw [List.length_map]; omega
      rw [e0]
      refine i_slL (SqL.of hB4) fun S H5 n5 => ?_
      rw [cutV_from, ← List.map_drop] at n5
      walk_at "go"
      refine i_sum n5.sqL ?_
      walk_at "go"
      intro R H6 n6
      refine hq R O H6 n6.at_ ?_ ((k4.trans (n5.keep [])).trans (n6.keep []))
      exact n6.keep [] _ _ (by simp) (n5.keep [] _ _ (by simp) hO4)
theorem len__law_stands {vs : List V} {H : Hp} {Q : VK} {E : XK} (h : sp__law_stands K vs H Q E) : vs.length = 3 := by obtain ⟨_, _, _, _, rfl, _⟩ := h; rfl
theorem r__law_stands {vs : List V} {H : Hp} {Q : VK} {E : XK} (h : sp__law_stands K vs H Q E) : t__law_stands_0 K { nx := fun _ H' => Q .non H', rt := Q } (start N__law_stands vs) H := by
  obtain ⟨a, ws, p, o, rfl, ha, hlen, hq⟩ := h
  unfold t__law_stands_0
  walk_at "go"
  unfold standsB at hq
  refine i_D (fun h1 => ?_) (fun h1 => ?_)
  · rw [if_pos h1] at hq
    unfold t__law_stands_0a_0
    walk_at "go"
    refine ⟨a, ws, rfl, ha, hlen, fun q l H1 e1 e2 k1 => ?_⟩
    walk_at "go"
    refine i_ixL (SqL.of e1) (atI_nat (j := 1) (v := .int (leftB (allBits ws)).sum) rfl) ?_
    walk_at "go"
    have hq1 := hq H1 k1
    refine i_ND (fun h2 => ?_) (fun h2 => ?_)
    · rw [decide_eq_false (fun z => h2 z.1)] at hq1
      unfold t__law_stands_0a_0a_0
      walk_at "go"
      exact hq1
    · walk_at "go"
      unfold t__law_stands_0a_1
      have ha1 := k1.sqL (by simp) ha
      walk_at "go"
      refine i_lenL ha1 ?_
      walk_at "go"
      rw [List.length_map]
      have part2 : ¬ ((ws.length : Int) % 4 = 2 ∧ p < 2) → tAndV (tOp rEq (tOp rModI (tCB (rLenQ K) (tCons (tVar 0) tNil)) (tC (V.int 4))) (tC (V.int 3))) (tOp rEq (tVar 1) (tC (V.int 0))) (L2.start N__law_stands [V.ref a, V.int p, V.int o]) H1 Q := fun hn => by
        walk_at "go"
        refine i_lenL ha1 ?_
        walk_at "go"
        rw [List.length_map]
        refine i_D (fun h4 => ?_) (fun h4 => ?_)
        · walk_at "go"
          have e : decide ((leftB (allBits ws)).sum = 0 ∧ ((ws.length : Int) % 4 = 2 ∧ p < 2 ∨ (ws.length : Int) % 4 = 3 ∧ p = 0)) = decide (p = 0) := by
            by_cases y : p = 0
            · rw [decide_eq_true y, decide_eq_true ⟨h2, .inr ⟨h4, y⟩⟩]
            · rw [decide_eq_false y, decide_eq_false]
              rintro ⟨_, z | z⟩
              · exact hn z
              · exact y z.2
          rw [e] at hq1
          exact hq1
        · walk_at "go"
          rw [decide_eq_false] at hq1
          · exact hq1
          · rintro ⟨_, z | z⟩
            · exact hn z
            · exact h4 z.1
      refine i_D (fun h3 => ?_) (fun h3 => ?_)
      · walk_at "go"
        refine i_D (fun h4 => ?_) (fun h4 => ?_)
        · rw [decide_eq_true ⟨h2, .inl ⟨h3, h4⟩⟩] at hq1
          exact hq1
        · exact part2 fun z => h4 z.2
      · refine ⟨false, rfl, i_F ?_⟩
        exact part2 fun z => h3 z.1
  · rw [if_neg h1] at hq
    walk_at "go"
    unfold t__law_stands_1
    walk_at "go"
    refine i_str ?_
    walk_at "go"
    refine ⟨rfl, _, rfl, ?_⟩
    refine f_str (fun i σ H2 => H2 = H ∧ (∀ n : Nat, n < i → alZ n ≠ o) ∧ ∃ x3 : Option V, σ = [some (.ref a), some (.int p), some (.int o), x3]) ⟨rfl, fun n z => by omega, _, rfl⟩ ?_ ?_
    · rintro i c σ H2 hc ⟨rfl, hno, x3, rfl⟩
      have hi : i < 64 := by
        have z := (Array.getElem?_eq_some_iff.mp hc).1
        have e := digits_len
        omega
      have hcz : (c : Int) = alZ i := by
        have z := digits_at i hi
        rw [Array.getElem?_toList, hc] at z
        have z := Option.some.inj z
        have := al_pos (d := i) (by omega)
        omega
      walk_at "go"
      unfold t__law_stands_1a_0
      walk_at "go"
      refine i_ord1 ?_
      walk_at "go"
      rw [hcz]
      refine i_D (fun h2 => ?_) (fun h2 => ?_)
      · unfold t__law_stands_1a_0a_0
        walk_at "go"
        have hw : worthZ o = i := by rw [← h2]; exact worth_al (by omega)
        have z := hq H2 (.refl _)
        have e : decide (0 ≤ worthZ o ∧ p = 0) = decide (p = 0) := by
          by_cases y : p = 0
          · rw [decide_eq_true y, decide_eq_true ⟨by omega, y⟩]
          · rw [decide_eq_false y, decide_eq_false (fun q => y q.2)]
        rw [e] at z
        exact z
      · walk_at "go"
        refine ⟨rfl, fun n hn => ?_, _, rfl⟩
        by_cases y : n = i
        · rw [y]; exact h2
        · exact hno n (by omega)
    · rintro σ H2 ⟨rfl, hno, x3, rfl⟩
      unfold t__law_stands_2
      walk_at "go"
      have z := hq H2 (.refl _)
      rw [decide_eq_false] at z
      · exact z
      · rintro ⟨y1, y2⟩
        obtain ⟨q1, q2⟩ := al_worth y1
        have e := digits_len
        refine hno (worthZ o).toNat (by omega) ?_
        have e2 : ((worthZ o).toNat : Int) = worthZ o := by omega
        rw [e2]
        exact q2
end
/-! ### == of rows of ints and of pairs -/
section
variable {K : PySem.W.Frag} {H : Hp} {Q : VK} {a b : Addr}
theorem dpInts : ∀ ns : List Int, DpAll K H (ns.map V.int) (ns.map PyData.int)
  | [] => .nil
  | n :: ns => .cons (.int n) (dpInts ns)
theorem layInts : ∀ ns : List Int, PyData.canLayAll0 (ns.map PyData.int) = true
  | [] => by simp [PyData.canLayAll0]
  | n :: ns => by simp [PyData.canLayAll0, PyData.canLay0, layInts ns]
theorem depInts : ∀ ns : List Int, PyData.depthAll (ns.map PyData.int) = 0
  | [] => by simp [PyData.depthAll]
  | n :: ns => by simp [PyData.depthAll, PyData.depth, depInts ns]
theorem eqvInts : ∀ ns ms : List Int, PyData.eqvAll (ns.map PyData.int) (ms.map PyData.int) = decide (ns = ms)
  | [], [] => by simp [PyData.eqvAll]
  | [], m :: ms => by simp [PyData.eqvAll]
  | n :: ns, [] => by simp [PyData.eqvAll]
  | n :: ns, m :: ms => by simp [PyData.eqvAll, PyData.eqv, eqvInts ns ms, Bool.beq_eq_decide_eq]
theorem shL (ns : List Int) : SeqAt.shaped (.list (ns.map PyData.int)) = true := by simp [SeqAt.shaped, PyData.canLay0, PyData.depth, layInts, depInts]
theorem shT (ns : List Int) : SeqAt.shaped (.tuple (ns.map PyData.int)) = true := by simp [SeqAt.shaped, PyData.canLay0, PyData.depth, layInts, depInts]
theorem i_neL {ns ms : List Int} (h : SqL K H a (ns.map V.int)) (h2 : SqL K H b (ms.map V.int)) (hq : Q (.bl (!decide (ns = ms))) H) : rNeD K (.ref a) (.ref b) H Q :=
  ⟨_, _, .lst h (dpInts ns), .lst h2 (dpInts ms), shL _, shL _, by simpa [PyData.eqv, eqvInts] using hq⟩
theorem i_eqL {ns ms : List Int} (h : SqL K H a (ns.map V.int)) (h2 : SqL K H b (ms.map V.int)) (hq : Q (.bl (decide (ns = ms))) H) : rEqD K (.ref a) (.ref b) H Q :=
  ⟨_, _, .lst h (dpInts ns), .lst h2 (dpInts ms), shL _, shL _, by simpa [PyData.eqv, eqvInts] using hq⟩
/-- a pair: a tuple of ints or None; an int or None -/
def prD : Option (List Int) → Option Int → PyData
  | some ps, some i => .tuple [.tuple (ps.map PyData.int), .int i]
  | some ps, none => .tuple [.tuple (ps.map PyData.int), .none]
  | none, some i => .tuple [.none, .int i]
  | none, none => .tuple [.none, .none]
theorem shP (x : Option (List Int)) (y : Option Int) : SeqAt.shaped (prD x y) = true := by
  cases x <;> cases y <;> simp [prD, SeqAt.shaped, PyData.canLay0, PyData.canLayAll0, PyData.depth, PyData.depthAll, layInts, depInts]
theorem eqvP (x x' : Option (List Int)) (y y' : Option Int) : PyData.eqv (prD x y) (prD x' y') = decide (x = x' ∧ y = y') := by
  cases x <;> cases y <;> cases x' <;> cases y' <;> simp [prD, PyData.eqv, PyData.eqvAll, eqvInts, Bool.beq_eq_decide_eq]
/-- such a pair stands at a -/
def PrAt (K : PySem.W.Frag) (H : Hp) (q : Addr) (x : Option (List Int)) (y : Option Int) : Prop := Dp K H (.ref q) (prD x y)
theorem prT {t : Addr} {ps : List Int} (h : SqT K H a [.ref t, .non]) (h2 : SqT K H t (ps.map V.int)) : PrAt K H a (some ps) none := Dp.tup h (.cons (.tup h2 (dpInts ps)) (.cons .non .nil))
theorem prI {i : Int} (h : SqT K H a [.non, .int i]) : PrAt K H a none (some i) := Dp.tup h (.cons .non (.cons (.int i) .nil))
theorem i_neR {x x' : Option (List Int)} {y y' : Option Int} (h : PrAt K H a x y) (h2 : PrAt K H b x' y') (hq : Q (.bl (!decide (x = x' ∧ y = y'))) H) : rNeD K (.ref a) (.ref b) H Q :=
  ⟨_, _, h, h2, shP _ _, shP _ _, by rw [eqvP]; exact hq⟩
theorem i_eqR {x x' : Option (List Int)} {y y' : Option Int} (h : PrAt K H a x y) (h2 : PrAt K H b x' y') (hq : Q (.bl (decide (x = x' ∧ y = y'))) H) : rEqD K (.ref a) (.ref b) H Q :=
  ⟨_, _, h, h2, shP _ _, shP _ _, by rw [eqvP]; exact hq⟩
end
/-! ### pairs of ints, picks out of a list -/
section
variable {K : PySem.W.Frag} {H : Hp} {q : Addr}
theorem atI_pick {xs : List Int} {r : Int} (h0 : 0 ≤ r) (h1 : r < xs.length) : ∃ v ∈ xs, atI (xs.map V.int) r = some (.int v) := by
  obtain ⟨j, rfl⟩ : ∃ j : Nat, r = j := ⟨r.toNat, by omega⟩
  have h : j < xs.length := by omega
  exact ⟨xs[j], List.getElem_mem h, atI_map h⟩
theorem dp2 {u v : Int} (h : SqT K H q [.int u, .int v]) : Dp K H (.ref q) (.tuple [.int u, .int v]) := .tup h (.cons (.int u) (.cons (.int v) .nil))
theorem sh2 (u v : Int) : SeqAt.shaped (.tuple [.int u, .int v]) = true := by
  simp [SeqAt.shaped, PyData.canLay0, PyData.canLayAll0, PyData.depth, PyData.depthAll]
theorem eqv2 (u v u' v' : Int) : PyData.eqv (.tuple [.int u, .int v]) (.tuple [.int u', .int v']) = decide (u = u' ∧ v = v') := by
  simp [PyData.eqv, PyData.eqvAll, Bool.beq_eq_decide_eq]
theorem i_neP {q q2 : Addr} {u v u' v' : Int} {Q : VK} (h : SqT K H q [.int u, .int v]) (h2 : SqT K H q2 [.int u', .int v']) (hq : Q (.bl (!decide (u = u' ∧ v = v'))) H) : rNeD K (.ref q) (.ref q2) H Q :=
  ⟨_, _, dp2 h, dp2 h2, sh2 _ _, sh2 _ _, by rw [eqv2]; exact hq⟩
theorem i_eqP {q q2 : Addr} {u v u' v' : Int} {Q : VK} (h : SqT K H q [.int u, .int v]) (h2 : SqT K H q2 [.int u', .int v']) (hq : Q (.bl (decide (u = u' ∧ v = v'))) H) : rEqD K (.ref q) (.ref q2) H Q :=
  ⟨_, _, dp2 h, dp2 h2, sh2 _ _, sh2 _ _, by rw [eqv2]; exact hq⟩
theorem kitI : kitB "int" "int" = some true := by decide +kernel
theorem kitIB : kitB "int" "bool" = some false := by decide +kernel
theorem kitT : kitB "tuple" "tuple" = some true := by decide +kernel
theorem i_isi {x : V} {t c : String} {b : Bool} {Q : VK} (ty : TyX K H x (.type t)) (k : kitB t c = some b) (h : Q (.bl b) H) : rIsi K [x, .ty c] H Q := ⟨x, .ty c, .type t, .type c, b, rfl, .ty c, ty, kit_ty k, h⟩
theorem i_isiIB {i : Int} {Q : VK} (h : Q (.bl false) H) : rIsi K [.int i, .ty "bool"] H Q := i_isi (.base (.int i)) kitIB h
theorem i_isiT {xs : List V} {Q : VK} (e : H q = some (.tup xs)) (h : Q (.bl true) H) : rIsi K [.ref q, .ty "tuple"] H Q := i_isi (.base (.tup e)) kitT h
theorem natAbs_lt {x : Int} {n : Nat} (h0 : 0 ≤ x) (h : x < (n : Int)) : x.natAbs < n := by omega
/-- a pick out of a list of ints that was just made -/
theorem i_pick {p : Pst} {l : Addr} {xs : List Int} {r : Int} {H0 H1 H2 : Hp} {Q : VK} {left last : Int} (d : Dr K p left last H0) (n : NewAt H0 l (.lst (xs.map V.int)) H1) (k : Keep [p] H1 H2) (r0 : 0 ≤ r) (r1 : r < xs.length) (h : ∀ v ∈ xs, Q (.int v) H2) : rIxL K (.ref l) (.int r) H2 Q := by
  obtain ⟨v, hv, ha⟩ := atI_pick r0 r1
  exact i_ixL (k.sqL (by simpa using (d.ne n).symm) n.sqL) ha (h v hv)
end
section
variable {K : PySem.W.Frag}
def PadOk (ws : List Int) (pd : Int) : Prop := pd = 0 ∨ ((ws.length : Int) % 4 = 2 ∧ 0 ≤ pd ∧ pd ≤ 2) ∨ ((ws.length : Int) % 4 = 3 ∧ 0 ≤ pd ∧ pd ≤ 1)
theorem step64 {m : B64} {ws : List Int} {pd : Int} (R : Run64 m ws) (hp : m.p = pd) (po : PadOk ws pd) (o : Int) : (standsB ws pd o = false ∧ b64take m o = none) ∨
    (standsB ws pd o = true ∧ o = 61 ∧ ∃ m', b64take m o = some m' ∧ Run64 m' ws ∧ m'.p = pd + 1 ∧ PadOk ws (pd + 1)) ∨
    (standsB ws pd o = true ∧ o ≠ 61 ∧ 0 ≤ worthZ o ∧ ∃ m', b64take m o = some m' ∧ Run64 m' (ws ++ [worthZ o]) ∧ m'.p = pd ∧ PadOk (ws ++ [worthZ o]) pd) := by
  have hbits : ∀ b ∈ leftB (allBits ws), isBit b := fun b hb => allBits_bit (List.mem_of_mem_drop hb)
  have hs := (sum_zero hbits).2
  have hr := R.r
  have hd := R.d
  unfold standsB b64take
  by_cases h1 : o = 61
  · rw [if_pos h1, if_pos h1]
    unfold b64pad
    unfold PadOk at po
    by_cases h2 : (leftB (allBits ws)).sum = 0 ∧ (((ws.length : Int) % 4 = 2 ∧ pd < 2) ∨ ((ws.length : Int) % 4 = 3 ∧ pd = 0))
    · have h0 := hs.mp h2.1
      obtain ⟨_, h3⟩ := h2
      rw [decide_eq_true ⟨hs.mpr h0, h3⟩, if_neg (by omega)]
      refine .inr (.inl ⟨rfl, h1, _, rfl, ⟨R.ok, R.oct, R.d, R.b, R.r⟩, ?_, ?_⟩)
      · show m.p + 1 = _
        rw [hp]
      · unfold PadOk
        omega
    · rw [decide_eq_false h2, if_pos]
      · exact .inl ⟨rfl, rfl⟩
      · by_cases h4 : m.r = 0
        · have h5 : ¬ (((ws.length : Int) % 4 = 2 ∧ pd < 2) ∨ ((ws.length : Int) % 4 = 3 ∧ pd = 0)) := fun z => h2 ⟨hs.mpr (by rw [← hr]; exact h4), z⟩
          omega
        · exact .inr (.inr h4)
  · rw [if_neg h1, if_neg h1]
    by_cases h2 : 0 ≤ worthZ o ∧ pd = 0
    · rw [decide_eq_true h2, if_neg (by omega)]
      refine .inr (.inr ⟨rfl, h1, h2.1, _, rfl, run_put R ⟨h2.1, (al_worth h2.1).1⟩, ?_, .inl h2.2⟩)
      unfold b64put
      split <;> exact hp
    · rw [decide_eq_false h2, if_pos]
      · exact .inl ⟨rfl, rfl⟩
      · unfold PadOk at po
        omega
theorem Run64.fine {m : B64} {ws : List Int} (R : Run64 m ws) (h : ws.length ≤ 1000) : B64Ok m := by
  have hbits : ∀ b ∈ leftB (allBits ws), isBit b := fun b hb => allBits_bit (List.mem_of_mem_drop hb)
  have h1 := allBits_len ws
  have h2 := leftB_len (allBits ws)
  have hb := R.b
  refine ⟨?_, by omega, by omega, ?_⟩
  · rw [R.oct]
    unfold fullO
    rw [List.length_map, List.length_range]
    omega
  · rw [R.r]
    exact (numB_bd hbits).1
theorem kitBB : kitB "bool" "bool" = some true := by decide +kernel
theorem i_isiBB {b : Bool} {H : Hp} {Q : VK} (h : Q (.bl true) H) : rIsi K [.bl b, .ty "bool"] H Q := i_isi (.base (.bl b)) kitBB h
theorem i_neBb {b c : Bool} {H : Hp} {Q : VK} (h : Q (.bl (!decide (b = c))) H) : rNeD K (.bl b) (.bl c) H Q :=
  ⟨_, _, .bl b, .bl c, by simp [SeqAt.shaped, PyData.canLay0, PyData.depth], by simp [SeqAt.shaped, PyData.canLay0, PyData.depth], by
    have e : PyData.eqv (.bool b) (.bool c) = decide (b = c) := by cases b <;> cases c <;> rfl
    rw [e]
    exact h⟩
variable {D : Ends} {H : Hp} {W R O M L Ws : Addr} {a b c d e f g i j k : Option V} {p : Pst}
/-- the digit's place in the row -/
def hits (o : Int) (n : Nat) : List Int := ((List.range n).filter fun k : Nat => decide (alZ (k : Int) = o)).map fun k : Nat => (k : Int)
theorem hits_succ_t {o : Int} {n : Nat} (h : alZ (n : Int) = o) : hits o (n + 1) = hits o n ++ [(n : Int)] := by
  unfold hits
  rw [List.range_succ, List.filter_append, List.filter_cons_of_pos (by exact decide_eq_true h)]
  simp
theorem hits_succ_f {o : Int} {n : Nat} (h : alZ (n : Int) ≠ o) : hits o (n + 1) = hits o n := by
  unfold hits
  rw [List.range_succ, List.filter_append, List.filter_cons_of_neg (by simpa using h)]
  simp
theorem hits_len (o : Int) (n : Nat) : (hits o n).length ≤ n := by
  unfold hits
  rw [List.length_map]
  have := List.length_filter_le (fun k : Nat => decide (alZ (k : Int) = o)) (List.range n)
  rw [List.length_range] at this
  exact this
theorem hits_first {o : Int} (h : 0 ≤ worthZ o) : ∃ t, hits o 64 = worthZ o :: t := by
  obtain ⟨h1, h2⟩ := al_worth h
  have hm : worthZ o ∈ hits o 64 := by
    unfold hits
    rw [List.mem_map]
    refine ⟨(worthZ o).toNat, List.mem_filter.mpr ⟨List.mem_range.mpr (by omega), ?_⟩, by omega⟩
    have e : (((worthZ o).toNat : Nat) : Int) = worthZ o := by omega
    rw [e]
    exact decide_eq_true h2
  have hall : ∀ x ∈ hits o 64, x = worthZ o := fun x hx => by
    unfold hits at hx
    obtain ⟨n, hn, rfl⟩ := List.mem_map.mp hx
    obtain ⟨n1, n2⟩ := List.mem_filter.mp hn
    rw [← of_decide_eq_true n2, worth_al]
    have := List.mem_range.mp n1
    omega
  cases e : hits o 64 with
  | nil => rw [e] at hm; cases hm
  | cons x t =>
    rw [e] at hall
    rw [hall x (by simp)]
    exact ⟨t, rfl⟩
theorem e9a4 (kU : Kls K "Base64" F_Base64) {m : B64} {ws : List Int} {pd : Int} (rn : Run64 m ws) (hp : m.p = pd) (hw : ws.length ≤ 1000) (hM : B64At K H M L m) (hWs : H Ws = some (.lst (ws.map V.int)))
    {tk : Bool}
    (hq : ∀ H1, Keep [] H H1 → D.nx [a, b, c, d, e, f, g, i, some (.ref M), some (.ref Ws), some (.int pd), j, k, some (.bl tk)] H1) :
    t_law_9a_4 K D [a, b, c, d, e, f, g, i, some (.ref M), some (.ref Ws), some (.int pd), j, k, some (.bl tk)] H := by
  obtain ⟨⟨dx, hM1⟩, hL⟩ := id hM
  unfold t_law_9a_4
  walk_at "go"
  refine i_fldK kU hM1 0 rfl rfl ?_
  walk_at "go"
  refine ⟨Ws, ws, rfl, SqL.of hWs, hw, fun q l H1 e1 e2 k1 => ?_⟩
  walk_at "go"
  refine i_ixL (SqL.of e1) (atI_nat (j := 0) (v := .ref l) rfl) ?_
  have hM' := hM.keep k1 (by simp) (by simp)
  obtain ⟨⟨dx', hM1'⟩, hL'⟩ := id hM'
  refine i_neL (SqL.of hL') (SqL.of e2) ?_
  walk_at "go"
  refine i_NDF rn.oct ?_
  walk_at "go"
  refine i_propK hM1' ⟨M, L, m, rfl, hM', ?_⟩
  walk_at "go"
  refine i_lenL (SqL.of (k1 _ _ (by simp) hWs)) ?_
  walk_at "go"
  refine i_neBb ?_
  walk_at "go"
  have ed : decide ((m.d + m.p) % 4 = 0) = decide ((((ws.map V.int).length : Int) + pd) % 4 = 0) := by rw [rn.d, hp, List.length_map]
  refine i_NDF ed ?_
  walk_at "go"
  exact hq H1 k1
end
section
variable {K : PySem.W.Frag} {D : Ends} {H : Hp} {W R O M L Ws : Addr} {a b c d e f g i j k : Option V} {p : Pst}
theorem e6 (kU : Kls K "Base64" F_Base64) (hD : ∀ H', D.rt (.bl true) H') {os rs : List Int} (hok : ∀ o ∈ os, okO o) (hrl : rs.length ≤ 100) (hO : H O = some (.lst (os.map V.int))) (hW : H W = some (.lst ((enc64 os).map V.int))) (hR : H R = some (.lst (rs.map V.int))) :
    t_law_6 K D [a, b, some (.ref O), c, some (.ref W), some (.ref R), d, e, none, none, none, none, none, none] H := by
  unfold t_law_6
  walk_at "go"
  refine i_makeK F_Base64 fun M dx H1 hM0 hM1 k1 => ?_
  refine ⟨M, dx, rfl, hM1, fun L H2 hL0 hu2 k2 => ⟨rfl, ?_⟩⟩
  have hL00 : H L = none := (k1 []).fresh (by simp) hL0
  have nM : ∀ {x : Addr} {y : HO}, H x = some y → x ≠ M := fun e => ne_of_none e hM0
  have nL : ∀ {x : Addr} {y : HO}, H x = some y → x ≠ L := fun e => ne_of_none e hL00
  have kM : ∀ {x : Addr} {y : HO}, H x = some y → H2 x = some y := fun e => k2 _ _ (by simpa using nM e) (k1 [] _ _ (by simp) e)
  walk_at "go"
  unfold t_law_7
  walk_at "go"
  intro Ws H3 n3
  walk_at "go"
  unfold t_law_8
  walk_at "go"
  unfold t_law_9
  walk_at "go"
  have hu3 := hu2.keep (n3.keep []) (by simp) (by simp)
  obtain ⟨⟨dx2, hM2⟩, hL2⟩ := id hu2
  have MW : M ≠ Ws := ne_of_none hM2 n3.free
  have LW : L ≠ Ws := ne_of_none hL2 n3.free
  have nS : ∀ {x : Addr} {y : HO}, H x = some y → x ∉ [M, L, Ws] := fun {x y} e => by
    have h1 := nM e
    have h2 := nL e
    have h3 := ne_of_none (kM e) n3.free
    simp [h1, h2, h3]
  have kS : ∀ {x : Addr} {y : HO}, H x = some y → ∀ {H4 : Hp}, Keep [M, L, Ws] H3 H4 → H4 x = some y := fun e _ k => k _ _ (nS e) (n3.keep [] _ _ (by simp) (kM e))
  have hR3 := kS hR (.refl H3)
  refine i_listK (SqL.of hR3) ?_
  refine f_list (xs := rs.map V.int) (fun n σ H4 => ∃ (m : B64) (ws : List Int) (pd : Int) (x3 x11 x12 x13 : Option V), σ = [a, b, some (.ref O), x3, some (.ref W), some (.ref R), d, e, some (.ref M), some (.ref Ws), some (.int pd), x11, x12, x13] ∧
      B64At K H4 M L m ∧ Run64 m ws ∧ m.p = pd ∧ PadOk ws pd ∧ H4 Ws = some (.lst (ws.map V.int)) ∧ ws.length ≤ n ∧ m = (rs.take n).foldl b64feed b64new ∧ Keep [M, L, Ws] H3 H4)
    ⟨b64new, [], 0, _, _, _, _, rfl, hu3, run_new, rfl, .inl rfl, n3.at_, Nat.le_refl _, rfl, .refl _⟩ (fun n σ H4 _ ⟨_, _, _, _, _, _, _, _, _, _, _, _, _, _, _, k⟩ => SqL.of (kS hR k)) ?_ ?_
  · rintro n x σ H4 hn ⟨m, ws, pd, x3, x11, x12, x13, rfl, hu4, rn, hpd, po, hWs, hwl, hm, k4⟩
    obtain ⟨o, ho, rfl⟩ := get_map hn
    have hnl : n < rs.length := (List.getElem?_eq_some_iff.mp ho).1
    have hfold : (rs.take (n + 1)).foldl b64feed b64new = b64feed m o := by
      rw [take_succ ho, List.foldl_append, ← hm]
      rfl
    walk_at "go"
    unfold t_law_9a_0
    walk_at "go"
    refine ⟨Ws, ws, pd, o, rfl, SqL.of hWs, by omega, fun H5 k5 => ?_⟩
    have hu5 := hu4.keep k5 (by simp) (by simp)
    have hWs5 := k5 _ _ (by simp) hWs
    have k45 : Keep [M, L, Ws] H3 H5 := k4.trans k5.all
    obtain ⟨⟨dx5, hM5⟩, hL5⟩ := id hu5
    walk_at "go"
    unfold t_law_9a_1
    walk_at "go"
    refine i_methK hM5 (by decide +kernel) ?_
    walk_at "go"
    have MWs : Ws ∉ [M, L] := by simp [MW.symm, LW.symm]
    have fine := rn.fine (by omega)
    rcases step64 rn hpd po o with ⟨s1, s2⟩ | ⟨s1, s2, m', s3, s4, s5, s6⟩ | ⟨s1, s2, s3, m', s4, s5, s6, s7⟩
    · refine ⟨M, L, m, o, rfl, hu5, fine, fun _ => ?_, fun m' H6 z => (by rw [s2] at z; cases z)⟩
      rw [s1]
      have hfe : b64feed m o = m := by unfold b64feed; rw [s2]; rfl
      walk_at "go"
      unfold t_law_9a_2
      walk_at "go"
      refine i_isiBB ?_
      walk_at "go"
      refine i_neBb ?_
      walk_at "go"
      refine i_NDF rfl ?_
      walk_at "go"
      unfold t_law_9a_3
      walk_at "go"
      unfold t_law_9a_3b_0
      walk_at "go"
      refine e9a4 kU rn hpd (by omega) hu5 hWs5 fun H6 k6 => ?_
      exact ⟨m, ws, pd, _, _, _, _, rfl, hu5.keep k6 (by simp) (by simp), rn, hpd, po, k6 _ _ (by simp) hWs5, by omega, by rw [hfold, hfe], k45.trans k6.all⟩
    · refine ⟨M, L, m, o, rfl, hu5, fine, fun z => (by rw [s3] at z; cases z), fun m2 H6 z hu6 k6 => ?_⟩
      obtain rfl : m' = m2 := Option.some.inj (s3.symm.trans z)
      rw [s1]
      have hfe : b64feed m o = m' := by unfold b64feed; rw [s3]; rfl
      have hWs6 := k6 _ _ MWs hWs5
      have k46 : Keep [M, L, Ws] H3 H6 := k45.trans (k6.mono (by intro x hx; simp at hx ⊢; rcases hx with h | h <;> simp [h]))
      walk_at "go"
      unfold t_law_9a_2
      walk_at "go"
      refine i_isiBB ?_
      walk_at "go"
      refine i_neBb ?_
      walk_at "go"
      refine i_NDF rfl ?_
      walk_at "go"
      unfold t_law_9a_3
      walk_at "go"
      refine i_DT s2 ?_
      unfold t_law_9a_3a_0
      walk_at "go"
      refine e9a4 kU s4 s5 (by omega) hu6 hWs6 fun H7 k7 => ?_
      exact ⟨m', ws, pd + 1, _, _, _, _, rfl, hu6.keep k7 (by simp) (by simp), s4, s5, s6, k7 _ _ (by simp) hWs6, by omega, by rw [hfold, hfe], k46.trans k7.all⟩
    · refine ⟨M, L, m, o, rfl, hu5, fine, fun z => (by rw [s4] at z; cases z), fun m2 H6 z hu6 k6 => ?_⟩
      obtain rfl : m' = m2 := Option.some.inj (s4.symm.trans z)
      rw [s1]
      have hfe : b64feed m o = m' := by unfold b64feed; rw [s4]; rfl
      have hWs6 := k6 _ _ MWs hWs5
      have k46 : Keep [M, L, Ws] H3 H6 := k45.trans (k6.mono (by intro x hx; simp at hx ⊢; rcases hx with h | h <;> simp [h]))
      walk_at "go"
      unfold t_law_9a_2
      walk_at "go"
      refine i_isiBB ?_
      walk_at "go"
      refine i_neBb ?_
      walk_at "go"
      refine i_NDF rfl ?_
      walk_at "go"
      unfold t_law_9a_3
      walk_at "go"
      refine i_DF s2 ?_
      unfold t_law_9a_3b_0
      walk_at "go"
      unfold t_law_9a_3b_0a_0
      walk_at "go"
      refine ⟨ty_lst hWs6, ?_⟩
      walk_at "go"
      refine c_rng (n := 64) (fun P n H7 => H7 P = some (.lst ((hits o n).map V.int)) ∧ Keep [] H6 H7) ?_ ?_ ?_
      · intro P hP
        exact ⟨upd_same, .put (.refl _) (.inr hP)⟩
      · rintro P n2 H7 hP hn2 ⟨hP7, k7⟩
        obtain ⟨ch, hc, hca⟩ := digits_ix (d := n2) (by omega)
        walk_at "go"
        refine ⟨rfl, ?_⟩
        walk_at "go"
        refine ⟨rfl, ?_⟩
        walk_at "go"
        refine i_ixS digits_small hc ?_
        walk_at "go"
        refine i_ord1 ?_
        walk_at "go"
        rw [hca]
        have hl := hits_len o n2
        refine i_D (fun z => ?_) (fun z => ?_)
        · walk_at "go"
          refine ⟨_, hP7, small_lt (by rw [List.length_map]; omega), ?_, k7.put (.inr hP)⟩
          rw [upd_same, hits_succ_t z]
          simp
        · refine ⟨?_, k7⟩
          rw [hits_succ_f z]
          exact hP7
      · rintro P H7 hP ⟨hP7, k7⟩
        obtain ⟨t, ht⟩ := hits_first s3
        rw [ht] at hP7
        walk_at "go"
        refine i_ixL (SqL.of hP7) (atI_nat (j := 0) (v := .int (worthZ o)) rfl) ?_
        walk_at "go"
        have hWs7 := k7 _ _ (by simp) hWs6
        refine i_app hWs7 (by rw [List.length_map]; omega) ?_
        have ew : ws.map V.int ++ [V.int (worthZ o)] = (ws ++ [worthZ o]).map V.int := by simp
        rw [ew]
        have hu7 := hu6.keep k7 (by simp) (by simp)
        have k8 : Keep [M, L, Ws] H3 (upd H7 Ws (.lst ((ws ++ [worthZ o]).map V.int))) := (k46.trans k7.all).put (.inl (by simp))
        have hu8 : B64At K (upd H7 Ws (.lst ((ws ++ [worthZ o]).map V.int))) M L m' := hu7.keep (S := [Ws]) (.put (.refl _) (.inl (by simp))) (by simpa using MW) (by simpa using LW)
        have hWs8 : (upd H7 Ws (.lst ((ws ++ [worthZ o]).map V.int))) Ws = some (.lst ((ws ++ [worthZ o]).map V.int)) := upd_same
        have wl8 : (ws ++ [worthZ o]).length = ws.length + 1 := by simp
        generalize upd H7 Ws (.lst ((ws ++ [worthZ o]).map V.int)) = H8 at k8 hu8 hWs8
        refine e9a4 kU s5 s6 (by omega) hu8 hWs8 fun H9 k9 => ?_
        exact ⟨m', ws ++ [worthZ o], pd, _, _, _, _, rfl, hu8.keep k9 (by simp) (by simp), s5, s6, s7, k9 _ _ (by simp) hWs8, by omega, by rw [hfold, hfe], k8.trans k9.all⟩
  · rintro σ H4 ⟨m, ws, pd, x3, x11, x12, x13, rfl, hu4, rn, hpd, po, hWs, hwl, hm, k4⟩
    rw [List.length_map, List.take_length] at hm
    obtain ⟨⟨dx4, hM4⟩, hL4⟩ := id hu4
    unfold t_law_10
    walk_at "go"
    refine i_neL (SqL.of (kS hR k4)) (SqL.of (kS hW k4)) ?_
    walk_at "go"
    by_cases z : rs = enc64 os
    · refine i_NDF z ?_
      subst z
      obtain ⟨f1, f2⟩ := feed_all (os := os) (m := b64new) hok rfl rfl rfl rfl
      rw [← hm] at f1 f2
      walk_at "go"
      refine i_fldK kU hM4 0 rfl rfl ?_
      walk_at "go"
      refine i_eqL (SqL.of hL4) (SqL.of (kS hO k4)) ?_
      walk_at "go"
      refine i_DT f1 ?_
      walk_at "go"
      refine i_propK hM4 ⟨M, L, m, rfl, hu4, ?_⟩
      walk_at "go"
      rw [decide_eq_true (show decide ((m.d + m.p) % 4 = 0) = true from decide_eq_true f2)]
      exact hD _
    · rw [decide_eq_false z]
      exact hD _
end
section
variable {K : PySem.W.Frag} {D : Ends} {H : Hp} {W R O M L Ws : Addr} {a b c d e f g i j k : Option V}
theorem Keep.freshD {p : Pst} {H H1 : Hp} {l t : Int} {q : Addr} (k : Keep [p] H H1) (d : Dr K p l t H1) (h : H1 q = none) : H q = none := by
  obtain ⟨xs, e⟩ := d.at_
  exact k.fresh (by simpa using (ne_of_none e h).symm) h
theorem e5b (kU : Kls K "Base64" F_Base64) (hD : ∀ H', D.rt (.bl true) H') {p : Pst} {os : List Int} (hok : ∀ o ∈ os, okO o) (hol : os.length ≤ 30) (hd : Dr K p 0 3 H) (hO : H O = some (.lst (os.map V.int))) (hW : H W = some (.lst ((enc64 os).map V.int))) (hR : H R = some (.lst ((enc64 os).map V.int)))
    (nO : O ≠ p.p) (nW : W ≠ p.p) (nR : R ≠ p.p) :
    t_law_5 K D [a, some (.ref p), some (.ref O), c, some (.ref W), some (.ref R), none, none, none, none, none, none, none, none] H := by
  have el := enc_len os
  unfold t_law_5
  walk_at "go"
  refine ⟨p, 0, 3, 3, rfl, by decide, hd, fun n H1 n0 n1 hd1 k1 => ?_⟩
  walk_at "go"
  refine f_rng (fun i σ H2 => ∃ (R : Addr) (rs : List Int) (x3 x6 x7 : Option V), σ = [a, some (.ref p), some (.ref O), x3, some (.ref W), some (.ref R), x6, x7, none, none, none, none, none, none] ∧ H2 R = some (.lst (rs.map V.int)) ∧ R ≠ p.p ∧ rs.length ≤ 50 + i ∧ Dr K p 0 3 H2 ∧ Keep [p] H H2)
    ⟨R, enc64 os, _, _, _, rfl, k1 _ _ (by simpa using nR) hR, nR, by omega, hd1, k1⟩ ?_ ?_
  · rintro i σ H2 hi ⟨R2, rs, x3, x6, x7, rfl, hR2, nR2, hrl, hd2, k2⟩
    walk_at "go"
    unfold t_law_5a_0
    walk_at "go"
    refine i_lenL (SqL.of hR2) ?_
    walk_at "go"
    refine ⟨p, 0, 3, _, rfl, by omega, hd2, fun at_ H3 a0 a1 hd3 k3 => ?_⟩
    walk_at "go"
    unfold t_law_5a_1
    walk_at "go"
    refine ⟨p, 0, 3, 256, rfl, by decide, hd3, fun x H4 x0 x1 hd4 k4 => ?_⟩
    walk_at "go"
    intro q5 H5 n5
    walk_at "go"
    refine ⟨p, 0, 3, 14, rfl, by decide, hd4.new n5, fun y H6 y0 y1 hd6 k6 => ?_⟩
    refine i_pick (xs := [61, 65, 47, 43, 57, 122, 64, 91, 96, 123, 58, 45, 95, 66]) hd4 n5 k6 y0 y1 fun z _ => ?_
    walk_at "go"
    intro q7 H7 n7
    walk_at "go"
    refine ⟨p, 0, 3, 2, rfl, by decide, hd6.new n7, fun u H8 u0 u1 hd8 k8 => ?_⟩
    refine i_pick (xs := [x, z]) hd6 n7 k8 u0 u1 fun odd _ => ?_
    walk_at "go"
    have k28 : Keep [p] H2 H8 := ((((k3.trans k4).trans (n5.keep [p.p])).trans k6).trans (n7.keep [p.p])).trans k8
    have hR8 := k28 _ _ (by simpa using nR2) hR2
    obtain ⟨j, rfl⟩ : ∃ j : Nat, at_ = j := ⟨at_.toNat, by omega⟩
    have cutA : cutV (rs.map V.int) none (some (j : Int)) = (rs.take j).map V.int := by rw [cutV_to, List.map_take]
    have cutB : cutV (rs.map V.int) (some ((j : Int) + 1)) none = (rs.drop (j + 1)).map V.int := by
      have e : (j : Int) + 1 = ((j + 1 : Nat) : Int) := by omega
      rw [e, cutV_from, List.map_drop]
    have cutC : cutV (rs.map V.int) (some (j : Int)) none = (rs.drop j).map V.int := by rw [cutV_from, List.map_drop]
    have lt : (rs.take j).length ≤ rs.length := by rw [List.length_take]; omega
    have ld : ∀ m, (rs.drop m).length ≤ rs.length := fun m => by rw [List.length_drop]; omega
    have hjl : j ≤ rs.length := by rw [List.length_map] at a1; omega
    have la : (rs.take j).length + (rs.drop j).length = rs.length := by rw [List.length_take, List.length_drop]; omega
    have lb : (rs.take j).length + (rs.drop (j + 1)).length ≤ rs.length := by rw [List.length_take, List.length_drop]; omega
    unfold t_law_5a_2
    walk_at "go"
    -- the first row
    refine i_slL (SqL.of hR8) fun A1 I1 m1 => ?_
    rw [cutA] at m1
    walk_at "go"
    intro A2 I2 m2
    refine i_cat (m2.keep [] _ _ (by simp) m1.at_) m2.at_ (by simp only [List.length_map, List.length_cons, List.length_nil]; omega) fun A3 I3 m3 => ?_
    walk_at "go"
    have g3 : Keep [] H8 I3 := ((m1.keep []).trans (m2.keep [])).trans (m3.keep [])
    refine i_slL (SqL.of (g3 _ _ (by simp) hR8)) fun A4 I4 m4 => ?_
    rw [cutC] at m4
    refine i_cat (m4.keep [] _ _ (by simp) m3.at_) m4.at_ (by have := ld j; simp only [List.length_append, List.length_map, List.length_cons, List.length_nil]; omega) fun A5 I5 m5 => ?_
    walk_at "go"
    have g5 : Keep [] H8 I5 := (g3.trans (m4.keep [])).trans (m5.keep [])
    -- the second row
    refine i_slL (SqL.of (g5 _ _ (by simp) hR8)) fun B1 J1 l1 => ?_
    rw [cutA] at l1
    walk_at "go"
    intro B2 J2 l2
    refine i_cat (l2.keep [] _ _ (by simp) l1.at_) l2.at_ (by simp only [List.length_map, List.length_cons, List.length_nil]; omega) fun B3 J3 l3 => ?_
    walk_at "go"
    have h3 : Keep [] I5 J3 := ((l1.keep []).trans (l2.keep [])).trans (l3.keep [])
    refine i_slL (SqL.of (h3 _ _ (by simp) (g5 _ _ (by simp) hR8))) fun B4 J4 l4 => ?_
    rw [cutB] at l4
    refine i_cat (l4.keep [] _ _ (by simp) l3.at_) l4.at_ (by have := ld (j + 1); simp only [List.length_append, List.length_map, List.length_cons, List.length_nil]; omega) fun B5 J5 l5 => ?_
    walk_at "go"
    have h5 : Keep [] I5 J5 := (h3.trans (l4.keep [])).trans (l5.keep [])
    have gh5 := g5.trans h5
    -- the third row
    refine i_slL (SqL.of (gh5 _ _ (by simp) hR8)) fun C1 Q1 s1 => ?_
    rw [cutA] at s1
    walk_at "go"
    refine i_slL (SqL.of (s1.keep [] _ _ (by simp) (gh5 _ _ (by simp) hR8))) fun C2 Q2 s2 => ?_
    rw [cutB] at s2
    refine i_cat (s2.keep [] _ _ (by simp) s1.at_) s2.at_ (by simp only [List.length_map]; omega) fun C3 Q3 s3 => ?_
    walk_at "go"
    intro T Q4 s4
    have t3 : Keep [] J5 Q3 := ((s1.keep []).trans (s2.keep [])).trans (s3.keep [])
    have t4 : Keep [] J5 Q4 := t3.trans (s4.keep [])
    have gQ4 : Keep [] H8 Q4 := gh5.trans t4
    have hd9 : Dr K p 0 3 Q4 := hd8.keep gQ4
    walk_at "go"
    refine ⟨p, 0, 3, 3, rfl, by decide, hd9, fun v H9 v0 v1 hd10 k10 => ?_⟩
    have np : ∀ {x : Addr} {y : HO} {G : Hp}, Keep [] H8 G → G x = none → x ≠ p.p := fun {x y G} kk z => by
      obtain ⟨xs, ee⟩ := (hd8.keep kk).at_
      exact (ne_of_none ee z).symm
    have nT : T ≠ p.p := np (y := .tup []) (gh5.trans t3) s4.free
    have nA : A5 ≠ p.p := np (y := .tup []) (g3.trans (m4.keep [])) m5.free
    have nB : B5 ≠ p.p := np (y := .tup []) (g5.trans (h3.trans (l4.keep []))) l5.free
    have nC : C3 ≠ p.p := np (y := .tup []) (gh5.trans ((s1.keep []).trans (s2.keep []))) s3.free
    have hT9 := k10 _ _ (by simpa using nT) s4.at_
    have k29 : Keep [p] H H9 := ((k2.trans k28).trans gQ4.all).trans k10
    have hA9 := k10 _ _ (by simpa using nA) (t4 _ _ (by simp) (h5 _ _ (by simp) m5.at_))
    have hB9 := k10 _ _ (by simpa using nB) (t4 _ _ (by simp) l5.at_)
    have hC9 := k10 _ _ (by simpa using nC) (s4.keep [] _ _ (by simp) s3.at_)
    have e1 : (rs.take j).map V.int ++ [V.int odd] ++ (rs.drop j).map V.int = (rs.take j ++ [odd] ++ rs.drop j).map V.int := by simp
    have e2 : (rs.take j).map V.int ++ [V.int odd] ++ (rs.drop (j + 1)).map V.int = (rs.take j ++ [odd] ++ rs.drop (j + 1)).map V.int := by simp
    have e3 : (rs.take j).map V.int ++ (rs.drop (j + 1)).map V.int = (rs.take j ++ rs.drop (j + 1)).map V.int := by simp
    rw [e1] at hA9
    rw [e2] at hB9
    rw [e3] at hC9
    rcases (show v = ((0 : Nat) : Int) ∨ v = ((1 : Nat) : Int) ∨ v = ((2 : Nat) : Int) by omega) with rfl | rfl | rfl
    · refine i_ixL (SqL.of hT9) (atI_nat (j := 0) (v := .ref A5) rfl) ?_
      walk_at "go"
      exact ⟨A5, _, _, _, _, rfl, hA9, nA, by simp only [List.length_append, List.length_cons, List.length_nil]; omega, hd10, k29⟩
    · refine i_ixL (SqL.of hT9) (atI_nat (j := 1) (v := .ref B5) rfl) ?_
      walk_at "go"
      exact ⟨B5, _, _, _, _, rfl, hB9, nB, by simp only [List.length_append, List.length_cons, List.length_nil]; omega, hd10, k29⟩
    · refine i_ixL (SqL.of hT9) (atI_nat (j := 2) (v := .ref C3) rfl) ?_
      walk_at "go"
      exact ⟨C3, _, _, _, _, rfl, hC9, nC, by simp only [List.length_append]; omega, hd10, k29⟩
  · rintro σ H2 ⟨R2, rs, x3, x6, x7, rfl, hR2, nR2, hrl, hd2, k2⟩
    exact e6 kU hD hok (by omega) (k2 _ _ (by simpa using nO) hO) (k2 _ _ (by simpa using nW) hW) hR2
theorem len_law {vs : List V} {H : Hp} {Q : VK} {E : XK} (h : sp_law K vs H Q E) : vs.length = 1 := by obtain ⟨_, _, rfl, _⟩ := h; rfl
theorem r_law (kU : Kls K "Base64" F_Base64) {vs : List V} {H : Hp} {Q : VK} {E : XK} (h : sp_law K vs H Q E) : t_law_0 K { nx := fun _ H' => Q .non H', rt := Q } (start N_law vs) H := by
  obtain ⟨a, ns, rfl, hs, hl, ho, hq⟩ := h
  unfold t_law_0
  walk_at "go"
  refine ⟨a, ns, 0, rfl, hs, fun p H1 hp k1 hd => ?_⟩
  walk_at "go"
  unfold t_law_1
  walk_at "go"
  intro q2 H2 n2
  walk_at "go"
  refine ⟨p, 0, 3, 2, rfl, by decide, hd.new n2, fun r H3 r0 r1 hd3 k3 => ?_⟩
  refine i_pick (xs := [4, 30]) hd n2 k3 r0 r1 fun m hm => ?_
  have hm' : 0 < m ∧ m ≤ 30 := by
    simp at hm
    omega
  clear hm
  walk_at "go"
  refine ⟨p, 0, 3, m, rfl, hm'.1, hd3, fun n H4 n0 n1 hd4 k4 => ?_⟩
  walk_at "go"
  refine c_rng (fun P i H5 => ∃ os : List Int, H5 P = some (.lst (os.map V.int)) ∧ os.length = i ∧ (∀ o ∈ os, okO o) ∧ Dr K p 0 3 H5) ?_ ?_ ?_
  · intro P hP
    exact ⟨[], upd_same, rfl, by simp, hd4.new (.mk' hP)⟩
  · rintro P i H5 hP hi ⟨os, hos, hosl, hok, hd5⟩
    have pP : p.p ≠ P := by
      obtain ⟨xs, e⟩ := hd4.at_
      exact ne_of_none e hP
    walk_at "go"
    refine ⟨rfl, ?_⟩
    walk_at "go"
    refine ⟨p, 0, 3, 256, rfl, by decide, hd5, fun x H6 x0 x1 hd6 k6 => ?_⟩
    walk_at "go"
    intro q7 H7 n7
    walk_at "go"
    refine ⟨p, 0, 3, 3, rfl, by decide, hd6.new n7, fun y H8 y0 y1 hd8 k8 => ?_⟩
    refine i_pick (xs := [x, 255, 0]) hd6 n7 k8 y0 y1 fun o ho => ?_
    have hoo : okO o := by
      unfold okO
      simp at ho
      omega
    have hos8 := ((k6.trans (n7.keep [p.p])).trans k8) P _ (by simpa using pP.symm) hos
    refine ⟨_, hos8, small_lt (by rw [List.length_map]; omega), os ++ [o], by rw [upd_same]; simp, by simp [hosl], fun w hw => ?_, hd4.upd hP hd8⟩
    rcases List.mem_append.mp hw with z | z
    · exact hok w z
    · obtain rfl : w = o := by simpa using z
      exact hoo
  · rintro O H5 hOf ⟨os, hos, hosl, hok, hd5⟩
    have hol : os.length ≤ 30 := by omega
    have nO : O ≠ p.p := by
      obtain ⟨xs, e⟩ := hd4.at_
      exact (ne_of_none e hOf).symm
    walk_at "go"
    unfold t_law_2
    walk_at "go"
    refine ⟨O, os, rfl, SqL.of hos, by omega, hok, fun W H6 hW0 hW6 k6 => ?_⟩
    have hd6 := hd5.keep k6
    have nW : W ≠ p.p := by
      obtain ⟨xs, e⟩ := hd5.at_
      exact (ne_of_none e hW0).symm
    have hO6 := k6 _ _ (by simp) hos
    walk_at "go"
    unfold t_law_3
    walk_at "go"
    refine ⟨O, os, rfl, .inl (SqL.of hO6), by omega, hok, fun E1 H7 _ hE1 k7 => ?_⟩
    walk_at "go"
    refine i_neL (SqL.of hE1) (SqL.of (k7 _ _ (by simp) hW6)) ?_
    walk_at "go"
    refine i_NDF rfl ?_
    walk_at "go"
    refine i_tupL (SqL.of (k7 _ _ (by simp) hO6)) fun T H8 n8 => ?_
    walk_at "go"
    refine ⟨T, os, rfl, .inr n8.sqT, by omega, hok, fun E2 H9 _ hE2 k9 => ?_⟩
    have k69 : Keep [] H6 H9 := (k7.trans (n8.keep [])).trans k9
    walk_at "go"
    refine i_neL (SqL.of hE2) (SqL.of (k69 _ _ (by simp) hW6)) ?_
    walk_at "go"
    refine i_NDF rfl ?_
    walk_at "go"
    unfold t_law_4
    walk_at "go"
    refine i_lstOf (.inl (SqL.of (k69 _ _ (by simp) hW6))) fun R H10 n10 => ?_
    have hd9 := hd6.keep k69
    have nR : R ≠ p.p := (hd9.ne n10).symm
    walk_at "go"
    exact e5b kU hq hok hol (hd9.new n10) (n10.keep [] _ _ (by simp) (k69 _ _ (by simp) hO6)) (n10.keep [] _ _ (by simp) (k69 _ _ (by simp) hW6)) n10.at_ nO nW nR
end
/-! ### the text by places -/
def top (i : Nat) : Stmt := PySem.Challenge.pw_formsalike_k08_base64.main.body.getD i (.Pass ⟨0, 0, 0, 0⟩)
abbrev s_worth : Stmt := top 3
abbrev s_Base64_init : Stmt := inClass (top 4) 0
abbrev s_Base64_is_whole : Stmt := inClass (top 4) 1
abbrev s_Base64_take_pad : Stmt := inClass (top 4) 3
abbrev s_Base64_take : Stmt := inClass (top 4) 2
abbrev s_encode64 : Stmt := top 5
abbrev s__law_cell : Stmt := top 7
abbrev s__law_numbers : Stmt := top 8
abbrev s__law_state : Stmt := top 9
abbrev s__law_next : Stmt := top 10
abbrev s__law_big : Stmt := top 11
abbrev s__law_digits : Stmt := top 12
abbrev s__law_encoded : Stmt := top 13
abbrev s__law_full : Stmt := top 14
abbrev s__law_stands : Stmt := top 15
abbrev s_law : Stmt := top 16
/-! ### what the walks ask of the module's names -/
structure Txt (K : PySem.W.Frag) (mg : Str → Option Value) : Prop where
  g_ALPHABET : ∃ t, mg "ALPHABET" = some (.str "ABCDEFGHIJKLMNOPQRSTUVWXYZabcdefghijklmnopqrstuvwxyz0123456789+/" t)
  g_Base64 : mg "Base64" = some (.ref (He.ga K "Base64"))
  g_PAD : ∃ t, mg "PAD" = some (.int 61 t)
  k_Base64 : Kls K "Base64" F_Base64
  i_Base64 : Mk K (gA "Base64" K) (mA "Base64" "__init__" K)
  m_Base64_take : Meth K (gA "Base64" K) "take" (mA "Base64" "take" K)
  m_Base64_take_pad : Meth K (gA "Base64" K) "take_pad" (mA "Base64" "take_pad" K)
  p_Base64_is_whole : PropOf K (gA "Base64" K) "is_whole" (mA "Base64" "is_whole" K) (pA "Base64" "is_whole" K)
  z_abs : mg "abs" = none
  z_bool : mg "bool" = none
  z_int : mg "int" = none
  z_isinstance : mg "isinstance" = none
  z_len : mg "len" = none
  z_list : mg "list" = none
  z_ord : mg "ord" = none
  z_range : mg "range" = none
  z_sum : mg "sum" = none
  z_tuple : mg "tuple" = none
section
variable {P : Program} {w : World} {K : PySem.W.Frag} {mg : Str → Option Value} {base : Heap}
theorem sc_worth : FnScope ["octet"] ["octet"] (defScope s_worth) := ⟨rfl, rfl, rfl, by decide +kernel, rfl, by decide +kernel, by decide +kernel⟩
theorem ok_worth {f : Addr} {fd : FuncData} (F : FnP K "worth" "worth" s_worth f fd) (T : Txt K mg) : FnOk P w K mg base CX0 1 f fd ["octet"] (sp_worth K) := by
  refine F.ok sc_worth (fun vs H Q E h => len_worth h) (fun cdv A outer s H vs Q E hr h => ⟨(t_worth_0 K), PSs.nox ?_, r_worth h⟩)
  exact (pss_cons (ps_if (pt_chain op_le op_le pe_int (pv 0) pe_int) (pss_one (ps_ret (pe_op op_sub (pv 0) pe_int))) pss_nil)
      (pss_cons (ps_if (pt_chain op_le op_le pe_int (pv 0) pe_int) (pss_one (ps_ret (pe_op op_sub (pv 0) pe_int))) pss_nil)
      (pss_cons (ps_if (pt_chain op_le op_le pe_int (pv 0) pe_int) (pss_one (ps_ret (pe_op op_add (pv 0) pe_int))) pss_nil)
      (pss_cons (ps_if (pt_cmpR op_eq (pv 0) pe_int (nomark _)) (pss_one (ps_ret pe_int)) pss_nil)
      (pss_cons (ps_if (pt_cmpR op_eq (pv 0) pe_int (nomark _)) (pss_one (ps_ret pe_int)) pss_nil)
      (pss_one (ps_ret (pe_un un_neg pe_int))))))))
theorem sc_Base64_init : FnScope ["self"] ["self"] (defScope s_Base64_init) := ⟨rfl, rfl, rfl, by decide +kernel, rfl, by decide +kernel, by decide +kernel⟩
theorem ok_Base64_init {f : Addr} {fd : FuncData} (F : FnP K "__init__" "Base64.__init__" s_Base64_init f fd) (T : Txt K mg) : FnOk P w K mg base CX0 1 f fd ["self"] (sp_Base64_init K) := by
  refine F.ok sc_Base64_init (fun vs H Q E h => len_Base64_init h) (fun cdv A outer s H vs Q E hr h => ⟨(t_Base64_init_0 K), PSs.nox ?_, r_Base64_init T.k_Base64 h⟩)
  exact (pss_cons (ps_fld (pv 0) (pe_lst pa_nil) rfl)
      (pss_cons (ps_fld (pv 0) pe_int rfl)
      (pss_cons (ps_fld (pv 0) pe_int rfl)
      (pss_cons (ps_fld (pv 0) pe_int rfl)
      (pss_one (ps_fld (pv 0) pe_int rfl))))))
theorem sc_Base64_is_whole : FnScope ["self"] ["self"] (defScope s_Base64_is_whole) := ⟨rfl, rfl, rfl, by decide +kernel, rfl, by decide +kernel, by decide +kernel⟩
theorem ok_Base64_is_whole {f : Addr} {fd : FuncData} (F : FnP K "is_whole" "Base64.is_whole" s_Base64_is_whole f fd) (T : Txt K mg) : FnOk P w K mg base CX0 1 f fd ["self"] (sp_Base64_is_whole K) := by
  refine F.ok sc_Base64_is_whole (fun vs H Q E h => len_Base64_is_whole h) (fun cdv A outer s H vs Q E hr h => ⟨(t_Base64_is_whole_0 K), PSs.nox ?_, r_Base64_is_whole T.k_Base64 h⟩)
  exact (pss_one (ps_ret (pe_cmpR op_eq (pe_op op_mod (pe_op op_add (pe_fld (pv 0) rfl) (pe_fld (pv 0) rfl)) pe_int) pe_int (nomark _))))
theorem sc_Base64_take_pad : FnScope ["self"] ["self"] (defScope s_Base64_take_pad) := ⟨rfl, rfl, rfl, by decide +kernel, rfl, by decide +kernel, by decide +kernel⟩
theorem ok_Base64_take_pad {f : Addr} {fd : FuncData} (F : FnP K "take_pad" "Base64.take_pad" s_Base64_take_pad f fd) (T : Txt K mg) : FnOk P w K mg base CX0 1 f fd ["self"] (sp_Base64_take_pad K) := by
  refine F.ok sc_Base64_take_pad (fun vs H Q E h => len_Base64_take_pad h) (fun cdv A outer s H vs Q E hr h => ⟨(t_Base64_take_pad_0 K), PSs.nox ?_, r_Base64_take_pad T.k_Base64 h⟩)
  exact (pss_cons (ps_if (PW.pt (pw_or (pt_cmpR op_lt (pe_op op_add (pe_op op_mod (pe_fld (pv 0) rfl) pe_int) (pe_fld (pv 0) rfl)) pe_int (nomark _)) (pw_or (pt_cmpR op_gt (pe_op op_add (pe_op op_mod (pe_fld (pv 0) rfl) pe_int) (pe_fld (pv 0) rfl)) pe_int (nomark _)) (pw_or1 (pt_cmpR op_ne (pe_fld (pv 0) rfl) pe_int (nomark _)))))) (pss_one (ps_ret pe_bl)) pss_nil)
      (pss_cons (ps_fld (pv 0) (pe_op op_add (pe_fld (pv 0) rfl) pe_int) rfl)
      (pss_one (ps_ret pe_bl))))
theorem sc_Base64_take : FnScope ["self", "octet", "digit"] ["self", "octet"] (defScope s_Base64_take) := ⟨rfl, rfl, rfl, by decide +kernel, rfl, by decide +kernel, by decide +kernel⟩
theorem ok_Base64_take {f : Addr} {fd : FuncData} (F : FnP K "take" "Base64.take" s_Base64_take f fd) (T : Txt K mg) (c_Base64_take_pad : CalA P w K mg base 1 (mA "Base64" "take_pad" K) (sp_Base64_take_pad K)) (c_worth : Cal P w K mg base 1 "worth" (sp_worth K)) : FnOk P w K mg base CX0 2 f fd ["self", "octet"] (sp_Base64_take K) := by
  obtain ⟨_, _, G_Base64_take_pad, b_Base64_take_pad⟩ := c_Base64_take_pad.ex
  refine F.ok sc_Base64_take (fun vs H Q E h => len_Base64_take h) (fun cdv A outer s H vs Q E hr h => ⟨(t_Base64_take_0 K), PSs.nox ?_, r_Base64_take T.k_Base64 h⟩)
  exact (pss_cons (ps_if (pt_cmpR op_eq (pv 1) (pe_globI (by rfl) T.g_PAD) (nomark _)) (pss_one (ps_ret (pe_meth0 (pv 0) T.k_Base64.cl T.m_Base64_take_pad G_Base64_take_pad (hr.mono (by decide)) b_Base64_take_pad .nil pass0))) pss_nil)
      (pss_cons (ps_set (i := 2) sc_Base64_take.nd rfl (Or.inl rfl) (pe_callC c_worth (hr.mono (by decide)) (by rfl) (pa_cons (pv 1) pa_nil)))
      (pss_cons (ps_if (PW.pt (pw_or (pt_cmpR op_lt (pv 2) pe_int (nomark _)) (pw_or1 (pt_cmpR op_gt (pe_fld (pv 0) rfl) pe_int (nomark _))))) (pss_one (ps_ret pe_bl)) pss_nil)
      (pss_cons (ps_fld (pv 0) (pe_op op_add (pe_fld (pv 0) rfl) pe_int) rfl)
      (pss_cons (ps_fld (pv 0) (pe_op op_add (pe_op op_mul (pe_fld (pv 0) rfl) pe_int) (pv 2)) rfl)
      (pss_cons (ps_fld (pv 0) (pe_op op_add (pe_fld (pv 0) rfl) pe_int) rfl)
      (pss_cons (ps_if (pt_cmpR op_ge (pe_fld (pv 0) rfl) pe_int (nomark _)) (pss_cons (ps_fld (pv 0) (pe_op op_sub (pe_fld (pv 0) rfl) pe_int) rfl)
      (pss_cons (ps_expr (pe_bm PySem.F.plainAttrs_list PySem.F.slot_list_append PySem.F.type_list_append mt_append (pe_fld (pv 0) rfl) (pa_cons (pe_op op_shr (pe_fld (pv 0) rfl) (pe_fld (pv 0) rfl)) pa_nil)))
      (pss_one (ps_fld (pv 0) (pe_op op_and (pe_fld (pv 0) rfl) (pe_op op_sub (pe_op op_shl pe_int (pe_fld (pv 0) rfl)) pe_int)) rfl)))) pss_nil)
      (pss_one (ps_ret pe_bl)))))))))
theorem sc_encode64 : FnScope ["octets", "found", "at", "group", "bits", "octet", "digits", "digit"] ["octets"] (defScope s_encode64) := ⟨rfl, rfl, rfl, by decide +kernel, rfl, by decide +kernel, by decide +kernel⟩
theorem ok_encode64 {f : Addr} {fd : FuncData} (F : FnP K "encode64" "encode64" s_encode64 f fd) (T : Txt K mg) : FnOk P w K mg base CX0 1 f fd ["octets"] (sp_encode64 K) := by
  refine F.ok sc_encode64 (fun vs H Q E h => len_encode64 h) (fun cdv A outer s H vs Q E hr h => ⟨(t_encode64_0 K), PSs.nox ?_, r_encode64 h⟩)
  exact (pss_cons (ps_set (i := 1) sc_encode64.nd rfl (Or.inl rfl) (pe_lst pa_nil))
      (pss_cons (ps_for PassesOwn.never rfl (pi_range3 (by rfl) T.z_range (pa_cons pe_int (pa_cons (pe_callB call_len_seq (by rfl) T.z_len (by decide +kernel) (pa_cons (pv 0) pa_nil)) (pa_cons pe_int pa_nil)))) (pg_name (i := 2) sc_encode64.nd rfl (Or.inl rfl)) (pss_cons (ps_set (i := 3) sc_encode64.nd rfl (Or.inl rfl) (pe_callTy call_list_of (by rfl) T.z_list (by decide +kernel) (pa_cons (pe_slice (sl_or sl_list sl_tupA) (pv 0) (po_some (pv 2)) (po_some (pe_op op_add (pv 2) pe_int))) pa_nil)))
      (pss_cons (ps_set (i := 4) sc_encode64.nd rfl (Or.inl rfl) pe_int)
      (pss_cons (ps_for PassesOwn.never rfl (pi_list (pe_op op_cat (pv 3) (pe_op op_rep (pe_lst (pa_cons pe_int pa_nil)) (pe_op op_sub pe_int (pe_callB call_len_seq (by rfl) T.z_len (by decide +kernel) (pa_cons (pv 3) pa_nil)))))) (pg_name (i := 5) sc_encode64.nd rfl (Or.inl rfl)) (pss_one (ps_set (i := 4) sc_encode64.nd rfl (Or.inl rfl) (pe_op op_add (pe_op op_mul (pv 4) pe_int) (pv 5)))))
      (pss_cons (ps_set (i := 6) sc_encode64.nd rfl (Or.inl rfl) (pe_lst (pa_cons (pe_op op_fdiv (pv 4) pe_int) (pa_cons (pe_op op_mod (pe_op op_fdiv (pv 4) pe_int) pe_int) (pa_cons (pe_op op_mod (pe_op op_fdiv (pv 4) pe_int) pe_int) (pa_cons (pe_op op_mod (pv 4) pe_int) pa_nil))))))
      (pss_cons (ps_for PassesOwn.never rfl (pi_list (pe_slice sl_list (pv 6) po_none (po_some (pe_op op_add (pe_callB call_len_seq (by rfl) T.z_len (by decide +kernel) (pa_cons (pv 3) pa_nil)) pe_int)))) (pg_name (i := 7) sc_encode64.nd rfl (Or.inl rfl)) (pss_one (ps_expr (pe_bm PySem.F.plainAttrs_list PySem.F.slot_list_append PySem.F.type_list_append mt_append (pv 1) (pa_cons (pe_callB call_ord (by rfl) T.z_ord (by decide +kernel) (pa_cons (pe_ix ix_str (pe_globS (by rfl) T.g_ALPHABET) (pv 7) (fun _ _ => rfl)) pa_nil)) pa_nil)))))
      (pss_one (ps_expr (pe_bm PySem.F.plainAttrs_list PySem.F.slot_list_extend PySem.F.type_list_extend mt_extend (pv 1) (pa_cons (pe_op op_rep (pe_lst (pa_cons (pe_globI (by rfl) T.g_PAD) pa_nil)) (pe_op op_sub pe_int (pe_callB call_len_seq (by rfl) T.z_len (by decide +kernel) (pa_cons (pv 3) pa_nil)))) pa_nil))))))))))
      (pss_one (ps_ret (pv 1)))))
theorem sc__law_cell : FnScope ["_law_script", "_law_k"] ["_law_script", "_law_k"] (defScope s__law_cell) := ⟨rfl, rfl, rfl, by decide +kernel, rfl, by decide +kernel, by decide +kernel⟩
theorem ok__law_cell {f : Addr} {fd : FuncData} (F : FnP K "_law_cell" "_law_cell" s__law_cell f fd) (T : Txt K mg) : FnOk P w K mg base CX0 1 f fd ["_law_script", "_law_k"] (sp__law_cell K) := by
  refine F.ok sc__law_cell (fun vs H Q E h => len__law_cell h) (fun cdv A outer s H vs Q E hr h => ⟨(t__law_cell_0 K), PSs.nox ?_, r__law_cell h⟩)
  exact (pss_cons (ps_if (pt_cmpR op_lt (pv 1) (pe_callB call_len_seq (by rfl) T.z_len (by decide +kernel) (pa_cons (pv 0) pa_nil)) (nomark _)) (pss_one (ps_ret (pe_ix ix_list (pv 0) (pv 1) (fun _ _ => rfl)))) pss_nil)
      (pss_one (ps_ret pe_int)))
theorem sc__law_numbers : FnScope ["_law_cell_here", "_law_many", "_law_rest", "_law_size", "_law_numbers_here", "_law_k", "_law_mixed"] ["_law_cell_here", "_law_many"] (defScope s__law_numbers) := ⟨rfl, rfl, rfl, by decide +kernel, rfl, by decide +kernel, by decide +kernel⟩
theorem ok__law_numbers {f : Addr} {fd : FuncData} (F : FnP K "_law_numbers" "_law_numbers" s__law_numbers f fd) (T : Txt K mg) : FnOk P w K mg base CX0 1 f fd ["_law_cell_here", "_law_many"] (sp__law_numbers K) := by
  refine F.ok sc__law_numbers (fun vs H Q E h => len__law_numbers h) (fun cdv A outer s H vs Q E hr h => ⟨(t__law_numbers_0 K), PSs.nox ?_, r__law_numbers h⟩)
  exact (pss_cons (ps_set (i := 2) sc__law_numbers.nd rfl (Or.inl rfl) (pe_callB call_abs (by rfl) T.z_abs (by decide +kernel) (pa_cons (pv 0) pa_nil)))
      (pss_cons (ps_set (i := 3) sc__law_numbers.nd rfl (Or.inl rfl) (pv 2))
      (pss_cons (ps_set (i := 4) sc__law_numbers.nd rfl (Or.inl rfl) (pe_lst pa_nil))
      (pss_cons (ps_for PassesOwn.never rfl (pi_range1 (by rfl) T.z_range (pa_cons (pv 1) pa_nil)) (pg_name (i := 5) sc__law_numbers.nd rfl (Or.inl rfl)) (pss_one (ps_if (PW.pt (pw_and (pt_cmpR op_ge (pv 3) (pe_op op_pow pe_int pe_int) (nomark _)) (pw_and1 (pt_cmpR op_gt (pv 2) pe_int (nomark _))))) (pss_cons (ps_expr (pe_bm PySem.F.plainAttrs_list PySem.F.slot_list_append PySem.F.type_list_append mt_append (pv 4) (pa_cons (pe_op op_mod (pe_callTy call_int1 (by rfl) T.z_int (by decide +kernel) (pa_cons (pv 2) pa_nil)) pe_int) pa_nil)))
      (pss_one (ps_set (i := 2) sc__law_numbers.nd rfl (Or.inl rfl) (pe_op op_fdiv (pv 2) pe_int)))) (pss_cons (ps_set (i := 6) sc__law_numbers.nd rfl (Or.inl rfl) (pe_op op_mod (pe_callTy call_int1 (by rfl) T.z_int (by decide +kernel) (pa_cons (pe_op op_add (pe_op op_add (pe_op op_mul (pv 3) pe_int) (pe_op op_mul (pv 5) pe_int)) pe_int) pa_nil)) pe_int))
      (pss_cons (ps_set (i := 6) sc__law_numbers.nd rfl (Or.inl rfl) (pe_op op_mod (pe_callTy call_int1 (by rfl) T.z_int (by decide +kernel) (pa_cons (pe_op op_add (pe_op op_add (pe_op op_mul (pv 6) (pv 6)) (pe_op op_mul pe_int (pv 5))) pe_int) pa_nil)) pe_int))
      (pss_one (ps_expr (pe_bm PySem.F.plainAttrs_list PySem.F.slot_list_append PySem.F.type_list_append mt_append (pv 4) (pa_cons (pe_op op_mod (pe_callTy call_int1 (by rfl) T.z_int (by decide +kernel) (pa_cons (pe_op op_fdiv (pv 6) pe_int) pa_nil)) pe_int) pa_nil)))))))))
      (pss_one (ps_ret (pv 4)))))))
theorem sc__law_state : FnScope ["_law_script", "_law_left", "_law_numbers_here", "_law_parted", "_law_k"] ["_law_script", "_law_left"] (defScope s__law_state) := ⟨rfl, rfl, rfl, by decide +kernel, rfl, by decide +kernel, by decide +kernel⟩
theorem ok__law_state {f : Addr} {fd : FuncData} (F : FnP K "_law_state" "_law_state" s__law_state f fd) (T : Txt K mg) (c__law_cell : Cal P w K mg base 1 "_law_cell" (sp__law_cell K)) (c__law_numbers : Cal P w K mg base 1 "_law_numbers" (sp__law_numbers K)) : FnOk P w K mg base CX0 2 f fd ["_law_script", "_law_left"] (sp__law_state K) := by
  refine F.ok sc__law_state (fun vs H Q E h => len__law_state h) (fun cdv A outer s H vs Q E hr h => ⟨(t__law_state_0 K), PSs.nox ?_, r__law_state h⟩)
  exact (pss_cons (ps_set (i := 2) sc__law_state.nd rfl (Or.inl rfl) (pe_lst pa_nil))
      (pss_cons (ps_setLc (i := 3) (own := [("_law_k", 4)]) (g := (gName 4)) (tt := tYes) (te := (tCall (sp__law_numbers K) [] E0 (tCons (tCall (sp__law_cell K) [] E0 (tCons (tVar 0) (tCons (tVar 4) tNil))) (tCons (tC (.int 40)) tNil)))) (wi := (iRng1 (tCons (tC (.int 3)) tNil))) rfl sc__law_state.nd rfl rfl (sw_true rfl rfl rfl (by decide +kernel)) (pi_range1 (by rfl) T.z_range (pa_cons pe_int pa_nil)) (blkOk_by (N := ["_law_script", "_law_left", "_law_numbers_here", "_law_parted", "_law_k"]) (sc := defScope s__law_state) (by decide +kernel)) (fun _ _ _ _ _ => (pg_name (i := 4) sc__law_state.nd rfl (Or.inl rfl))) (fun _ _ _ _ _ => pts_nil) (fun _ _ _ _ _ => (pe_callC c__law_numbers (hr.mono (by decide)) (by rfl) (pa_cons (pe_callC c__law_cell (hr.mono (by decide)) (by rfl) (pa_cons (pv 0) (pa_cons (pv 4) pa_nil))) (pa_cons pe_int pa_nil)))))
      (pss_cons (ps_for PassesOwn.never rfl (pi_range1 (by rfl) T.z_range (pa_cons pe_int pa_nil)) (pg_name (i := 4) sc__law_state.nd rfl (Or.inl rfl)) (pss_cons (ps_expr (pe_bm PySem.F.plainAttrs_list PySem.F.slot_list_append PySem.F.type_list_append mt_append (pv 2) (pa_cons (pe_ix ix_list (pe_ix ix_list (pv 3) pe_int (fun _ _ => rfl)) (pv 4) (fun _ _ => rfl)) pa_nil)))
      (pss_cons (ps_expr (pe_bm PySem.F.plainAttrs_list PySem.F.slot_list_append PySem.F.type_list_append mt_append (pv 2) (pa_cons (pe_ix ix_list (pe_ix ix_list (pv 3) pe_int (fun _ _ => rfl)) (pv 4) (fun _ _ => rfl)) pa_nil)))
      (pss_one (ps_expr (pe_bm PySem.F.plainAttrs_list PySem.F.slot_list_append PySem.F.type_list_append mt_append (pv 2) (pa_cons (pe_ix ix_list (pe_ix ix_list (pv 3) pe_int (fun _ _ => rfl)) (pv 4) (fun _ _ => rfl)) pa_nil)))))))
      (pss_one (ps_ret (pe_lst (pa_cons (pv 2) (pa_cons pe_int (pa_cons (pv 1) (pa_cons (pv 0) (pa_cons pe_int pa_nil)))))))))))
theorem sc__law_next : FnScope ["_law_state_here", "_law_many", "_law_at"] ["_law_state_here", "_law_many"] (defScope s__law_next) := ⟨rfl, rfl, rfl, by decide +kernel, rfl, by decide +kernel, by decide +kernel⟩
theorem ok__law_next {f : Addr} {fd : FuncData} (F : FnP K "_law_next" "_law_next" s__law_next f fd) (T : Txt K mg) : FnOk P w K mg base CX0 1 f fd ["_law_state_here", "_law_many"] (sp__law_next K) := by
  refine F.ok sc__law_next (fun vs H Q E h => len__law_next h) (fun cdv A outer s H vs Q E hr h => ⟨(t__law_next_0 K), PSs.nox ?_, r__law_next h⟩)
  exact (pss_cons (ps_set (i := 2) sc__law_next.nd rfl (Or.inl rfl) (pe_ix ix_list (pv 0) pe_int (fun _ _ => rfl)))
      (pss_cons (ps_asg (pe_op op_add (pv 2) pe_int) (pg_sub (pv 0) pe_int set_list))
      (pss_one (ps_ret (pe_op op_mod (pe_callTy call_int1 (by rfl) T.z_int (by decide +kernel) (pa_cons (pe_op op_add (pe_ix ix_list (pe_ix ix_list (pv 0) pe_int (fun _ _ => rfl)) (pe_op op_mod (pv 2) pe_int) (fun _ _ => rfl)) (pe_op op_mul pe_int (pe_op op_fdiv (pv 2) pe_int))) pa_nil)) (pv 1))))))
theorem sc__law_big : FnScope ["_law_state_here", "_law_many", "_law_cell_here"] ["_law_state_here", "_law_many"] (defScope s__law_big) := ⟨rfl, rfl, rfl, by decide +kernel, rfl, by decide +kernel, by decide +kernel⟩
theorem ok__law_big {f : Addr} {fd : FuncData} (F : FnP K "_law_big" "_law_big" s__law_big f fd) (T : Txt K mg) (c__law_cell : Cal P w K mg base 1 "_law_cell" (sp__law_cell K)) (c__law_next : Cal P w K mg base 1 "_law_next" (sp__law_next K)) : FnOk P w K mg base CX0 2 f fd ["_law_state_here", "_law_many"] (sp__law_big K) := by
  refine F.ok sc__law_big (fun vs H Q E h => len__law_big h) (fun cdv A outer s H vs Q E hr h => ⟨(t__law_big_0 K), PSs.nox ?_, r__law_big h⟩)
  exact (pss_cons (ps_set (i := 2) sc__law_big.nd rfl (Or.inl rfl) (pe_callB call_abs (by rfl) T.z_abs (by decide +kernel) (pa_cons (pe_callC c__law_cell (hr.mono (by decide)) (by rfl) (pa_cons (pe_ix ix_list (pv 0) pe_int (fun _ _ => rfl)) (pa_cons (pe_op op_add pe_int (pe_callC c__law_next (hr.mono (by decide)) (by rfl) (pa_cons (pv 0) (pa_cons pe_int pa_nil)))) pa_nil))) pa_nil)))
      (pss_one (ps_ret (pe_op op_mod (pe_callTy call_int1 (by rfl) T.z_int (by decide +kernel) (pa_cons (pe_op op_add (pe_op op_mul (pv 2) pe_int) (pe_callC c__law_next (hr.mono (by decide)) (by rfl) (pa_cons (pv 0) (pa_cons pe_int pa_nil)))) pa_nil)) (pv 1)))))
theorem sc__law_digits : FnScope [] [] (defScope s__law_digits) := ⟨rfl, rfl, rfl, by decide +kernel, rfl, by decide +kernel, by decide +kernel⟩
theorem ok__law_digits {f : Addr} {fd : FuncData} (F : FnP K "_law_digits" "_law_digits" s__law_digits f fd) (T : Txt K mg) : FnOk P w K mg base CX0 1 f fd [] (sp__law_digits K) := by
  refine F.ok sc__law_digits (fun vs H Q E h => len__law_digits h) (fun cdv A outer s H vs Q E hr h => ⟨(t__law_digits_0 K), PSs.nox ?_, r__law_digits h⟩)
  exact (pss_one (ps_ret pe_str))
theorem sc__law_encoded : FnScope ["_law_octets", "_law_found", "_law_k", "_law_bits", "_law_j", "_law_at"] ["_law_octets"] (defScope s__law_encoded) := ⟨rfl, rfl, rfl, by decide +kernel, rfl, by decide +kernel, by decide +kernel⟩
theorem ok__law_encoded {f : Addr} {fd : FuncData} (F : FnP K "_law_encoded" "_law_encoded" s__law_encoded f fd) (T : Txt K mg) (c__law_digits : Cal P w K mg base 1 "_law_digits" (sp__law_digits K)) : FnOk P w K mg base CX0 2 f fd ["_law_octets"] (sp__law_encoded K) := by
  refine F.ok sc__law_encoded (fun vs H Q E h => len__law_encoded h) (fun cdv A outer s H vs Q E hr h => ⟨(t__law_encoded_0 K), PSs.nox ?_, r__law_encoded h⟩)
  exact (pss_cons (ps_set (i := 1) sc__law_encoded.nd rfl (Or.inl rfl) (pe_lst pa_nil))
      (pss_cons (ps_for PassesOwn.never rfl (pi_range1 (by rfl) T.z_range (pa_cons (pe_op op_fdiv (pe_op op_add (pe_op op_mul (pe_callB call_len_seq (by rfl) T.z_len (by decide +kernel) (pa_cons (pv 0) pa_nil)) pe_int) pe_int) pe_int) pa_nil)) (pg_name (i := 2) sc__law_encoded.nd rfl (Or.inl rfl)) (pss_cons (ps_set (i := 3) sc__law_encoded.nd rfl (Or.inl rfl) pe_int)
      (pss_cons (ps_for PassesOwn.never rfl (pi_range1 (by rfl) T.z_range (pa_cons pe_int pa_nil)) (pg_name (i := 4) sc__law_encoded.nd rfl (Or.inl rfl)) (pss_cons (ps_set (i := 5) sc__law_encoded.nd rfl (Or.inl rfl) (pe_op op_add (pe_op op_mul pe_int (pv 2)) (pv 4)))
      (pss_one (ps_if (pt_cmpR op_lt (pe_op op_fdiv (pv 5) pe_int) (pe_callB call_len_seq (by rfl) T.z_len (by decide +kernel) (pa_cons (pv 0) pa_nil)) (nomark _)) (pss_one (ps_set (i := 3) sc__law_encoded.nd rfl (Or.inl rfl) (pe_op op_add (pv 3) (pe_op op_mul (pe_op op_mod (pe_op op_fdiv (pe_ix ix_list (pv 0) (pe_op op_fdiv (pv 5) pe_int) (fun _ _ => rfl)) (pe_ix ix_list (pe_lst (pa_cons pe_int (pa_cons pe_int (pa_cons pe_int (pa_cons pe_int (pa_cons pe_int (pa_cons pe_int (pa_cons pe_int (pa_cons pe_int pa_nil))))))))) (pe_op op_mod (pv 5) pe_int) (fun _ _ => rfl))) pe_int) (pe_ix ix_list (pe_lst (pa_cons pe_int (pa_cons pe_int (pa_cons pe_int (pa_cons pe_int (pa_cons pe_int (pa_cons pe_int pa_nil))))))) (pv 4) (fun _ _ => rfl)))))) pss_nil))))
      (pss_one (ps_expr (pe_bm PySem.F.plainAttrs_list PySem.F.slot_list_append PySem.F.type_list_append mt_append (pv 1) (pa_cons (pe_callB call_ord (by rfl) T.z_ord (by decide +kernel) (pa_cons (pe_ix ix_str (pe_callC0 c__law_digits (hr.mono (by decide)) (by rfl)) (pv 3) (fun _ _ => rfl)) pa_nil)) pa_nil)))))))
      (pss_cons (ps_while PassesOwn.never (pt_cmpR op_ne (pe_op op_mod (pe_callB call_len_seq (by rfl) T.z_len (by decide +kernel) (pa_cons (pv 1) pa_nil)) pe_int) pe_int (nomark _)) (pss_one (ps_expr (pe_bm PySem.F.plainAttrs_list PySem.F.slot_list_append PySem.F.type_list_append mt_append (pv 1) (pa_cons pe_int pa_nil)))))
      (pss_one (ps_ret (pv 1))))))
theorem sc__law_full : FnScope ["_law_worths", "_law_bits", "_law_worth", "_law_power", "_law_octets", "_law_k", "_law_octet", "_law_j"] ["_law_worths"] (defScope s__law_full) := ⟨rfl, rfl, rfl, by decide +kernel, rfl, by decide +kernel, by decide +kernel⟩
theorem ok__law_full {f : Addr} {fd : FuncData} (F : FnP K "_law_full" "_law_full" s__law_full f fd) (T : Txt K mg) : FnOk P w K mg base CX0 1 f fd ["_law_worths"] (sp__law_full K) := by
  refine F.ok sc__law_full (fun vs H Q E h => len__law_full h) (fun cdv A outer s H vs Q E hr h => ⟨(t__law_full_0 K), PSs.nox ?_, r__law_full h⟩)
  exact (pss_cons (ps_set (i := 1) sc__law_full.nd rfl (Or.inl rfl) (pe_lst pa_nil))
      (pss_cons (ps_for PassesOwn.never rfl (pi_list (pv 0)) (pg_name (i := 2) sc__law_full.nd rfl (Or.inl rfl)) (pss_one (ps_for PassesOwn.never rfl (pi_list (pe_lst (pa_cons pe_int (pa_cons pe_int (pa_cons pe_int (pa_cons pe_int (pa_cons pe_int (pa_cons pe_int pa_nil)))))))) (pg_name (i := 3) sc__law_full.nd rfl (Or.inl rfl)) (pss_one (ps_expr (pe_bm PySem.F.plainAttrs_list PySem.F.slot_list_append PySem.F.type_list_append mt_append (pv 1) (pa_cons (pe_op op_mod (pe_op op_fdiv (pv 2) (pv 3)) pe_int) pa_nil)))))))
      (pss_cons (ps_set (i := 4) sc__law_full.nd rfl (Or.inl rfl) (pe_lst pa_nil))
      (pss_cons (ps_for PassesOwn.never rfl (pi_range1 (by rfl) T.z_range (pa_cons (pe_op op_fdiv (pe_callB call_len_seq (by rfl) T.z_len (by decide +kernel) (pa_cons (pv 1) pa_nil)) pe_int) pa_nil)) (pg_name (i := 5) sc__law_full.nd rfl (Or.inl rfl)) (pss_cons (ps_set (i := 6) sc__law_full.nd rfl (Or.inl rfl) pe_int)
      (pss_cons (ps_for PassesOwn.never rfl (pi_range1 (by rfl) T.z_range (pa_cons pe_int pa_nil)) (pg_name (i := 7) sc__law_full.nd rfl (Or.inl rfl)) (pss_one (ps_set (i := 6) sc__law_full.nd rfl (Or.inl rfl) (pe_op op_add (pe_op op_mul (pv 6) pe_int) (pe_ix ix_list (pv 1) (pe_op op_add (pe_op op_mul pe_int (pv 5)) (pv 7)) (fun _ _ => rfl))))))
      (pss_one (ps_expr (pe_bm PySem.F.plainAttrs_list PySem.F.slot_list_append PySem.F.type_list_append mt_append (pv 4) (pa_cons (pv 6) pa_nil)))))))
      (pss_one (ps_ret (pe_lst (pa_cons (pv 4) (pa_cons (pe_callB (cr_sum rfl) (by rfl) T.z_sum (by decide +kernel) (pa_cons (pe_slice sl_list (pv 1) (po_some (pe_op op_mul pe_int (pe_op op_fdiv (pe_callB call_len_seq (by rfl) T.z_len (by decide +kernel) (pa_cons (pv 1) pa_nil)) pe_int))) po_none) pa_nil)) pa_nil)))))))))
theorem sc__law_stands : FnScope ["_law_worths", "_law_pads", "_law_octet", "_law_digit"] ["_law_worths", "_law_pads", "_law_octet"] (defScope s__law_stands) := ⟨rfl, rfl, rfl, by decide +kernel, rfl, by decide +kernel, by decide +kernel⟩
theorem ok__law_stands {f : Addr} {fd : FuncData} (F : FnP K "_law_stands" "_law_stands" s__law_stands f fd) (T : Txt K mg) (c__law_digits : Cal P w K mg base 1 "_law_digits" (sp__law_digits K)) (c__law_full : Cal P w K mg base 1 "_law_full" (sp__law_full K)) : FnOk P w K mg base CX0 2 f fd ["_law_worths", "_law_pads", "_law_octet"] (sp__law_stands K) := by
  refine F.ok sc__law_stands (fun vs H Q E h => len__law_stands h) (fun cdv A outer s H vs Q E hr h => ⟨(t__law_stands_0 K), PSs.nox ?_, r__law_stands h⟩)
  exact (pss_cons (ps_if (pt_cmpR op_eq (pv 2) pe_int (nomark _)) (pss_cons (ps_if (pt_cmpR op_ne (pe_ix ix_list (pe_callC c__law_full (hr.mono (by decide)) (by rfl) (pa_cons (pv 0) pa_nil)) pe_int (fun _ _ => rfl)) pe_int (nomark _)) (pss_one (ps_ret pe_bl)) pss_nil)
      (pss_one (ps_ret (pe_or (pe_and (pe_cmpR op_eq (pe_op op_mod (pe_callB call_len_seq (by rfl) T.z_len (by decide +kernel) (pa_cons (pv 0) pa_nil)) pe_int) pe_int (nomark _)) (pe_one (pe_cmpR op_lt (pv 1) pe_int (nomark _)))) (pe_one (pe_and (pe_cmpR op_eq (pe_op op_mod (pe_callB call_len_seq (by rfl) T.z_len (by decide +kernel) (pa_cons (pv 0) pa_nil)) pe_int) pe_int (nomark _)) (pe_one (pe_cmpR op_eq (pv 1) pe_int (nomark _))))))))) pss_nil)
      (pss_cons (ps_for PassesOwn.never rfl (pi_str (pe_callC0 c__law_digits (hr.mono (by decide)) (by rfl))) (pg_name (i := 3) sc__law_stands.nd rfl (Or.inl rfl)) (pss_one (ps_if (pt_cmpR op_eq (pe_callB call_ord (by rfl) T.z_ord (by decide +kernel) (pa_cons (pv 3) pa_nil)) (pv 2) (nomark _)) (pss_one (ps_ret (pe_cmpR op_eq (pv 1) pe_int (nomark _)))) pss_nil)))
      (pss_one (ps_ret pe_bl))))
theorem sc_law : FnScope ["_law_script", "_law_state_here", "_law_octets", "_law_k", "_law_written", "_law_rows", "_law_at", "_law_odd", "_law_machine", "_law_worths", "_law_pads", "_law_octet", "_law_stands_here", "_law_taken"] ["_law_script"] (defScope s_law) := ⟨rfl, rfl, rfl, by decide +kernel, rfl, by decide +kernel, by decide +kernel⟩
theorem ok_law {f : Addr} {fd : FuncData} (F : FnP K "law" "law" s_law f fd) (T : Txt K mg) (c_Base64_init : CalA P w K mg base 1 (mA "Base64" "__init__" K) (sp_Base64_init K)) (c_Base64_is_whole : CalA P w K mg base 1 (pA "Base64" "is_whole" K) (sp_Base64_is_whole K)) (c_Base64_take : CalA P w K mg base 2 (mA "Base64" "take" K) (sp_Base64_take K)) (c__law_digits : Cal P w K mg base 1 "_law_digits" (sp__law_digits K)) (c__law_encoded : Cal P w K mg base 2 "_law_encoded" (sp__law_encoded K)) (c__law_full : Cal P w K mg base 1 "_law_full" (sp__law_full K)) (c__law_next : Cal P w K mg base 1 "_law_next" (sp__law_next K)) (c__law_stands : Cal P w K mg base 2 "_law_stands" (sp__law_stands K)) (c__law_state : Cal P w K mg base 2 "_law_state" (sp__law_state K)) (c_encode64 : Cal P w K mg base 1 "encode64" (sp_encode64 K)) : FnOk P w K mg base CX0 3 f fd ["_law_script"] (sp_law K) := by
  obtain ⟨_, _, G_Base64_init, b_Base64_init⟩ := c_Base64_init.ex
  obtain ⟨_, _, G_Base64_is_whole, b_Base64_is_whole⟩ := c_Base64_is_whole.ex
  obtain ⟨_, _, G_Base64_take, b_Base64_take⟩ := c_Base64_take.ex
  refine F.ok sc_law (fun vs H Q E h => len_law h) (fun cdv A outer s H vs Q E hr h => ⟨(t_law_0 K), PSs.nox ?_, r_law T.k_Base64 h⟩)
  have hu64 := hr.units
  exact (pss_cons (ps_set (i := 1) sc_law.nd rfl (Or.inr rfl) (pe_callC c__law_state (hr.mono (by decide)) (by rfl) (pa_cons (pv 0) (pa_cons pe_int pa_nil))))
      (pss_cons (ps_setLc (i := 2) (own := [("_law_k", 3)]) (g := (gName 3)) (tt := tYes) (te := (tOp (rIxL K) (tLst (tCons (tCall (sp__law_next K) [] E0 (tCons (tVar 1) (tCons (tC (.int 256)) tNil))) (tCons (tC (.int 255)) (tCons (tC (.int 0)) tNil)))) (tCall (sp__law_next K) [] E0 (tCons (tVar 1) (tCons (tC (.int 3)) tNil))))) (wi := (iRng1 (tCons (tCall (sp__law_next K) [] E0 (tCons (tVar 1) (tCons (tOp (rIxL K) (tLst (tCons (tC (.int 4)) (tCons (tC (.int 30)) tNil))) (tCall (sp__law_next K) [] E0 (tCons (tVar 1) (tCons (tC (.int 2)) tNil)))) tNil))) tNil))) rfl sc_law.nd rfl rfl (sw_true rfl rfl rfl (by decide +kernel)) (pi_range1 (by rfl) T.z_range (pa_cons (pe_callC c__law_next (hr.mono (by decide)) (by rfl) (pa_cons (pv 1) (pa_cons (pe_ix ix_list (pe_lst (pa_cons pe_int (pa_cons pe_int pa_nil))) (pe_callC c__law_next (hr.mono (by decide)) (by rfl) (pa_cons (pv 1) (pa_cons pe_int pa_nil))) (fun _ _ => rfl)) pa_nil))) pa_nil)) (blkOk_by (N := ["_law_script", "_law_state_here", "_law_octets", "_law_k", "_law_written", "_law_rows", "_law_at", "_law_odd", "_law_machine", "_law_worths", "_law_pads", "_law_octet", "_law_stands_here", "_law_taken"]) (sc := defScope s_law) (by decide +kernel)) (fun _ _ _ _ _ => (pg_name (i := 3) sc_law.nd rfl (Or.inl rfl))) (fun _ _ _ _ _ => pts_nil) (fun _ _ _ _ _ => (pe_ix ix_list (pe_lst (pa_cons (pe_callC c__law_next (hr.mono (by decide)) (by rfl) (pa_cons (pv 1) (pa_cons pe_int pa_nil))) (pa_cons pe_int (pa_cons pe_int pa_nil)))) (pe_callC c__law_next (hr.mono (by decide)) (by rfl) (pa_cons (pv 1) (pa_cons pe_int pa_nil))) (fun _ _ => rfl))))
      (pss_cons (ps_set (i := 4) sc_law.nd rfl (Or.inl rfl) (pe_callC c__law_encoded (hr.mono (by decide)) (by rfl) (pa_cons (pv 2) pa_nil)))
      (pss_cons (ps_if (PW.pt (pw_or (pt_cmpR (op_neD hu64) (pe_callC c_encode64 (hr.mono (by decide)) (by rfl) (pa_cons (pv 2) pa_nil)) (pv 4) (nomark _)) (pw_or1 (pt_cmpR (op_neD hu64) (pe_callC c_encode64 (hr.mono (by decide)) (by rfl) (pa_cons (pe_callTy call_tuple_of (by rfl) T.z_tuple (by decide +kernel) (pa_cons (pv 2) pa_nil)) pa_nil)) (pv 4) (nomark _))))) (pss_one (ps_ret pe_bl)) pss_nil)
      (pss_cons (ps_set (i := 5) sc_law.nd rfl (Or.inl rfl) (pe_callTy call_list_of (by rfl) T.z_list (by decide +kernel) (pa_cons (pv 4) pa_nil)))
      (pss_cons (ps_for PassesOwn.never rfl (pi_range1 (by rfl) T.z_range (pa_cons (pe_callC c__law_next (hr.mono (by decide)) (by rfl) (pa_cons (pv 1) (pa_cons pe_int pa_nil))) pa_nil)) (pg_name (i := 3) sc_law.nd rfl (Or.inl rfl)) (pss_cons (ps_set (i := 6) sc_law.nd rfl (Or.inl rfl) (pe_callC c__law_next (hr.mono (by decide)) (by rfl) (pa_cons (pv 1) (pa_cons (pe_op op_add (pe_callB call_len_seq (by rfl) T.z_len (by decide +kernel) (pa_cons (pv 5) pa_nil)) pe_int) pa_nil))))
      (pss_cons (ps_set (i := 7) sc_law.nd rfl (Or.inl rfl) (pe_ix ix_list (pe_lst (pa_cons (pe_callC c__law_next (hr.mono (by decide)) (by rfl) (pa_cons (pv 1) (pa_cons pe_int pa_nil))) (pa_cons (pe_ix ix_list (pe_lst (pa_cons pe_int (pa_cons pe_int (pa_cons pe_int (pa_cons pe_int (pa_cons pe_int (pa_cons pe_int (pa_cons pe_int (pa_cons pe_int (pa_cons pe_int (pa_cons pe_int (pa_cons pe_int (pa_cons pe_int (pa_cons pe_int (pa_cons pe_int pa_nil))))))))))))))) (pe_callC c__law_next (hr.mono (by decide)) (by rfl) (pa_cons (pv 1) (pa_cons pe_int pa_nil))) (fun _ _ => rfl)) pa_nil))) (pe_callC c__law_next (hr.mono (by decide)) (by rfl) (pa_cons (pv 1) (pa_cons pe_int pa_nil))) (fun _ _ => rfl)))
      (pss_one (ps_set (i := 5) sc_law.nd rfl (Or.inl rfl) (pe_ix ix_list (pe_lst (pa_cons (pe_op op_cat (pe_op op_cat (pe_slice sl_list (pv 5) po_none (po_some (pv 6))) (pe_lst (pa_cons (pv 7) pa_nil))) (pe_slice sl_list (pv 5) (po_some (pv 6)) po_none)) (pa_cons (pe_op op_cat (pe_op op_cat (pe_slice sl_list (pv 5) po_none (po_some (pv 6))) (pe_lst (pa_cons (pv 7) pa_nil))) (pe_slice sl_list (pv 5) (po_some (pe_op op_add (pv 6) pe_int)) po_none)) (pa_cons (pe_op op_cat (pe_slice sl_list (pv 5) po_none (po_some (pv 6))) (pe_slice sl_list (pv 5) (po_some (pe_op op_add (pv 6) pe_int)) po_none)) pa_nil)))) (pe_callC c__law_next (hr.mono (by decide)) (by rfl) (pa_cons (pv 1) (pa_cons pe_int pa_nil))) (fun _ _ => rfl)))))))
      (pss_cons (ps_set (i := 8) sc_law.nd rfl (Or.inl rfl) (pe_make0 T.i_Base64 G_Base64_init (hr.mono (by decide)) (by rfl) T.g_Base64 b_Base64_init .nil pass0))
      (pss_cons (ps_set (i := 9) sc_law.nd rfl (Or.inl rfl) (pe_lst pa_nil))
      (pss_cons (ps_set (i := 10) sc_law.nd rfl (Or.inl rfl) pe_int)
      (pss_cons (ps_for PassesOwn.never rfl (pi_list (pv 5)) (pg_name (i := 11) sc_law.nd rfl (Or.inr rfl)) (pss_cons (ps_set (i := 12) sc_law.nd rfl (Or.inl rfl) (pe_callC c__law_stands (hr.mono (by decide)) (by rfl) (pa_cons (pv 9) (pa_cons (pv 10) (pa_cons (pv 11) pa_nil)))))
      (pss_cons (ps_set (i := 13) sc_law.nd rfl (Or.inl rfl) (pe_meth (pv 8) T.k_Base64.cl T.m_Base64_take G_Base64_take (hr.mono (by decide)) b_Base64_take .nil pass0 (pa_cons (pv 11) pa_nil)))
      (pss_cons (ps_if (PW.pt (pw_or (pt_not (pt_val (pe_callB call_isi (by rfl) T.z_isinstance (by decide +kernel) (pa_cons (pv 13) (pa_cons (pe_bltn (v := .ty "bool") (by rfl) T.z_bool (by decide +kernel) rfl) pa_nil))))) (pw_or1 (pt_cmpR (op_neD hu64) (pv 13) (pv 12) (nomark _))))) (pss_one (ps_ret pe_bl)) pss_nil)
      (pss_cons (ps_if (PW.pt (pw_and (pt_val (pv 12)) (pw_and1 (pt_cmpR op_eq (pv 11) pe_int (nomark _))))) (pss_one (ps_set (i := 10) sc_law.nd rfl (Or.inl rfl) (pe_op op_add (pv 10) pe_int))) (pss_one (ps_if (pt_val (pv 12)) (pss_one (ps_expr (pe_bm PySem.F.plainAttrs_list PySem.F.slot_list_append PySem.F.type_list_append mt_append (pv 9) (pa_cons (pe_ix ix_list (pe_lc (own := [("_law_k", 3)]) (g := (gName 3)) (tt := (tTest (tOp rEq (tCB rOrd (tCons (tOp rIxS (tCall (sp__law_digits K) [] E0 tNil) (tVar 3)) tNil)) (tVar 11)))) (te := (tVar 3)) (wi := (iRng1 (tCons (tC (.int 64)) tNil))) rfl sc_law.nd (pi_range1 (by rfl) T.z_range (pa_cons pe_int pa_nil)) (blkOk_by (N := ["_law_script", "_law_state_here", "_law_octets", "_law_k", "_law_written", "_law_rows", "_law_at", "_law_odd", "_law_machine", "_law_worths", "_law_pads", "_law_octet", "_law_stands_here", "_law_taken"]) (sc := defScope s_law) (by decide +kernel)) (fun _ _ _ _ _ => (pg_name (i := 3) sc_law.nd rfl (Or.inl rfl))) (fun _ _ _ _ _ => (pts_one (pt_cmpR op_eq (pe_callB call_ord (by rfl) T.z_ord (by decide +kernel) (pa_cons (pe_ix ix_str (pe_callC0 c__law_digits (hr.mono (by decide)) (by rfl)) (pv 3) (fun _ _ => rfl)) pa_nil)) (pv 11) (nomark _)))) (fun _ _ _ _ _ => (pv 3))) pe_int (fun _ _ => rfl)) pa_nil)))) pss_nil)))
      (pss_one (ps_if (PW.pt (pw_or (pt_cmpR (op_neD hu64) (pe_fld (pv 8) rfl) (pe_ix ix_list (pe_callC c__law_full (hr.mono (by decide)) (by rfl) (pa_cons (pv 9) pa_nil)) pe_int (fun _ _ => rfl)) (nomark _)) (pw_or1 (pt_cmpR (op_neD hu64) (pe_prop (pv 8) T.k_Base64.cl T.p_Base64_is_whole G_Base64_is_whole (hr.mono (by decide)) b_Base64_is_whole .nil pass0 rfl) (pe_cmpR op_eq (pe_op op_mod (pe_op op_add (pe_callB call_len_seq (by rfl) T.z_len (by decide +kernel) (pa_cons (pv 9) pa_nil)) (pv 10)) pe_int) pe_int (nomark _)) (nomark _))))) (pss_one (ps_ret pe_bl)) pss_nil)))))))
      (pss_one (ps_ret (pe_or (pe_cmpR (op_neD hu64) (pv 5) (pv 4) (nomark _)) (pe_one (pe_and (pe_cmpR (op_eqD hu64) (pe_fld (pv 8) rfl) (pv 2) (nomark _)) (pe_one (pe_cmpR op_isBl (pe_prop (pv 8) T.k_Base64.cl T.p_Base64_is_whole G_Base64_is_whole (hr.mono (by decide)) b_Base64_is_whole .nil pass0 rfl) pe_bl (nomark _))))))))))))))))))
end
/-! ### the head -/
def d_worth : DefX := dX (gA "worth") "worth" "worth" s_worth
def d_Base64_init : DefX := dX (mA "Base64" "__init__") "__init__" "Base64.__init__" s_Base64_init
def d_Base64_is_whole : DefX := dX (pA "Base64" "is_whole") "is_whole" "Base64.is_whole" s_Base64_is_whole
def d_Base64_take_pad : DefX := dX (mA "Base64" "take_pad") "take_pad" "Base64.take_pad" s_Base64_take_pad
def d_Base64_take : DefX := dX (mA "Base64" "take") "take" "Base64.take" s_Base64_take
def d_encode64 : DefX := dX (gA "encode64") "encode64" "encode64" s_encode64
def d__law_cell : DefX := dX (gA "_law_cell") "_law_cell" "_law_cell" s__law_cell
def d__law_numbers : DefX := dX (gA "_law_numbers") "_law_numbers" "_law_numbers" s__law_numbers
def d__law_state : DefX := dX (gA "_law_state") "_law_state" "_law_state" s__law_state
def d__law_next : DefX := dX (gA "_law_next") "_law_next" "_law_next" s__law_next
def d__law_big : DefX := dX (gA "_law_big") "_law_big" "_law_big" s__law_big
def d__law_digits : DefX := dX (gA "_law_digits") "_law_digits" "_law_digits" s__law_digits
def d__law_encoded : DefX := dX (gA "_law_encoded") "_law_encoded" "_law_encoded" s__law_encoded
def d__law_full : DefX := dX (gA "_law_full") "_law_full" "_law_full" s__law_full
def d__law_stands : DefX := dX (gA "_law_stands") "_law_stands" "_law_stands" s__law_stands
def d_law : DefX := dX (gA "law") "law" "law" s_law
def fn : List DefX := [d_worth, d_Base64_init, d_Base64_is_whole, d_Base64_take_pad, d_Base64_take, d_encode64, d__law_cell, d__law_numbers, d__law_state, d__law_next, d__law_big, d__law_digits, d__law_encoded, d__law_full, d__law_stands, d_law]
def fa : List Fx := [fFa (.str "ALPHABET" "ABCDEFGHIJKLMNOPQRSTUVWXYZabcdefghijklmnopqrstuvwxyz0123456789+/"), fFa (.glo "Base64"), fFa (.int "PAD" 61), klsB "Base64" F_Base64, fFa (.mkr "Base64"), fFa (.meth "Base64" "take"), fFa (.meth "Base64" "take_pad"), propB "Base64" "is_whole", fFa (.free "abs"), fFa (.free "bool"), fFa (.free "int"), fFa (.free "isinstance"), fFa (.free "len"), fFa (.free "list"), fFa (.free "ord"), fFa (.free "range"), fFa (.free "sum"), fFa (.free "tuple"), fFa (.glo "worth"), fFa (.glo "encode64"), fFa (.glo "_law_cell"), fFa (.glo "_law_numbers"), fFa (.glo "_law_state"), fFa (.glo "_law_next"), fFa (.glo "_law_big"), fFa (.glo "_law_digits"), fFa (.glo "_law_encoded"), fFa (.glo "_law_full"), fFa (.glo "_law_stands"), fFa (.glo "law")]
abbrev R : PySem.W.OpenRow := PySem.W.OpenLaw.row PySem.Challenge.rw_formsalike_k08_base64
abbrev hk : PySem.W.Hook := hookX 6 fa fn
def ob (s : PySem.W.SharedT) : AlX := obsXG 6 fa fn (HandSHeadRun.getT s)
theorem ob_eq (s : PySem.W.SharedT) : ob s = hk.obs s.abs := obsXG_eq (HandSHeadRun.getT_eq s)
def loose : List Str := (["__name__", "ALPHABET", "PAD", "worth", "Base64", "encode64", "_law_cell", "_law_numbers", "_law_state", "_law_next", "_law_big", "_law_digits", "_law_encoded", "_law_full", "_law_stands"] : List Str)
theorem run (w : World) : HandSHeadRun.RunEq R (PySem.W.view R.prog [16]) hk ob 4000 loose w := by
  intro os
  kernel_rfl
theorem facts {P : Program} {w : World} {K : PySem.W.Frag} {h : Heap} {mg : Str → Option Value} {f : Addr} (X : K.In h) (G : h.Ns mainGlobals mg) (hfa : mg ("law" : Str) = some (.ref f)) (c : SaysX fa fn K) :
    ∃ fd : FuncData, (∀ (s : Shared) (v : Value), BindsTo s fd ⟨[v], []⟩ [("_law_script", v)]) ∧ ∀ base : Heap, K.In base → base.Ns mainGlobals mg → FnOk P w K mg base CX0 3 f fd ["_law_script"] (sp_law K) := by
  obtain ⟨fd_worth, F_worth⟩ := c.def_ 0 (d := d_worth) rfl
  obtain ⟨fd_Base64_init, F_Base64_init⟩ := c.def_ 1 (d := d_Base64_init) rfl
  obtain ⟨fd_Base64_is_whole, F_Base64_is_whole⟩ := c.def_ 2 (d := d_Base64_is_whole) rfl
  obtain ⟨fd_Base64_take_pad, F_Base64_take_pad⟩ := c.def_ 3 (d := d_Base64_take_pad) rfl
  obtain ⟨fd_Base64_take, F_Base64_take⟩ := c.def_ 4 (d := d_Base64_take) rfl
  obtain ⟨fd_encode64, F_encode64⟩ := c.def_ 5 (d := d_encode64) rfl
  obtain ⟨fd__law_cell, F__law_cell⟩ := c.def_ 6 (d := d__law_cell) rfl
  obtain ⟨fd__law_numbers, F__law_numbers⟩ := c.def_ 7 (d := d__law_numbers) rfl
  obtain ⟨fd__law_state, F__law_state⟩ := c.def_ 8 (d := d__law_state) rfl
  obtain ⟨fd__law_next, F__law_next⟩ := c.def_ 9 (d := d__law_next) rfl
  obtain ⟨fd__law_big, F__law_big⟩ := c.def_ 10 (d := d__law_big) rfl
  obtain ⟨fd__law_digits, F__law_digits⟩ := c.def_ 11 (d := d__law_digits) rfl
  obtain ⟨fd__law_encoded, F__law_encoded⟩ := c.def_ 12 (d := d__law_encoded) rfl
  obtain ⟨fd__law_full, F__law_full⟩ := c.def_ 13 (d := d__law_full) rfl
  obtain ⟨fd__law_stands, F__law_stands⟩ := c.def_ 14 (d := d__law_stands) rfl
  obtain ⟨fd_law, F_law⟩ := c.def_ 15 (d := d_law) rfl
  have e := hfa.symm.trans (He.glo_ok X G (c.fact 29 (f := fFa (.glo "law")) rfl))
  cases e
  have T : Txt K mg := ⟨He.str_ok X G (c.fact 0 rfl), He.glo_ok X G (c.fact 1 rfl), He.int_ok X G (c.fact 2 rfl), klsB_ok (c.fact 3 rfl), He.mkr_ok (c.fact 4 rfl), He.meth_ok (c.fact 5 rfl), He.meth_ok (c.fact 6 rfl), propB_ok (c.fact 7 rfl), He.free_ok X G (c.fact 8 rfl), He.free_ok X G (c.fact 9 rfl), He.free_ok X G (c.fact 10 rfl), He.free_ok X G (c.fact 11 rfl), He.free_ok X G (c.fact 12 rfl), He.free_ok X G (c.fact 13 rfl), He.free_ok X G (c.fact 14 rfl), He.free_ok X G (c.fact 15 rfl), He.free_ok X G (c.fact 16 rfl), He.free_ok X G (c.fact 17 rfl)⟩
  have b_worth := FunD.bindsN (ps := ["octet"]) F_worth fun _ _ _ _ _ _ us hl => match us, hl with | [_], _ => rfl
  have b_Base64_init := FunD.bindsN (ps := ["self"]) F_Base64_init fun _ _ _ _ _ _ us hl => match us, hl with | [_], _ => rfl
  have b_Base64_is_whole := FunD.bindsN (ps := ["self"]) F_Base64_is_whole fun _ _ _ _ _ _ us hl => match us, hl with | [_], _ => rfl
  have b_Base64_take_pad := FunD.bindsN (ps := ["self"]) F_Base64_take_pad fun _ _ _ _ _ _ us hl => match us, hl with | [_], _ => rfl
  have b_Base64_take := FunD.bindsN (ps := ["self", "octet"]) F_Base64_take fun _ _ _ _ _ _ us hl => match us, hl with | [_, _], _ => rfl
  have b_encode64 := FunD.bindsN (ps := ["octets"]) F_encode64 fun _ _ _ _ _ _ us hl => match us, hl with | [_], _ => rfl
  have b__law_cell := FunD.bindsN (ps := ["_law_script", "_law_k"]) F__law_cell fun _ _ _ _ _ _ us hl => match us, hl with | [_, _], _ => rfl
  have b__law_numbers := FunD.bindsN (ps := ["_law_cell_here", "_law_many"]) F__law_numbers fun _ _ _ _ _ _ us hl => match us, hl with | [_, _], _ => rfl
  have b__law_state := FunD.bindsN (ps := ["_law_script", "_law_left"]) F__law_state fun _ _ _ _ _ _ us hl => match us, hl with | [_, _], _ => rfl
  have b__law_next := FunD.bindsN (ps := ["_law_state_here", "_law_many"]) F__law_next fun _ _ _ _ _ _ us hl => match us, hl with | [_, _], _ => rfl
  have b__law_big := FunD.bindsN (ps := ["_law_state_here", "_law_many"]) F__law_big fun _ _ _ _ _ _ us hl => match us, hl with | [_, _], _ => rfl
  have b__law_digits := FunD.bindsN (ps := []) F__law_digits fun _ _ _ _ _ _ us hl => match us, hl with | [], _ => rfl
  have b__law_encoded := FunD.bindsN (ps := ["_law_octets"]) F__law_encoded fun _ _ _ _ _ _ us hl => match us, hl with | [_], _ => rfl
  have b__law_full := FunD.bindsN (ps := ["_law_worths"]) F__law_full fun _ _ _ _ _ _ us hl => match us, hl with | [_], _ => rfl
  have b__law_stands := FunD.bindsN (ps := ["_law_worths", "_law_pads", "_law_octet"]) F__law_stands fun _ _ _ _ _ _ us hl => match us, hl with | [_, _, _], _ => rfl
  have b_law := FunD.bindsA (ps := ["_law_script"]) F_law fun _ _ _ _ _ _ us hl => match us, hl with | [_], _ => rfl
  refine ⟨fd_law, fun s v => b_law s [v] rfl, fun base _ _ => ?_⟩
  have c_worth : Cal P w K mg base 1 "worth" (sp_worth K) := ⟨⟨_, fd_worth, ["octet"], ok_worth F_worth T, He.glo_ok X G (c.fact 18 rfl), F_worth.kp, b_worth⟩⟩
  have c_Base64_init : CalA P w K mg base 1 (mA "Base64" "__init__" K) (sp_Base64_init K) := ⟨⟨fd_Base64_init, ["self"], ok_Base64_init F_Base64_init T, b_Base64_init⟩⟩
  have c_Base64_is_whole : CalA P w K mg base 1 (pA "Base64" "is_whole" K) (sp_Base64_is_whole K) := ⟨⟨fd_Base64_is_whole, ["self"], ok_Base64_is_whole F_Base64_is_whole T, b_Base64_is_whole⟩⟩
  have c_Base64_take_pad : CalA P w K mg base 1 (mA "Base64" "take_pad" K) (sp_Base64_take_pad K) := ⟨⟨fd_Base64_take_pad, ["self"], ok_Base64_take_pad F_Base64_take_pad T, b_Base64_take_pad⟩⟩
  have c_Base64_take : CalA P w K mg base 2 (mA "Base64" "take" K) (sp_Base64_take K) := ⟨⟨fd_Base64_take, ["self", "octet"], ok_Base64_take F_Base64_take T c_Base64_take_pad c_worth, b_Base64_take⟩⟩
  have c_encode64 : Cal P w K mg base 1 "encode64" (sp_encode64 K) := ⟨⟨_, fd_encode64, ["octets"], ok_encode64 F_encode64 T, He.glo_ok X G (c.fact 19 rfl), F_encode64.kp, b_encode64⟩⟩
  have c__law_cell : Cal P w K mg base 1 "_law_cell" (sp__law_cell K) := ⟨⟨_, fd__law_cell, ["_law_script", "_law_k"], ok__law_cell F__law_cell T, He.glo_ok X G (c.fact 20 rfl), F__law_cell.kp, b__law_cell⟩⟩
  have c__law_numbers : Cal P w K mg base 1 "_law_numbers" (sp__law_numbers K) := ⟨⟨_, fd__law_numbers, ["_law_cell_here", "_law_many"], ok__law_numbers F__law_numbers T, He.glo_ok X G (c.fact 21 rfl), F__law_numbers.kp, b__law_numbers⟩⟩
  have c__law_state : Cal P w K mg base 2 "_law_state" (sp__law_state K) := ⟨⟨_, fd__law_state, ["_law_script", "_law_left"], ok__law_state F__law_state T c__law_cell c__law_numbers, He.glo_ok X G (c.fact 22 rfl), F__law_state.kp, b__law_state⟩⟩
  have c__law_next : Cal P w K mg base 1 "_law_next" (sp__law_next K) := ⟨⟨_, fd__law_next, ["_law_state_here", "_law_many"], ok__law_next F__law_next T, He.glo_ok X G (c.fact 23 rfl), F__law_next.kp, b__law_next⟩⟩
  have c__law_big : Cal P w K mg base 2 "_law_big" (sp__law_big K) := ⟨⟨_, fd__law_big, ["_law_state_here", "_law_many"], ok__law_big F__law_big T c__law_cell c__law_next, He.glo_ok X G (c.fact 24 rfl), F__law_big.kp, b__law_big⟩⟩
  have c__law_digits : Cal P w K mg base 1 "_law_digits" (sp__law_digits K) := ⟨⟨_, fd__law_digits, [], ok__law_digits F__law_digits T, He.glo_ok X G (c.fact 25 rfl), F__law_digits.kp, b__law_digits⟩⟩
  have c__law_encoded : Cal P w K mg base 2 "_law_encoded" (sp__law_encoded K) := ⟨⟨_, fd__law_encoded, ["_law_octets"], ok__law_encoded F__law_encoded T c__law_digits, He.glo_ok X G (c.fact 26 rfl), F__law_encoded.kp, b__law_encoded⟩⟩
  have c__law_full : Cal P w K mg base 1 "_law_full" (sp__law_full K) := ⟨⟨_, fd__law_full, ["_law_worths"], ok__law_full F__law_full T, He.glo_ok X G (c.fact 27 rfl), F__law_full.kp, b__law_full⟩⟩
  have c__law_stands : Cal P w K mg base 2 "_law_stands" (sp__law_stands K) := ⟨⟨_, fd__law_stands, ["_law_worths", "_law_pads", "_law_octet"], ok__law_stands F__law_stands T c__law_digits c__law_full, He.glo_ok X G (c.fact 28 rfl), F__law_stands.kp, b__law_stands⟩⟩
  exact ok_law F_law T c_Base64_init c_Base64_is_whole c_Base64_take c__law_digits c__law_encoded c__law_full c__law_next c__law_stands c__law_state c_encode64
end Fa
open PySem PySem.W PySem.Calls PyProof.Rows
set_option maxRecDepth 100000 in
set_option maxHeartbeats 0 in
theorem PySem.Challenge.cw_formsalike_k08_base64_holds : PySem.Challenge.rw_formsalike_k08_base64.Holds := by
  w_on; o_law
  refine HandSHeadRun.head_any (r := OpenLaw.row PySem.Challenge.rw_formsalike_k08_base64) (q := view (OpenLaw.row PySem.Challenge.rw_formsalike_k08_base64).prog [16]) (H := Fa.hk) (ob := Fa.ob) (M := 4000) (loose := Fa.loose) (d := HandSHeadRun.topDef (OpenLaw.row PySem.Challenge.rw_formsalike_k08_base64).prog 16) (kwd := []) Fa.ob_eq
    (by kernel_rfl) (fun s => by kernel_rfl) Fa.run (by kernel_rfl) (by kernel_rfl) (by kernel_rfl) (by rfl) (by first | assumption | decide +kernel) (by decide +kernel) ⟨rfl, rfl, rfl, rfl, rfl, by decide +kernel⟩ ?hw ?hc
  case hw => w_witness2
  case hc =>
    refine L2.walk_ofE (l := PySem.Challenge.rw_formsalike_k08_base64) (n := 63) (k := 3) (x := "_law_script") (CX := L2.CX0) rfl (by decide) (by kernel_rfl) ⟨rfl, by decide, by decide⟩ ?F (fun _ _ _ _ z => z)
    intro w mg fa h Y G hmg0
    obtain ⟨K, KX, c⟩ := Y
    have hmg : mg ("law" : PySem.Str) = some (.ref fa) := by
      have e : (HandSHeadRun.topDef (OpenLaw.row PySem.Challenge.rw_formsalike_k08_base64).prog 16).name = ("law" : PySem.Str) := by kernel_rfl
      rw [← e]
      exact hmg0
    obtain ⟨fd, hb, hF⟩ := Fa.facts (P := (PySem.Challenge.rw_formsalike_k08_base64).prog) (w := w) KX G hmg c
    exact ⟨K, fd, Fa.sp_law K, KX, hb, fun H a ns hl ho hS => ⟨a, ns, rfl, hS, hl, ho, fun _ => rfl⟩, hF⟩
#print axioms PySem.Challenge.cw_formsalike_k08_base64_holds
