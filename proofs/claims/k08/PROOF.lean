import PyProof.Rows.All
import Wide.All
import OpenK.AllK
import Wide.FinOn
import KE.KStateDown
import HandS.ForMost
import HandS.More
import HandS.Words
import HandS.WordsExc
import HandS.Defaults
import HandS.Star
import HandS.Property
import HandS.ClsMeth
import HandS.Flow
import HandS.Wide
import HandS.Conv
import HandS.IsInst
import HandS.TupAny
import HandS.DictComp
import HandS.ListItems
import HandS.Evl
import HandS.Steps
import HandS.Head0
import HandS.Head1
import HandS.Head2
import HandS.HeadEnd
import HandS.HeadHook1
import HandS.HeadHook2
import HandS.HeadHook4
import HandS.HeadNt
import HandS.EndBits
import HandS.GenList
import HandS.GenYield
import KE.GoesEnum
import HandS.Walk
import HandS.NoneIn
import HandS.Style
import KE.KCallOwn
import PyProof.Conv_bool
import PySem.Challenge.RW_emptiesback_k08_whole_numbers_that_are_m
set_option Elab.async false
set_option linter.all false
set_option maxRecDepth 100000
namespace EB
open PySem PySem.Spec L2
set_option maxHeartbeats 1000000

/-! ## heaps that grow -/
/-- all that is tracked in H stands in H' as it stood -/
abbrev Ex (H H' : Hp) : Prop := Evl.Ex H H'
theorem Ex.rfl' {H : Hp} : Ex H H := fun _ _ h => h
/-- all but the object at l stands -/
def ExB (l : Addr) (H H' : Hp) : Prop := ∀ a o, a ≠ l → H a = some o → H' a = some o
theorem ExB.of {l : Addr} {H H' : Hp} (e : Ex H H') : ExB l H H' := fun a o _ h => e a o h
theorem ExB.trans {l : Addr} {H H1 H2 : Hp} (e : ExB l H H1) (f : ExB l H1 H2) : ExB l H H2 := fun a o n h => f a o n (e a o n h)
theorem ExB.upd {l : Addr} {H : Hp} {o : HO} : ExB l H (L2.upd H l o) := fun a u n h => by rw [upd_ne n]; exact h
/-- l is new behind H: what changes at l alone keeps H -/
theorem ExB.ex {l : Addr} {H0 H H' : Hp} (e : Ex H0 H) (n : H0 l = none) (f : ExB l H H') : Ex H0 H' := fun a o h => f a o (ne_of_none h n) (e a o h)
theorem exE {H H' : Hp} {a : Addr} {o : HO} (h : H a = some o) (e : Ex H H') : H' a = some o := e a o h
theorem exT {K : PySem.W.Frag} {H H' : Hp} {a : Addr} {xs : List V} (h : SqT K H a xs) (e : Ex H H') : SqT K H' a xs := Evl.ex_t e h
theorem exL {K : PySem.W.Frag} {H H' : Hp} {a : Addr} {xs : List V} (h : SqL K H a xs) (e : Ex H H') : SqL K H' a xs := Evl.ex_l e h
theorem ex2 {H H1 H2 : Hp} (f : Ex H1 H2) (e : Ex H H1) : Ex H H2 := Evl.Ex.trans e f
theorem exN {H H1 : Hp} {p : Addr} {o : HO} (n : H1 p = none) (e : Ex H H1) : Ex H (L2.upd H1 p o) := Evl.Ex.trans e (Evl.Ex.new n)
theorem ex_sqT {K : PySem.W.Frag} {H H' : Hp} {a : Addr} {xs : List V} (e : Ex H H') (h : SqT K H a xs) : SqT K H' a xs := Evl.ex_t e h
theorem ex_sqL {K : PySem.W.Frag} {H H' : Hp} {a : Addr} {xs : List V} (e : Ex H H') (h : SqL K H a xs) : SqL K H' a xs := Evl.ex_l e h

/-! ## operators by name -/
def rAddI : R2 := rI0 fun i j => .int (i + j)
def rSubI : R2 := rI0 fun i j => .int (i - j)
def rMulI : R2 := rI CMul fun i j => .int (i * j)
def rMulW : R2 := rI CMulW fun i j => .int (i * j)
def rFdI : R2 := rI CDiv fun i j => .int (i / j)
def rFdW : R2 := rI CDivW fun i j => .int (i / j)
def rModI : R2 := rI (fun _ j => 0 < j) fun i j => .int (i % j)
def rPowI : R2 := rI CPow fun i j => .int (i ^ j.toNat)
def rLtI : R2 := rI0 fun i j => .bl (decide (i < j))
def rLeI : R2 := rI0 fun i j => .bl (decide (i ≤ j))
def rGtI : R2 := rI0 fun i j => .bl (decide (j < i))
def rGeI : R2 := rI0 fun i j => .bl (decide (j ≤ i))
section
variable {X : Cx}
theorem o_add : OpR X (binaryOp .Add) rAddI := op_add
theorem o_sub : OpR X (binaryOp .Sub) rSubI := op_sub
theorem o_mul : OpR X (binaryOp .Mult) rMulI := op_mul
theorem o_mulW : OpR X (binaryOp .Mult) rMulW := op_mulW
theorem o_fd : OpR X (binaryOp .FloorDiv) rFdI := op_fdiv
theorem o_fdW : OpR X (binaryOp .FloorDiv) rFdW := op_fdivW
theorem o_mod : OpR X (binaryOp .Mod) rModI := op_mod
theorem o_pow : OpR X (binaryOp .Pow) rPowI := op_pow
theorem o_lt : OpR X (compareOp .Lt) rLtI := op_lt
theorem o_le : OpR X (compareOp .LtE) rLeI := op_le
theorem o_gt : OpR X (compareOp .Gt) rGtI := op_gt
theorem o_ge : OpR X (compareOp .GtE) rGeI := op_ge
end

theorem cmul_l {i j : Int} (h1 : -18446744073709551616 < i) (h2 : i < 18446744073709551616) : CMul i j := .inl ⟨h1, h2⟩
theorem cmul_r {i j : Int} (h1 : -18446744073709551616 < j) (h2 : j < 18446744073709551616) : CMul i j := .inr ⟨h1, h2⟩
theorem cdiv {i j : Int} (h1 : 0 < j) (h2 : j < 1073741824) : CDiv i j := ⟨h1, h2⟩
theorem cdivW {i j : Int} (h1 : 0 < j) (h2 : j < 1329227995784915872903807060280344576) : CDivW i j := wide_div (b := 120) h1 (by omega) (by decide) (by decide)
theorem cpow {i j : Int} (h1 : 0 ≤ j) (h2 : j ≤ 1000) (h3 : 0 ≤ i) (h4 : i < 1000) : CPow i j := ⟨h1, by omega, by omega⟩
/-! ## one step of a reading each -/
section
variable {σ σ' : St} {H : Hp} {Q : VK} {i j : Int} {x y v : V} {ta tb te : TE} {r r' : R2} {D : Ends} {K : PySem.W.Frag}
theorem w_var {k : Nat} (h : σ[k]? = some (some v)) (q : Q v H) : tVar k σ H Q := ⟨v, h, q⟩
theorem w_c (q : Q v H) : tC v σ H Q := q
theorem w_op (q : ta σ H fun x H1 => tb σ H1 fun y H2 => r x y H2 Q) : tOp r ta tb σ H Q := q
theorem w_add (q : Q (.int (i + j)) H) : rAddI (.int i) (.int j) H Q := ⟨i, j, rfl, rfl, q⟩
theorem w_sub (q : Q (.int (i - j)) H) : rSubI (.int i) (.int j) H Q := ⟨i, j, rfl, rfl, q⟩
theorem w_mul (c : CMul i j) (q : Q (.int (i * j)) H) : rMulI (.int i) (.int j) H Q := ⟨i, j, rfl, rfl, c, q⟩
theorem w_mulW (c : CMulW i j) (q : Q (.int (i * j)) H) : rMulW (.int i) (.int j) H Q := ⟨i, j, rfl, rfl, c, q⟩
theorem w_fd (c : CDiv i j) (q : Q (.int (i / j)) H) : rFdI (.int i) (.int j) H Q := ⟨i, j, rfl, rfl, c, q⟩
theorem w_fdW (c : CDivW i j) (q : Q (.int (i / j)) H) : rFdW (.int i) (.int j) H Q := ⟨i, j, rfl, rfl, c, q⟩
theorem w_mod (c : 0 < j) (q : Q (.int (i % j)) H) : rModI (.int i) (.int j) H Q := ⟨i, j, rfl, rfl, c, q⟩
theorem w_pow (c : CPow i j) (q : Q (.int (i ^ j.toNat)) H) : rPowI (.int i) (.int j) H Q := ⟨i, j, rfl, rfl, c, q⟩
theorem w_lt (q : Q (.bl (decide (i < j))) H) : rLtI (.int i) (.int j) H Q := ⟨i, j, rfl, rfl, q⟩
theorem w_le (q : Q (.bl (decide (i ≤ j))) H) : rLeI (.int i) (.int j) H Q := ⟨i, j, rfl, rfl, q⟩
theorem w_gt (q : Q (.bl (decide (j < i))) H) : rGtI (.int i) (.int j) H Q := ⟨i, j, rfl, rfl, q⟩
theorem w_ge (q : Q (.bl (decide (j ≤ i))) H) : rGeI (.int i) (.int j) H Q := ⟨i, j, rfl, rfl, q⟩
theorem dec_int : decide (V.int i = V.int j) = decide (i = j) := by
  by_cases h : i = j
  · rw [decide_eq_true h, decide_eq_true (congrArg V.int h)]
  · rw [decide_eq_false h, decide_eq_false fun e => h (V.int.inj e)]
theorem dec_str {a b : Str} : decide (V.str a = V.str b) = decide (a = b) := by
  by_cases h : a = b
  · rw [decide_eq_true h, decide_eq_true (congrArg V.str h)]
  · rw [decide_eq_false h, decide_eq_false fun e => h (V.str.inj e)]
theorem dec_bl {a b : Bool} : decide (V.bl a = V.bl b) = decide (a = b) := by
  cases a <;> cases b <;> decide
theorem w_eqI (q : Q (.bl (decide (i = j))) H) : rEq (.int i) (.int j) H Q := ⟨rfl, by rw [dec_int]; exact q⟩
theorem w_neI (q : Q (.bl (!decide (i = j))) H) : rNe (.int i) (.int j) H Q := ⟨rfl, by rw [dec_int]; exact q⟩
theorem w_eqS {a b : Str} (q : Q (.bl (decide (a = b))) H) : rEq (.str a) (.str b) H Q := ⟨rfl, by rw [dec_str]; exact q⟩
theorem w_neS {a b : Str} (q : Q (.bl (!decide (a = b))) H) : rNe (.str a) (.str b) H Q := ⟨rfl, by rw [dec_str]; exact q⟩
theorem w_eqB {a b : Bool} (q : Q (.bl (decide (a = b))) H) : rEq (.bl a) (.bl b) H Q := ⟨rfl, by rw [dec_bl]; exact q⟩
theorem w_neB {a b : Bool} (q : Q (.bl (!decide (a = b))) H) : rNe (.bl a) (.bl b) H Q := ⟨rfl, by rw [dec_bl]; exact q⟩
theorem w_isN (q : Q (.bl (decide (x = .non))) H) : rIsN x .non H Q := ⟨rfl, q⟩
theorem w_notN (q : Q (.bl (!decide (x = .non))) H) : rNotN x .non H Q := ⟨rfl, q⟩
/-! tests -/
variable {R : Bool → Hp → Prop} {t u : TT} {b c : Bool} {A B : Prop}
theorem w_test (q : te σ H fun x H' => ∃ k, x = .bl k ∧ R k H') : tTest te σ H R := q
theorem w_tB (q : te σ H fun x H' => ∃ k, x = .bl k ∧ R k H') : tB te σ H R := q
theorem w_exb {P : Bool → Prop} (q : P b) : ∃ k, V.bl b = .bl k ∧ P k := ⟨b, rfl, q⟩
theorem w_and (q : t σ H fun c H1 => if c = true then u σ H1 R else R false H1) : tAnd t u σ H R := q
theorem w_or (q : t σ H fun c H1 => if c = true then R true H1 else u σ H1 R) : tOr t u σ H R := q
theorem w_not (q : t σ H fun c H1 => R (!c) H1) : tNot t σ H R := q
theorem w_andV (q : ta σ H fun x H1 => ∃ c, x = .bl c ∧ if c = true then tb σ H1 Q else Q (.bl false) H1) : tAndV ta tb σ H Q := q
theorem w_orV (q : ta σ H fun x H1 => ∃ c, x = .bl c ∧ if c = true then Q (.bl true) H1 else tb σ H1 Q) : tOrV ta tb σ H Q := q
theorem w_notV (q : ta σ H fun x H1 => ∃ c, x = .bl c ∧ Q (.bl (!c)) H1) : tNotV ta σ H Q := q
theorem w_chain {tc : TE} (q : ta σ H fun x H1 => tb σ H1 fun y H2 => r x y H2 fun z H3 => ∃ k, z = .bl k ∧ (if k = true then tc σ H3 fun w' H4 => r' y w' H4 Q else Q (.bl false) H3)) : tChain r r' ta tb tc σ H Q := q
theorem w_if (q : t σ H fun c H1 => if c = true then ta σ H1 Q else tb σ H1 Q) : tIf t ta tb σ H Q := q
/-- a branch that the facts decide -/
theorem w_t (h : c = true) (q : A) : if c = true then A else B := by rw [if_pos h]; exact q
theorem w_f (h : c = false) (q : B) : if c = true then A else B := by rw [h]; exact q
theorem w_2 {p : Prop} [Decidable p] (h1 : p → A) (h2 : ¬ p → B) : if decide p = true then A else B := by
  by_cases h : p
  · rw [decide_eq_true h]; exact h1 h
  · rw [decide_eq_false h]; exact h2 h
theorem w_2n {p : Prop} [Decidable p] (h1 : ¬ p → A) (h2 : p → B) : if (!decide p) = true then A else B := by
  by_cases h : p
  · rw [decide_eq_true h]; exact h2 h
  · rw [decide_eq_false h]; exact h1 h
theorem w_2b (h1 : c = true → A) (h2 : c = false → B) : if c = true then A else B := by
  cases c with
  | true => exact h1 rfl
  | false => exact h2 rfl
/-! statements -/
variable {s1 s2 : TS} {g : TG}
theorem w_seq (q : s1 { nx := s2 D, rt := D.rt, bk := D.bk, ct := D.ct } σ H) : tSeq s1 s2 D σ H := q
theorem w_next (q : D.nx σ H) : tNext D σ H := q
theorem w_ret (q : te σ H D.rt) : tRet te D σ H := q
theorem w_drop (q : te σ H fun _ H1 => D.nx σ H1) : tDrop te D σ H := q
theorem w_ifS (q : t σ H fun b H1 => if b = true then s1 D σ H1 else s2 D σ H1) : tIfS t s1 s2 D σ H := q
theorem w_asg (q : te σ H fun x H1 => g x σ H1 D.nx) : tAsg te g D σ H := q
theorem w_name {k : Nat} {P : St → Hp → Prop} (q : ∀ s', σ.set k (some v) = s' → P s' H) : gName k v σ H P := q _ rfl
theorem w_par {k l : Nat} {t : TA} (q : t σ H fun vs H1 => ∃ v w, vs = [v, w] ∧ ∀ s', (σ.set k (some v)).set l (some w) = s' → D.nx s' H1) (mono : ∀ σ H (Q Q' : List V → Hp → Prop), (∀ vs H1, Q vs H1 → Q' vs H1) → t σ H Q → t σ H Q') : tPar k l t D σ H :=
  mono _ _ _ _ (fun vs H1 ⟨v, w, e, p⟩ => ⟨v, w, e, p _ rfl⟩) q
theorem w_parP {k l : Nat} {t : TA} (q : t σ H fun vs H1 => ∃ v w, vs = [v, w] ∧ D.nx ((σ.set k (some v)).set l (some w)) H1) : tPar k l t D σ H := q
theorem w_par2 {w : V} {P : V → V → Prop} (q : P v w) : ∃ v' w', [v, w] = [v', w'] ∧ P v' w' := ⟨v, w, rfl, q⟩
theorem w_aug {k : Nat} {ti : TIp} (h : σ[k]? = some (some x)) (q : te σ H fun y H1 => ti x y H1 fun z H2 => D.nx (σ.set k (some z)) H2) : tAug k te ti D σ H := ⟨_, h, q⟩
theorem w_ip {f : Int → Int → Int} (q : Q (.int (f i j)) H) : ipI f (.int i) (.int j) H Q := ⟨i, j, rfl, rfl, q⟩
/-! arguments, calls -/
variable {ts : TA} {G : List V → Hp → Prop} {E : XK} {sp : Sp} {rc : List V → Hp → VK → Prop}
theorem w_nil (q : G [] H) : tNil σ H G := q
theorem w_cons (q : te σ H fun x H1 => ts σ H1 fun xs H2 => G (x :: xs) H2) : tCons te ts σ H G := q
theorem w_call (q : ts σ H fun vs H1 => sp vs H1 Q E) : tCall sp [] E ts σ H Q := by
  have e : (fun vs H1 => sp (vs ++ []) H1 Q E) = fun vs H1 => sp vs H1 Q E := by
    funext vs H1
    rw [List.append_nil]
  show ts σ H (fun vs H1 => sp (vs ++ []) H1 Q E)
  rw [e]
  exact q
theorem w_CB (q : ts σ H fun vs H1 => rc vs H1 Q) : tCB rc ts σ H Q := q
/-! new lists, new tuples -/
/-- what is wanted may be weakened -/
def clA (ts : TA) : TA := fun σ H G => ∃ G0 : List V → Hp → Prop, ts σ H G0 ∧ ∀ vs H', G0 vs H' → G vs H'
def clE (te : TE) : TE := fun σ H Q => ∃ Q0 : VK, te σ H Q0 ∧ ∀ v H', Q0 v H' → Q v H'
theorem pa_cl {X : Cx} {es : List Expr} (h : PA X es ts) : PA X es (clA ts) := ⟨fun pos pins s σ H G I ⟨G0, q, k⟩ =>
  thn (h.run pos pins s σ H G0 I q) fun _ _ ⟨vs, H1, I1, r, g⟩ => ⟨vs, H1, I1, r, k vs H1 g⟩⟩
theorem pe_cl {X : Cx} {e : Expr} (h : PE X e te) : PE X e (clE te) := ⟨fun pins s σ H Q I ⟨Q0, q, k⟩ =>
  thn (h.run pins s σ H Q0 I q) fun _ _ ⟨v, H1, I1, r, g⟩ => ⟨v, H1, I1, r, k v H1 g⟩⟩
theorem w_lst (q : ts σ H fun xs H1 => xs.length ≤ 1000 ∧ ∀ p H2, H1 p = none → Ex H1 H2 → H2 p = some (.lst xs) → Q (.ref p) H2) : tLst (clA ts) σ H Q :=
  ⟨_, q, fun _ _ ⟨l, k⟩ => ⟨Nat.le_trans l (by decide), fun a h => k a _ h (Evl.Ex.new h) upd_same⟩⟩
theorem w_tup (q : ts σ H fun xs H1 => xs.length ≤ 1000 ∧ ∀ p H2, H1 p = none → Ex H1 H2 → H2 p = some (.tup xs) → Q (.ref p) H2) : tTup (clA ts) σ H Q :=
  ⟨_, q, fun _ _ ⟨l, k⟩ => ⟨Nat.le_trans l (by decide), fun a h => k a _ h (Evl.Ex.new h) upd_same⟩⟩
theorem w_short {n : Nat} {R : Addr → Hp → Prop} {o : HO} (hn : n ≤ 1000) (q : ∀ p H2, H p = none → Ex H H2 → H2 p = some o → R p H2) : n ≤ 1000 ∧ ∀ p H2, H p = none → Ex H H2 → H2 p = some o → R p H2 := ⟨hn, q⟩
theorem w_new1 {o : HO} {P : Addr → Hp → Prop} (q : ∀ p H2, H p = none → Ex H H2 → H2 p = some o → P p H2) : ∀ p, H p = none → P p (upd H p o) := fun p h => q p _ h (Evl.Ex.new h) upd_same
/-! targets -/
variable {gs : TGs} {P : St → Hp → Prop} {a : Addr} {xs : List V} {n : Nat}
theorem w_gTup (h : SqT K H a xs) (hl : xs.length = n) (q : gs xs σ H P) : gTup K n gs (.ref a) σ H P := ⟨a, xs, rfl, h, hl, q⟩
theorem w_gCons (q : g x σ H fun s' H' => gs xs s' H' P) : gCons g gs (x :: xs) σ H P := ⟨x, xs, rfl, q⟩
theorem w_gNil (q : P σ H) : gNil [] σ H P := ⟨rfl, q⟩
/-! parts of lists, tuples -/
theorem w_ixT (h : SqT K H a xs) (hi : atI xs i = some v) (q : Q v H) : rIxT K (.ref a) (.int i) H Q := ⟨a, xs, i, v, rfl, rfl, h, hi, q⟩
theorem w_ixL (h : SqL K H a xs) (hi : atI xs i = some v) (q : Q v H) : rIxL K (.ref a) (.int i) H Q := ⟨a, xs, i, v, rfl, rfl, h, hi, q⟩
/-! built-ins -/
def rInt : List V → Hp → VK → Prop := fun xs H Q => (∃ i, xs = [.int i] ∧ Q (.int i) H) ∨ ∃ k, xs = [.bl k] ∧ Q (.int (if k then 1 else 0)) H
def rLen (K : PySem.W.Frag) : List V → Hp → VK → Prop := fun xs H Q => ∃ x n, xs = [x] ∧ LenV K x H n ∧ Q (.int n) H
def rListO (K : PySem.W.Frag) : List V → Hp → VK → Prop := fun xs H Q => ∃ p ys, xs = [.ref p] ∧ (SqL K H p ys ∨ SqT K H p ys) ∧ ∀ l, H l = none → Q (.ref l) (upd H l (.lst ys))
def rTupO (K : PySem.W.Frag) : List V → Hp → VK → Prop := fun xs H Q => ∃ p ys, xs = [.ref p] ∧ ((SqL K H p ys ∧ ∀ l, H l = none → Q (.ref l) (upd H l (.tup ys))) ∨ (SqT K H p ys ∧ Q (.ref p) H))
def rMx2 : List V → Hp → VK → Prop := fun xs H Q => ∃ i j, xs = [.int i, .int j] ∧ Q (.int (if j > i then j else i)) H
theorem c_int {X : Cx} : CallR X (.type "int") rInt := call_int1
theorem c_len {X : Cx} : CallR X (.builtin "len") (rLen X.K) := call_len
theorem c_listO {X : Cx} : CallR X (.type "list") (rListO X.K) := call_list_of
theorem c_tupO {X : Cx} : CallR X (.type "tuple") (rTupO X.K) := call_tuple_of
theorem c_mx2 {X : Cx} (hc : X.calm = true) : CallR X (.builtin "max") rMx2 := call_max2 hc
theorem w_int (q : Q (.int i) H) : rInt [.int i] H Q := .inl ⟨i, rfl, q⟩
theorem w_intB {b : Bool} (q : Q (.int (if b then 1 else 0)) H) : rInt [.bl b] H Q := .inr ⟨b, rfl, q⟩
theorem w_lenS {z : Str} (h : z.length ≤ sizeLine) (q : Q (.int z.length) H) : rLen K [.str z] H Q := ⟨_, _, rfl, ⟨h, rfl⟩, q⟩
theorem w_lenL (h : SqL K H a xs) (q : Q (.int xs.length) H) : rLen K [.ref a] H Q := ⟨_, _, rfl, .inl ⟨_, h, rfl⟩, q⟩
theorem w_lenT (h : SqT K H a xs) (q : Q (.int xs.length) H) : rLen K [.ref a] H Q := ⟨_, _, rfl, .inr ⟨_, h, rfl⟩, q⟩
theorem w_listL (h : SqL K H a xs) (q : ∀ p H2, H p = none → Ex H H2 → H2 p = some (.lst xs) → Q (.ref p) H2) : rListO K [.ref a] H Q := ⟨a, xs, rfl, .inl h, w_new1 q⟩
theorem w_listT (h : SqT K H a xs) (q : ∀ p H2, H p = none → Ex H H2 → H2 p = some (.lst xs) → Q (.ref p) H2) : rListO K [.ref a] H Q := ⟨a, xs, rfl, .inr h, w_new1 q⟩
theorem w_tupL (h : SqL K H a xs) (q : ∀ p H2, H p = none → Ex H H2 → H2 p = some (.tup xs) → Q (.ref p) H2) : rTupO K [.ref a] H Q := ⟨a, xs, rfl, .inl ⟨h, w_new1 q⟩⟩
theorem w_tupT (h : SqT K H a xs) (q : Q (.ref a) H) : rTupO K [.ref a] H Q := ⟨a, xs, rfl, .inr ⟨h, q⟩⟩
theorem w_sum {ns : List Int} (h : SqL K H a (ns.map V.int)) (q : Q (.int ns.sum) H) : rSum K [.ref a] H Q := ⟨a, ns, rfl, h, q⟩
theorem w_all {bs : List Bool} (h : SqL K H a (bs.map V.bl)) (q : Q (.bl (bs.all id)) H) : rAll K [.ref a] H Q := ⟨a, bs, rfl, h, q⟩
theorem w_any {bs : List Bool} (h : SqL K H a (bs.map V.bl)) (q : Q (.bl (bs.any id)) H) : rAny K [.ref a] H Q := ⟨a, bs, rfl, h, q⟩
theorem w_mx2 (q : Q (.int (if j > i then j else i)) H) : rMx2 [.int i, .int j] H Q := ⟨i, j, rfl, q⟩
/-! fields -/
theorem w_fld {C dx : Addr} {fs : List (Str × V)} {f : Str} (q : te σ H fun x H1 => ∃ a C dx fs v, x = .ref a ∧ H1 a = some (.ins C dx fs) ∧ Cls K C ∧ NoAttr K C f ∧ fs.lookup f = some v ∧ Q v H1) : tFld K te f σ H Q := q
theorem w_fld2 {C dx : Addr} {fs : List (Str × V)} {f : Str} {P : V → Prop} (h : H a = some (.ins C dx fs)) (c : Cls K C) (n : NoAttr K C f) (l : fs.lookup f = some v) (q : P v) :
    ∃ a' C' dx' fs' v', V.ref a = .ref a' ∧ H a' = some (.ins C' dx' fs') ∧ Cls K C' ∧ NoAttr K C' f ∧ fs'.lookup f = some v' ∧ P v' := ⟨a, C, dx, fs, v, rfl, h, c, n, l, q⟩
end

/-! ## loops -/
section
variable {σ : St} {H : Hp} {Q : VK} {te : TE} {D : Ends} {K : PySem.W.Frag} {g : TG} {a : Addr} {xs : List V} {tb : TS}
/-- [e for target in t] over a tuple; ys: the elements' values; nothing but new objects -/
theorem w_lcT {tl : TE} {vs : List Nat} (ys : List V) (hx : SqT K H a xs) (hz : xs.length ≤ 1000) (hy : ys.length = xs.length) (ht : ∀ R : VK, R (.ref a) H → tl σ H R)
    (hb : ∀ (i : Nat) x y, xs[i]? = some x → ys[i]? = some y → ∀ H1, Ex H H1 → ∀ R : VK, (∀ H2, Ex H1 H2 → R y H2) → g x (wipe σ vs) H1 fun σ2 H2 => wipe σ2 vs = wipe σ vs ∧ te σ2 H2 R)
    (q : ∀ p H2, H p = none → Ex H H2 → H2 p = some (.lst ys) → Q (.ref p) H2) : tLc (iTup K tl) g tYes te vs σ H Q := by
  refine ht _ ⟨a, rfl, ⟨_, hx⟩, fun D hD => ?_⟩
  refine lc_tup (K := K) (a := a) (xs := xs) (fun i H' => Ex H H' ∧ H' D = some (.lst (ys.take i))) ⟨Evl.Ex.new hD, by simpa using upd_same⟩ (fun i H' _ ⟨e, _⟩ => ex_sqT e hx) ?_ ?_
  · rintro i x H' hi ⟨e, hd⟩
    have lt := (List.getElem?_eq_some_iff.mp hi).1
    have hyi : ys[i]? = some ys[i] := List.getElem?_eq_getElem (by omega)
    refine hb i x ys[i] hi hyi H' e _ fun H2 e2 => ?_
    refine ⟨_, e2 D _ hd, ?_, ExB.ex (Evl.Ex.trans e e2) hD ExB.upd, ?_⟩
    · rw [List.length_take, hy]
      exact Nat.lt_of_le_of_lt (Nat.min_le_right _ _) (Nat.lt_of_le_of_lt hz (by decide))
    · rw [upd_same, List.take_succ, hyi]
      rfl
  · rintro H' ⟨e, hd⟩
    rw [← hy, List.take_length] at hd
    exact q D H' hD e hd
end
end EB
namespace EB
open PySem PySem.Spec L2
set_option maxHeartbeats 2000000
/-! ## rules that the layer lacks -/
section
variable {X : Cx}
/-! ### sum(t), t a tuple of ints -/
def rSumT (K : PySem.W.Frag) : List V → Hp → VK → Prop := fun vs H Q => ∃ (a : Addr) (ns : List Int), vs = [V.ref a] ∧ SqT K H a (ns.map V.int) ∧ Q (.int ns.sum) H
theorem sumT_raw {prog : Program} {w : World} {A : Around} {E : Value → Shared → Prop} {s : Shared} {l : Addr} {its : List Value} {ns : List Int} {Q : Value → Shared → Prop}
    (hh : A.handled = none) (hl : s.heap.IsTuple l its.toArray) (hi : PyProof.Rows.IntsAre its ns)
    (h : ∀ h' tk t', (∀ b o, s.heap.get? b = some o → h'.get? b = some o) → Q (.int ns.sum t') { s with heap := h', toks := tk }) : wpAny (model prog w) A (call (.builtin "sum") [.ref l]) Q E s := by
  obtain ⟨ys, ey⟩ := hi.allInts.items
  have en : numsOf (intItems ys).toList = ns := by
    rw [← ey]
    exact hi.numsOf
  rw [nums_intItems] at en
  rw [ey] at hl
  have below : l < s.heap.objs.size := by
    obtain ⟨_, q, _⟩ := hl
    exact Heap.lt_size q
  refine call_sum_walkG (wpAny_pyIter_tuple hl ?_)
  refine ⟨s.heap.objs.size, [s.heap.objs.size, l], [s.heap.objs.size], _, _, _, numAt ys, rfl, Walks.tuple (A := A.in1) hh _ l (Nat.ne_of_lt below) (intItems ys), ⟨⟨_, Heap.get?_push_size _ rfl, rfl, rfl⟩, hl.push _⟩, fun b hb => ?_, fun _ _ => intItems_at, fun h' tk t' hk => ?_⟩
  · show b < (s.heap.push _).objs.size
    rw [Heap.size_push]
    rcases List.mem_cons.mp hb with e | hb
    · rw [e]
      exact Nat.lt_succ_self _
    · rw [List.mem_singleton.mp hb]
      exact Nat.lt_succ_of_lt below
  · have fin := h h' tk t' fun b o q => hk b o (fun z => by
      rw [List.mem_singleton.mp z] at q
      exact absurd (Heap.lt_size q) (Nat.lt_irrefl _)) (Heap.get?_push_of_some _ q)
    have e1 : preSum (numAt ys) ys.size = ns.sum := by
      rw [preSum_eq, List.take_of_length_le (by simp), en]
    have e2 : (intItems ys).size = ys.size := by simp [intItems]
    rw [e2, e1]
    exact fin
theorem c_sumT (hc : X.calm = true) : CallR X (.builtin "sum") (rSumT X.K) := by
  intro pins s σ H vs us Q I r h
  obtain ⟨a, ns, rfl, hs, q⟩ := h
  obtain ⟨its, rv, hl, _⟩ := I.tuple hs
  rw [Vals.ref1 r]
  exact sumT_raw (I.ok.hd hc) hl rv.ints fun h' tk t' hk => ⟨.int _, H, I.kept hk, ⟨_, rfl⟩, q⟩
theorem w_sumT {K : PySem.W.Frag} {H : Hp} {Q : VK} {a : Addr} {ns : List Int} (h : SqT K H a (ns.map V.int)) (q : Q (.int ns.sum) H) : rSumT K [.ref a] H Q := ⟨a, ns, rfl, h, q⟩
end
/-! ### for i, x in enumerate(t), t a tuple -/
/-- enumerate(v), v anything whose iterator begins as told -/
theorem meets_enum1 {v : Value} {o : Obj} {G : Heap → Prop} (B : Begins v o G) :
    Meets (Builtin.«enumerate.__new__» ⟨[.type "enumerate", v], []⟩) (fun _ R s => G s.heap ∧
      R (.ok (.ret (.ref (s.heap.push o).objs.size))) { s with heap := (s.heap.push o).push { cls := .type "enumerate", data := .fields #[.none, .bool false, .ref s.heap.objs.size, rawInt 0, .none, .none] } }) :=
  .of_wp fun prog w A R s h => by
    obtain ⟨hp, g, d, tk, os⟩ := s
    obtain ⟨h1, h⟩ := h
    have hsub := sub_enumerate
    have q1 : ∀ {A' : Around} {E : Value → Shared → Prop} {Q : Value → Shared → Prop}, Q (.ref hp.objs.size) ⟨hp.push o, g, d, tk, os⟩ → wpAny (model prog w) A' (pyIter v) Q E ⟨hp, g, d, tk, os⟩ := fun q => B.iter prog w _ _ ⟨hp, g, d, tk, os⟩ _ h1 q
    wp_walk using q1
    refine wpAny_stack_any fun _ => wpAny_pure ?_
    split
    · rename_i c _ _ _ _ _
      cases (c == Value.type "enumerate") <;> (wp_walk using q1; exact ⟨_, rfl, h⟩)
    · wp_walk using q1
      exact ⟨_, rfl, h⟩
theorem call_enum1 {prog : Program} {w : World} {A : Around} {E : Value → Shared → Prop} {s : Shared} {v : Value} {o : Obj} {G : Heap → Prop} {Q : Value → Shared → Prop} (B : Begins v o G) (h1 : G s.heap)
    (h : ∀ h', PySem.IsEnum h' (s.heap.objs.size + 1) s.heap.objs.size 0 .none → h'.get? s.heap.objs.size = some o → (∀ b u, s.heap.get? b = some u → h'.get? b = some u) → Q (.ref (s.heap.objs.size + 1)) { s with heap := h' }) :
    wpAny (model prog w) A (call (.type "enumerate") [v]) Q E s := by
  refine callType_new F.called_enumerate (by decide) (F.typeCall_enumerate_1 _) (F.newCall_enumerate_1 _) (fun obj => F.args_object_init_2 obj _) F.entry_enumerate_new (meets_enum1 B) ⟨h1, ?_⟩
  generalize hb : s.heap.push o = g1
  have z1 : g1.objs.size = s.heap.objs.size + 1 := by
    rw [← hb]
    exact Heap.size_push ..
  have a1 : g1.get? s.heap.objs.size = some o := by
    rw [← hb]
    exact Heap.get?_push_size _ B.free
  have k1 : ∀ b u, s.heap.get? b = some u → g1.get? b = some u := fun b u q => by
    rw [← hb]
    exact Heap.get?_push_of_some _ q
  generalize hc : g1.push { cls := .type "enumerate", data := .fields #[.none, .bool false, .ref s.heap.objs.size, rawInt 0, .none, .none] } = g2
  have a2 : g2.get? g1.objs.size = some { cls := .type "enumerate", data := .fields #[.none, .bool false, .ref s.heap.objs.size, rawInt 0, .none, .none] } := by
    rw [← hc]
    exact Heap.get?_push_size _ rfl
  have k2 : ∀ b u, g1.get? b = some u → g2.get? b = some u := fun b u q => by
    rw [← hc]
    exact Heap.get?_push_of_some _ q
  rw [z1] at a2 ⊢
  exact ⟨⟨_, a2, rfl⟩, h g2 a2 (k2 _ _ a1) fun b u q => k2 b u (k1 b u q)⟩
/-- the tuple at a as it stands at each turn, each item in a new pair -/
def IteT (K : PySem.W.Frag) (a : Addr) : It :=
  ⟨fun i H => ∃ (xs : List V) (x : V), SqT K H a xs ∧ xs[i]? = some x, fun i H v H' => ∃ T x, v = .ref T ∧ H T = none ∧ H' = upd H T (.tup [.int (i : Nat), x]) ∧ ∀ xs, SqT K H a xs → xs[i]? = some x, fun i H => ∃ xs : List V, SqT K H a xs ∧ xs.length ≤ i⟩
theorem turn_enumT {P : Program} {w : World} {K : PySem.W.Frag} {elts : List Expr} {kk : Nat} {tpos : Pos} (a e it : Addr) :
    Turn P w K (.Tuple elts kk tpos) (IteT K a) [e, it] e (fun i h => (∃ old, PySem.IsEnum h e it ((i : Nat) : Int) old) ∧ h.IsTupleIter it a i ∧ e ≠ it ∧ a ≠ it) where
  mem := List.mem_cons_self
  obj := fun i h st b hb => by
    obtain ⟨⟨old, he⟩, ⟨o, ho, _, hd⟩, _⟩ := st
    rcases List.mem_cons.mp hb with z | z
    · subst z
      exact ⟨_, he, fun v q => nomatch q⟩
    · rw [List.mem_singleton.mp z]
      exact ⟨o, ho, fun v q => by
        rw [hd] at q
        cases q⟩
  keep := fun i h h' st k => by
    obtain ⟨⟨old, he⟩, hi, n1, n2⟩ := st
    exact ⟨⟨old, k e List.mem_cons_self _ he⟩, hi.at fun o q => k it (List.mem_cons_of_mem _ List.mem_cons_self) o q, n1, n2⟩
  item := by
    intro X hP hw hK hc i pins s σ H E I hf st hg
    subst hP hw hK
    obtain ⟨⟨old, he⟩, hit, n1, n2⟩ := st
    obtain ⟨xs, x, hq, hx⟩ := hg
    obtain ⟨its, rv, p, _⟩ := I.tuple hq
    obtain ⟨u, hu, ru⟩ := rv.get hx
    have lt : i < its.toArray.size := by
      have := (List.getElem?_eq_some_iff.mp hu).1
      simpa using this
    have l1 : e < s.heap.objs.size := Heap.lt_size he
    have l2 : it < s.heap.objs.size := by
      obtain ⟨_, q, _⟩ := hit
      exact Heap.lt_size q
    have D : Draws X.prog X.w X.A.in1 it [it, a] its.toArray.size (fun i v => its.toArray[i]? = some v) (fun i h => h.IsTupleIter it a i ∧ h.IsTuple a its.toArray) := Draws.tuple (A := X.A.in1) (show X.A.in1.handled = none from I.ok.hd hc) it a n2 its.toArray
    have ea : e ≠ a := fun z => by
      obtain ⟨oa, ha, hca, _⟩ := p
      rw [← z] at ha
      have he' : s.heap.get? e = some _ := he
      rw [he'] at ha
      cases ha
      exact absurd (Value.type.inj hca) (by decide)
    refine wpAny_pyNext_enum_itemD D he ⟨hit, p⟩ lt n1 (by simp [n1, ea]) fun y h' tk hy ho hs hT hsz hk => ?_
    obtain rfl : y = u := by
      have hu' : its.toArray[i]? = some u := by simpa using hu
      have hy' : its.toArray[i]? = some y := hy
      rw [hu'] at hy'
      exact (Option.some.inj hy').symm
    refine ⟨_, rfl, wpAny_letOwnedTupleGo_enum (s := { s with heap := h', toks := tk + 1 }) ho fun h2 he2 sb => ?_⟩
    have T2 : h2.get? s.heap.objs.size = some { cls := .type "tuple", data := .seq #[.int i tk, y] } := (sb.2 _ (Nat.ne_of_gt l1)).trans hT
    have fresh : H s.heap.objs.size = none := I.hok.fresh (Nat.le_refl _)
    have new : ObjOk X.prog X.w (upd H s.heap.objs.size (.tup [.int (i : Nat), x])) h2 s.heap.objs.size (.tup [.int (i : Nat), x]) := ⟨by show 2 ≤ sizeLine; decide, [.int i tk, y], .cons ⟨_, rfl⟩ (.cons ru .nil), ⟨_, T2, rfl, _, rfl⟩⟩
    have I1 : L2.Inv X pins σ (upd H s.heap.objs.size (.tup [.int (i : Nat), x])) { s with heap := h2, toks := tk + 1 } :=
      L2.Inv.turnedNew (t' := tk + 1) I (ch := [e, it]) (fun b ob hb q => by
        have b1 : b ≠ e := fun z => hb (by rw [z]; exact List.mem_cons_self)
        have b2 : b ≠ it := fun z => hb (by rw [z]; exact List.mem_cons_of_mem _ List.mem_cons_self)
        exact (sb.2 b b1).trans (hk b ob b1 b2 q)) hf (Nat.le_refl _) new
    refine ⟨.ref s.heap.objs.size, _, I1, rfl, ⟨_, x, rfl, fresh, rfl, fun ys hy => by rw [I.tuple_inj hy hq]; exact hx⟩, ⟨⟨y, ?_⟩, hs.1.at fun o q => (sb.2 it n1.symm).trans q, n1, n2⟩, fun b hb => ?_⟩
    · have cast : ((i + 1 : Nat) : Int) = (i : Int) + 1 := by omega
      rw [cast]
      exact he2
    · have ne : b ≠ s.heap.objs.size := by
        rcases List.mem_cons.mp hb with z | z
        · rw [z]
          exact Nat.ne_of_lt l1
        · rw [List.mem_singleton.mp z]
          exact Nat.ne_of_lt l2
      rw [upd_ne ne]
      exact (hf b hb).1
  done := by
    intro X hP hw hK hc i pins s σ H E I hf st hg
    subst hP hw hK
    obtain ⟨⟨old, he⟩, hit, n1, n2⟩ := st
    obtain ⟨xs, hq, hx⟩ := hg
    obtain ⟨its, rv, p, _⟩ := I.tuple hq
    obtain ⟨f0, f1, f2, f3, f4, f5⟩ := hf it (List.mem_cons_of_mem _ List.mem_cons_self)
    have hl := rv.length
    have D : Draws X.prog X.w X.A.in1 it [it, a] i (fun _ _ => True) (fun j h => h.IsTupleIter it a j ∧ h.IsTuple a its.toArray ∧ j = i) :=
      { live := fun _ _ st => by
          obtain ⟨⟨o, ho, _⟩, _⟩ := st
          exact ⟨o, ho⟩
        frame := fun _ _ _ st hk => ⟨st.1.at fun o q => hk it (by simp) o q, st.2.1.at fun o q => hk a (by simp) o q, st.2.2⟩
        item := fun j s Q E lt st => by
          exfalso
          have := st.2.2
          omega
        done := fun s Q E st hE => wpAny_nextOf_tuple_end (show X.A.in1.handled = none from I.ok.hd hc) st.1 st.2.1 (by simp; omega) hE }
    exact wpAny_pyNext_enum_endD D he ⟨hit, p, rfl⟩ fun h' eb => ⟨rfl, L2.Inv.turned I (t' := s.toks) (fun b o hb q => eb b o hb q) f0 f1 f3 f4 f5⟩
  self := fun A i s Q E st h => by
    obtain ⟨⟨_, he⟩, _⟩ := st
    exact wpAny_pyIter_enum he h
def iEnumT (K : PySem.W.Frag) (ta : TA) : TI := fun σ H R => ta σ H fun vs H1 => ∃ a xs, vs = [.ref a] ∧ SqT K H1 a xs ∧ R (IteT K a) H1
theorem pi_enumT {X : Cx} {e : Expr} {ta : TA} {p pos tpos : Pos} {elts : List Expr} {kk : Nat} (hg : Gl X "enumerate") (hm : X.mg "enumerate" = none) (ha : PA X [e] ta) (one : starEach [e] X.env = [(false, eval e X.env)] := by rfl) :
    PI X (.Tuple elts kk tpos) (.Call (.Name "enumerate" p) [e] [] pos) (iEnumT X.K ta) := by
  constructor
  intro pins s σ H R I h
  refine PyProof.Rows.Call_ (ld_blt I hg hm PyProof.Rows.boot_enumerate (PyProof.Rows.callWith_type1 (thn (ha.run pos pins s σ H _ I h) fun us s1 ⟨vs, H1, I1, r1, a, xs, ex, hq, q⟩ => ?_) one rfl))
  subst ex
  cases r1 with
  | cons r rr =>
    cases rr
    cases r
    obtain ⟨its, rv, p', _⟩ := I1.tuple hq
    have la : a < s1.heap.objs.size := by
      obtain ⟨_, z, _⟩ := p'
      exact Heap.lt_size z
    refine call_enum1 (begins_tuple a its.toArray) p' fun h' he hit hk => wpAny_pyIter_enum he ?_
    have I2 : L2.Inv X pins σ H1 { s1 with heap := h' } := I1.kept (t' := s1.toks) hk
    refine ⟨s1.heap.objs.size + 1, [s1.heap.objs.size + 1, s1.heap.objs.size], _, _, H1, rfl, I2, turn_enumT a (s1.heap.objs.size + 1) s1.heap.objs.size, ⟨⟨.none, he⟩, ⟨_, hit, rfl, rfl⟩, Nat.succ_ne_self _, Nat.ne_of_lt la⟩, fun b hb => ?_, q⟩
    have ge : s1.heap.objs.size ≤ b := by
      rcases List.mem_cons.mp hb with z | z
      · rw [z]
        exact Nat.le_succ _
      · rw [List.mem_singleton.mp z]
        exact Nat.le_refl _
    exact I1.fpOk ge (I1.hok.fresh ge)
/-- the reading of a for over enumerate(t) -/
theorem w_forE {K : PySem.W.Frag} {σ : St} {H : Hp} {D : Ends} {g : TG} {tb : TS} {ta : TA} {a : Addr} {xs : List V} (Pv : Nat → St → Hp → Prop) (hx : SqT K H a xs) (ht : ∀ R : List V → Hp → Prop, R [.ref a] H → ta σ H R) (h0 : Pv 0 σ H)
    (hl : ∀ i σ' H', i ≤ xs.length → Pv i σ' H' → SqT K H' a xs)
    (hs : ∀ i x σ' H' T H2, xs[i]? = some x → Pv i σ' H' → H' T = none → Ex H' H2 → H2 T = some (.tup [.int (i : Nat), x]) → g (.ref T) σ' H2 fun σ2 H3 => tb { D with nx := Pv (i + 1), ct := Pv (i + 1), bk := D.nx } σ2 H3) (hd : ∀ σ' H', Pv xs.length σ' H' → D.nx σ' H') :
    tFor (iEnumT K ta) g tb D σ H := by
  refine ht _ ⟨a, xs, rfl, hx, fun i m σ' H' => m = xs.length - i ∧ i ≤ xs.length ∧ Pv i σ' H', ⟨_, rfl, Nat.zero_le _, h0⟩, ?_⟩
  rintro i m σ' H' ⟨rfl, hi, p⟩
  have q := hl i σ' H' hi p
  by_cases lt : i < xs.length
  · refine .inr ⟨⟨xs, xs[i], q, by simp [lt]⟩, Pv (i + 1), fun s2 H2 p' => ⟨_, by omega, rfl, lt, p'⟩, fun x H2 y => ?_⟩
    obtain ⟨T, z, rfl, hT, rfl, hz⟩ := y
    exact hs i z σ' H' T _ (hz xs q) p hT (Evl.Ex.new hT) upd_same
  · have e : i = xs.length := by omega
    subst e
    exact .inl ⟨⟨xs, q, Nat.le_refl _⟩, hd σ' H' p⟩
end EB
namespace EB
open PySem PySem.Spec L2 StX ClX
set_option maxHeartbeats 2000000
/-! ## calls, all by positional promises -/
section
variable {X : Cx} {CX : CXT} {k : Nat} {f C : Addr} {x m : Str} {sp : Sp} {E : XK} {t : TA} {ta : TE} {e o : Expr} {es : List Expr} {p pos apos : Pos}
def tCallR (sp : Sp) (E : XK) (t : TA) : TE := fun σ H Q => t σ H fun vs H1 => sp vs H1 Q E
theorem pe_callR (F : FnR X.prog X.w X.K X.mg X.base CX k f sp) (hr : Room k X.A) (hk : PySem.W.keepIn X.K (.ref f) = true) (hg : Gl X x) (hm : X.mg x = some (.ref f)) (hx : Passes CX X E) (ha : PA X (e :: es) t) (nodb : (x == ("__debug__" : Str)) = false := by decide)
    (h1 : starEach (e :: es) X.env = (false, eval e X.env) :: starEach es X.env := by rfl) (h2 : (backTo pos (starEach es X.env)).any (·.1) = false := by rfl) : PE X (.Call (.Name x p) (e :: es) [] pos) (tCallR sp E t) := by
  constructor
  intro pins s σ H Q I h
  refine wpAny_Call_Name_kw (ld_glob I hg hm (PySem.W.callWith_K (h₀ := X.base) I.ok.mod.kin hk (thn (ha.run pos pins s σ H _ I h) fun us s1 ⟨vs, H1, I1, r, q⟩ => ⟨I1.kIn, wpAny_call (run_fnR F hr hx I1 r q)⟩) h1 h2) nodb)
theorem pe_methR0 {pl : Sem Bool} (he : PE X o ta) (c : Cls X.K C) (hm : Meth X.K C m f) (F : FnR X.prog X.w X.K X.mg X.base CX k f sp) (hr : Room k X.A) (hx : Passes CX X E)
    (ht : eval (.Call (.Attribute o m apos) [] [] pos) X.env = (do
      let ov ← eval o X.env
      standAt apos.atName
      let (f, first) ← holding [ov] (getMethod ov m pl)
      callWith pos f first (backTo pos (starEach [] X.env)) (backToKw pos (keywordEach [] X.env))) := by rfl) :
    PE X (.Call (.Attribute o m apos) [] [] pos) (tMethR C m sp E ta tNil) := by
  constructor
  intro pins s σ H Q I h
  refine PySem.W.methodCall_KW (pl := pl) (thn (he.run pins s σ H _ I h) fun u s1 ⟨y, H1, I1, ry, a, dx, fs, ey, ea, l, q⟩ => ?_) ht
  subst ey
  have eu : u = Value.ref a := ry
  subst eu
  refine getmeth_ok I1 ea c hm l (PySem.W.callWith_K0 (first := [.ref a]) I1.kIn hm.kp ?_)
  exact wpAny_call (run_fnR (us := [.ref a]) (vs := [.ref a]) F hr hx I1 (.cons rfl .nil) q)
/-- an instance called: the reading without the context -/
def tCO (C : Addr) (sp : Sp) (E : XK) (tf : TE) (t : TA) : TE := fun σ H Q => tf σ H fun y H1 => ∃ a, y = V.ref a ∧ t σ H1 fun vs H2 => ((∃ dx vs, SlX.Slt H2 a C dx vs) ∨ ∃ dx fs, H2 a = some (.ins C dx fs)) ∧ sp (V.ref a :: vs) H2 Q E
theorem pe_CO {fe : Expr} {g : Addr} {tf : TE} (hf : PE X fe tf) (c : CallO X.K C g) (F : FnR X.prog X.w X.K X.mg X.base CX k g sp) (hr : Room k X.A) (hx : Passes CX X E) (ha : PA X (e :: es) t)
    (ht : eval (.Call fe (e :: es) [] pos) X.env = (do callWith pos (← eval fe X.env) [] (backTo pos (starEach (e :: es) X.env)) (backToKw pos (keywordEach [] X.env))) := by rfl)
    (he : starEach (e :: es) X.env = (false, eval e X.env) :: starEach es X.env := by rfl) (hpl : (backTo pos (starEach es X.env)).any (·.1) = false := by rfl) : PE X (.Call fe (e :: es) [] pos) (tCO C sp E tf t) := pe_callO hf c F hr hx ha ht he hpl
end
section
variable {P : Program} {w : World} {K : PySem.W.Frag} {mg : Str → Option Value} {base : Heap} {CX : CXT} {k : Nat} {f : Addr} {sp spi : Sp} {fd : FuncData} {x qual : Str} {params : Arguments} {body : List Stmt} {scope : Scope} {N : List Str}
theorem fnR_of {ps : List Str} (F : FnOk P w K mg base CX k f fd ps sp) (hb : Binds K fd ps []) : FnR P w K mg base CX k f sp := by
  refine FnR.imp (FnOk.raw F hb .nil) fun vs H Q E h => ?_
  rw [List.append_nil]
  exact h
/-- def f(a, *v) -/
theorem fnR_star1 {a v : Str} (F : FunD K x qual params body scope [] [] f fd) (S : FnScope N [a, v] scope)
    (hbody : ∀ (cdv : Value) (A : Around) (outer : List Env) (s : Shared) (H : Hp) (vs : List V) (Q : VK) (E : XK), Room k (A.deeper (PyProof.Rows.envOfC qual scope s.heap.objs.size f cdv)) → spi vs H Q E →
      ∃ t, PSs (cxOf CX0 P w K mg base N qual scope f cdv A outer s H E) body t ∧ t { nx := fun _ H' => Q .non H', rt := Q } (start N vs) H)
    (h0 : ∀ (kV doc pm : Value) (an : Option Addr) (cdv ct : Value) (u : Value), bindArgs (PySem.W.fnOf x qual params body scope .none kV doc pm an cdv ct) ⟨[u], []⟩ = (newTuple [] >>= fun t => pure [(a, u), (v, t)]))
    (h1 : ∀ (kV doc pm : Value) (an : Option Addr) (cdv ct : Value) (u r : Value) (rs : List Value), bindArgs (PySem.W.fnOf x qual params body scope .none kV doc pm an cdv ct) ⟨u :: r :: rs, []⟩ = (newTuple (r :: rs) >>= fun t => pure [(a, u), (v, t)])) :
    FnR P w K mg base CX0 (k + 1) f (fun vs H Q E => ∃ ws rest, vs = ws ++ rest ∧ ws.length = 1 ∧ rest.length ≤ sizeLine ∧ ∀ p, H p = none → spi (ws ++ [V.ref p]) (upd H p (.tup rest)) Q E) := by
  obtain ⟨oc, od, dV, kV, doc, pm, an, cdv, ct, osl, rfl, lk, hcd, hD, _⟩ := F.ex
  obtain rfl : dV = .none := by
    rcases hD with ⟨_, z⟩ | ⟨z, _⟩
    · exact z
    · exact absurd rfl z
  exact fn_star (ps := [a]) lk hcd S cxUp_none (bind_star1 (B := fun us => bindArgs (PySem.W.fnOf x qual params body scope .none kV doc pm an cdv ct) ⟨us, []⟩) (fun u => h0 kV doc pm an cdv ct u) fun u r rs => h1 kV doc pm an cdv ct u r rs)
    fun A outer s H vs Q E hr h => hbody cdv A outer s H vs Q E hr h
end

/-! ## the text's facts -/
/-- facts beside He.Fa -/
inductive Fb where
  | callO (x : Str)
  | own (x m : Str)
  | cread (x : Str)
  | cval (x f : Str) (i : Int)
  | prop (x f : Str)
  | cmet (x m : Str)
def metaT : Value := .type "type"
def pAt (K : PySem.W.Frag) (C : Addr) (f : Str) : Addr := match PySem.W.findIn K (.ref C) f with
  | some (some (.ref p)) => p
  | _ => 0
def pGet (K : PySem.W.Frag) (C : Addr) (f : Str) : Addr := match PySem.W.recIn K (pAt K C f) "property" with
  | some (.ref g :: _) => g
  | _ => 0
def cvB (K : PySem.W.Frag) (C : Addr) (f : Str) (i : Int) : Bool := match PySem.W.findCls K (.ref C) metaT f with
  | some (.val (.int j _)) => decide (i = j)
  | _ => false
/-! the text's facts about classmethods -/
def cpAt (K : PySem.W.Frag) (C : Addr) (m : Str) : Addr := match PySem.W.findCls K (.ref C) metaT m with
  | some (.get _ (.ref p) _ _) => p
  | _ => 0
def cGet (K : PySem.W.Frag) (C : Addr) (m : Str) : Addr := match PySem.W.recIn K (cpAt K C m) "classmethod" with
  | some (.ref g :: _) => g
  | _ => 0
def cmB (K : PySem.W.Frag) (C : Addr) (m : Str) : Bool := (match PySem.W.findCls K (.ref C) metaT m with
  | some (.get (.builtin b) (.ref p) .none (.ref D)) => decide (b = "classmethod.__get__") && (decide (p = cpAt K C m) && decide (D = C))
  | _ => false) && ((match PySem.W.recIn K (cpAt K C m) "classmethod" with
  | some (.ref _ :: _) => true
  | _ => false) && PySem.W.fnIn K (cGet K C m))
theorem cmet_ok {K : PySem.W.Frag} {C : Addr} {m : Str} (h : cmB K C m = true) : CMet K C metaT m (cpAt K C m) (cGet K C m) := by
  unfold cmB at h
  obtain ⟨h1, h2⟩ := He.ba h
  obtain ⟨h3, h4⟩ := He.ba h2
  refine ⟨?_, ?_, h4⟩
  · generalize e : PySem.W.findCls K (.ref C) metaT m = r at h1
    split at h1
    · obtain ⟨a, b⟩ := He.ba h1
      obtain ⟨c, d⟩ := He.ba b
      rw [of_decide_eq_true a, of_decide_eq_true c, of_decide_eq_true d]
    · cases h1
  · unfold cGet
    split at h3
    · rename_i g r e
      rw [e]
      exact ⟨r, rfl⟩
    · cases h3
def Fb.ok (K : PySem.W.Frag) : Fb → Bool
  | .cmet x m => cmB K (He.ga K x) m
  | .callO x => decide (PySem.W.findIn K (.ref (He.ga K x)) "__call__" = some (some (.ref (He.ma K (He.ga K x) "__call__")))) && (PySem.W.isFn K (.ref (He.ma K (He.ga K x) "__call__")) && PySem.W.fnIn K (He.ma K (He.ga K x) "__call__"))
  | .own x m => decide (PySem.W.findIn K (.ref (He.ga K x)) m = some (some (.ref (He.ma K (He.ga K x) m)))) && (PySem.W.isFn K (.ref (He.ma K (He.ga K x) m)) && PySem.W.fnIn K (He.ma K (He.ga K x) m))
  | .cread x => PySem.W.readsIn K (He.ga K x) metaT && decide (PySem.W.specialIn K (.ref (He.ga K x)) "__getattribute__" = some (some (.builtin "type.__getattribute__")))
  | .cval x f i => cvB K (He.ga K x) f i
  | .prop x f => decide (PySem.W.findIn K (.ref (He.ga K x)) f = some (some (.ref (pAt K (He.ga K x) f)))) && (decide (PySem.W.specialIn K (.ref (pAt K (He.ga K x) f)) "__get__" = some (some (.builtin "property.__get__"))) &&
      (decide (PySem.W.takesIn K (.ref (pAt K (He.ga K x) f)) = some true) && (match PySem.W.recIn K (pAt K (He.ga K x) f) "property" with
        | some (.ref _ :: _) => true
        | _ => false)))
theorem callO_ok {K : PySem.W.Frag} {x : Str} (h : (Fb.callO x).ok K = true) : CallO K (He.ga K x) (He.ma K (He.ga K x) "__call__") := by
  obtain ⟨h1, h2⟩ := He.ba h
  obtain ⟨h3, h4⟩ := He.ba h2
  exact ⟨of_decide_eq_true h1, h3, h4⟩
/-- C.m is the function at g -/
structure OwnM (K : PySem.W.Frag) (C : Addr) (m : Str) (g : Addr) : Prop where
  here : PySem.W.findIn K (.ref C) m = some (some (.ref g))
  isf : PySem.W.isFn K (.ref g) = true
  code : PySem.W.fnIn K g = true
theorem own_ok {K : PySem.W.Frag} {x m : Str} (h : (Fb.own x m).ok K = true) : OwnM K (He.ga K x) m (He.ma K (He.ga K x) m) := by
  obtain ⟨h1, h2⟩ := He.ba h
  obtain ⟨h3, h4⟩ := He.ba h2
  exact ⟨of_decide_eq_true h1, h3, h4⟩
theorem cread_ok {K : PySem.W.Frag} {x : Str} (h : (Fb.cread x).ok K = true) : CRead K (He.ga K x) metaT := by
  obtain ⟨h1, h2⟩ := He.ba h
  exact ⟨h1, of_decide_eq_true h2⟩
theorem cval_ok {K : PySem.W.Frag} {x f : Str} {i : Int} (h : (Fb.cval x f i).ok K = true) : ∃ u, CVal K (He.ga K x) metaT f (.int i) u := by
  have h1 : cvB K (He.ga K x) f i = true := h
  unfold cvB at h1
  generalize e : PySem.W.findCls K (.ref (He.ga K x)) metaT f = r at h1
  split at h1
  · rename_i j t
    exact ⟨_, ⟨e, ⟨t, by rw [of_decide_eq_true h1]⟩⟩⟩
  · cases h1
theorem prop_ok {K : PySem.W.Frag} {x f : Str} (h : (Fb.prop x f).ok K = true) : PropOf K (He.ga K x) f (pAt K (He.ga K x) f) (pGet K (He.ga K x) f) := by
  obtain ⟨h1, h2⟩ := He.ba h
  obtain ⟨h3, h4⟩ := He.ba h2
  obtain ⟨h5, h6⟩ := He.ba h4
  refine ⟨of_decide_eq_true h1, of_decide_eq_true h3, of_decide_eq_true h5, ?_⟩
  unfold pGet
  split at h6
  · rename_i g r e
    rw [e]
    exact ⟨r, rfl⟩
  · cases h6
/-- what the derivations ask of the text -/
structure Tx0 (fa : List He.Fa) (fn : List He5.DefA) (fb : List Fb) (K : PySem.W.Frag) (mg : Str → Option Value) : Prop where
  says : He5.SaysA fa fn K
  more : (fb.all fun f => f.ok K) = true
  gl : ∀ x a, PySem.W.nsIn K mainGlobals x = some a → mg x = a
section
variable {fa : List He.Fa} {fn : List He5.DefA} {fb : List Fb} {K : PySem.W.Frag} {mg : Str → Option Value}
theorem Tx0.glo (T : Tx0 fa fn fb K mg) (i : Nat) {x : Str} (h : fa[i]? = some (.glo x)) : mg x = some (.ref (He.ga K x)) := T.gl x _ (He.eqO_ok (T.says.fact i h))
theorem Tx0.fre (T : Tx0 fa fn fb K mg) (i : Nat) {x : Str} (h : fa[i]? = some (.free x)) : mg x = none := T.gl x _ (He.eqO_ok (T.says.fact i h))
theorem Tx0.int (T : Tx0 fa fn fb K mg) (j : Nat) {x : Str} {i : Int} (h : fa[j]? = some (.int x i)) : ∃ t, mg x = some (.int i t) := by
  have c : (match PySem.W.nsIn K mainGlobals x with | some (some (.int k _)) => decide (k = i) | _ => false) = true := T.says.fact j h
  split at c
  · rename_i k t e
    rw [← of_decide_eq_true c]
    exact ⟨t, T.gl x _ e⟩
  · cases c
theorem Tx0.str (T : Tx0 fa fn fb K mg) (j : Nat) {x z : Str} (h : fa[j]? = some (.str x z)) : ∃ t, mg x = some (.str z t) := by
  have c : (match PySem.W.nsIn K mainGlobals x with | some (some (.str k _)) => decide (k = z) | _ => false) = true := T.says.fact j h
  split at c
  · rename_i k t e
    rw [← of_decide_eq_true c]
    exact ⟨t, T.gl x _ e⟩
  · cases c
theorem Tx0.cls (T : Tx0 fa fn fb K mg) (j : Nat) {x : Str} (h : fa[j]? = some (.cls x)) : Cls K (He.ga K x) := He.cls_ok (T.says.fact j h)
theorem Tx0.noat (T : Tx0 fa fn fb K mg) (j : Nat) {x f : Str} (h : fa[j]? = some (.noat x f)) : NoAttr K (He.ga K x) f := He.noat_ok (T.says.fact j h)
theorem Tx0.meth (T : Tx0 fa fn fb K mg) (j : Nat) {x m : Str} (h : fa[j]? = some (.meth x m)) : Meth K (He.ga K x) m (He.ma K (He.ga K x) m) := He.meth_ok (T.says.fact j h)
theorem Tx0.mkr (T : Tx0 fa fn fb K mg) (j : Nat) {x : Str} (h : fa[j]? = some (.mkr x)) : Mk K (He.ga K x) (He.ma K (He.ga K x) "__init__") := He.mkr_ok (T.says.fact j h)
theorem Tx0.b (T : Tx0 fa fn fb K mg) (j : Nat) {f : Fb} (h : fb[j]? = some f) : f.ok K = true := List.all_eq_true.mp T.more f (List.mem_of_getElem? h)
theorem Tx0.callO (T : Tx0 fa fn fb K mg) (j : Nat) {x : Str} (h : fb[j]? = some (.callO x)) : CallO K (He.ga K x) (He.ma K (He.ga K x) "__call__") := callO_ok (T.b j h)
theorem Tx0.own (T : Tx0 fa fn fb K mg) (j : Nat) {x m : Str} (h : fb[j]? = some (.own x m)) : OwnM K (He.ga K x) m (He.ma K (He.ga K x) m) := own_ok (T.b j h)
theorem Tx0.cread (T : Tx0 fa fn fb K mg) (j : Nat) {x : Str} (h : fb[j]? = some (.cread x)) : CRead K (He.ga K x) metaT := cread_ok (T.b j h)
theorem Tx0.cval (T : Tx0 fa fn fb K mg) (j : Nat) {x f : Str} {i : Int} (h : fb[j]? = some (.cval x f i)) : ∃ u, CVal K (He.ga K x) metaT f (.int i) u := cval_ok (T.b j h)
theorem Tx0.cmet (T : Tx0 fa fn fb K mg) (j : Nat) {x m : Str} (h : fb[j]? = some (.cmet x m)) : CMet K (He.ga K x) metaT m (cpAt K (He.ga K x) m) (cGet K (He.ga K x) m) := cmet_ok (T.b j h)
theorem Tx0.prop (T : Tx0 fa fn fb K mg) (j : Nat) {x f : Str} (h : fb[j]? = some (.prop x f)) : PropOf K (He.ga K x) f (pAt K (He.ga K x) f) (pGet K (He.ga K x) f) := prop_ok (T.b j h)
end
/-- the head's look: He's, and the further facts -/
abbrev AlM : Type := He.AlD × Bool
/-- what the names reach, and the interpreter's own statics -/
def asM (g : Addr → Option Obj) (n : Nat) : List Addr := He.asD g n ++ [cStatics]
def obsM (n : Nat) (fa : List He.Fa) (fn : List He5.DefA) (fb : List Fb) (g : Addr → Option Obj) : AlM := (He5.obsA fa fn (He.frG g (asM g n)), fb.all fun f => f.ok (He.frG g (asM g n)))
def hookM (n : Nat) (fa : List He.Fa) (fn : List He5.DefA) (fb : List Fb) : PySem.W.Hook where
  α := AlM
  obs := fun s => obsM n fa fn fb s.heap.get?
  val := fun _ => (He5.valA fn, true)
  says := fun _ h => ∃ K : PySem.W.Frag, K.In h ∧ He5.SaysA fa fn K ∧ (fb.all fun f => f.ok K) = true
  of := fun _ s e => ⟨He.frG s.heap.get? (asM s.heap.get? n), He.frG_in, congrArg Prod.fst e, congrArg Prod.snd e⟩
  keeps := fun _ _ _ ⟨K, hK, c⟩ k => ⟨K, PySem.W.Frag.In.keeps hK k, c⟩
theorem obsM_eq {n : Nat} {fa : List He.Fa} {fn : List He5.DefA} {fb : List Fb} {g : Addr → Option Obj} {s : Shared} (h : ∀ a, g a = s.heap.get? a) : obsM n fa fn fb g = (hookM n fa fn fb).obs s := by
  have e : g = s.heap.get? := funext h
  rw [e] <;> rfl
theorem tx0_of {fa : List He.Fa} {fn : List He5.DefA} {fb : List Fb} {K : PySem.W.Frag} {mg : Str → Option Value} {h : Heap} (X : K.In h) (G : h.Ns mainGlobals mg) (c : He5.SaysA fa fn K) (m : (fb.all fun f => f.ok K) = true) : Tx0 fa fn fb K mg :=
  ⟨c, m, fun x a e => by
    cases a with
    | none => exact PySem.W.mg_none_of X G e
    | some v => exact PySem.W.mg_of X G e⟩
end EB
namespace EB
open PySem PySem.Spec L2 StX ClX
set_option maxHeartbeats 2000000
section
variable {σ : St} {H : Hp} {Q : VK} {te tl ta : TE} {D : Ends} {K : PySem.W.Frag} {g : TG} {a : Addr} {xs : List V} {tb : TS} {c : TT} {sp : Sp} {E : XK} {ts : TA} {C : Addr} {x : V} {m f : Str}
/-- one less: where a turn must lead -/
def Wl (W : Nat → St → Hp → Prop) (n : Nat) : St → Hp → Prop := fun σ' H' => ∃ k, k < n ∧ W k σ' H'
theorem w_while (W : Nat → St → Hp → Prop) (n0 : Nat) (h0 : W n0 σ H) (hs : ∀ n σ' H', W n σ' H' → c σ' H' fun b H1 => if b = true then ∃ N : St → Hp → Prop, (∀ σ2 H2, N σ2 H2 → ∃ m', m' < n ∧ W m' σ2 H2) ∧ tb { D with nx := N, ct := N, bk := D.nx } σ' H1 else D.nx σ' H1) :
    tWhile c tb D σ H := ⟨W, ⟨n0, h0⟩, hs⟩
theorem w_whileW {cw : TTw} (W : Nat → St → Hp → Prop) (n0 : Nat) (h0 : W n0 σ H) (hs : ∀ n σ' H', W n σ' H' → cw σ' H' fun b σ1 H1 => if b = true then ∃ N : St → Hp → Prop, (∀ σ2 H2, N σ2 H2 → ∃ m', m' < n ∧ W m' σ2 H2) ∧ tb { D with nx := N, ct := N, bk := D.nx } σ1 H1 else tNext D σ1 H1) :
    tWhileW cw tb tNext D σ H := ⟨W, ⟨n0, h0⟩, hs⟩
theorem w_turn {W : Nat → St → Hp → Prop} {n : Nat} {rt : VK} {bk : St → Hp → Prop} (q : tb { nx := Wl W n, rt := rt, bk := bk, ct := Wl W n } σ H) : ∃ N : St → Hp → Prop, (∀ σ2 H2, N σ2 H2 → ∃ m', m' < n ∧ W m' σ2 H2) ∧ tb { nx := N, rt := rt, bk := bk, ct := N } σ H :=
  ⟨Wl W n, fun _ _ h => h, q⟩
theorem w_wCmp {t : TEw} {r : R2} {R : Bool → St → Hp → Prop} (q : t σ H fun x σ1 H1 => te σ1 H1 fun y H2 => r x y H2 fun z H3 => ∃ k, z = .bl k ∧ R k σ1 H3) : wCmp r t te σ H R := q
theorem w_wNm {t : TEw} {i : Nat} {R : V → St → Hp → Prop} (q : t σ H fun x σ1 H1 => ∀ s', σ1.set i (some x) = s' → R x s' H1) (mono : ∀ (R R' : V → St → Hp → Prop), (∀ x s h, R x s h → R' x s h) → t σ H R → t σ H R') : wNm t i σ H R :=
  mono _ _ (fun _ _ _ k => k _ rfl) q
theorem w_wNmE {i : Nat} {R : V → St → Hp → Prop} (q : te σ H fun x H1 => R x (σ.set i (some x)) H1) : wNm (wE te) i σ H R := q
theorem w_forT (Pv : Nat → St → Hp → Prop) (hx : SqT K H a xs) (ht : ∀ R : VK, R (.ref a) H → tl σ H R) (h0 : Pv 0 σ H) (hl : ∀ i σ' H', i ≤ xs.length → Pv i σ' H' → SqT K H' a xs)
    (hs : ∀ i x σ' H', xs[i]? = some x → Pv i σ' H' → g x σ' H' fun σ2 H2 => tb { D with nx := Pv (i + 1), ct := Pv (i + 1), bk := D.nx } σ2 H2) (hd : ∀ σ' H', Pv xs.length σ' H' → D.nx σ' H') : tFor (iTup K tl) g tb D σ H :=
  ht _ ⟨a, rfl, ⟨_, hx⟩, for_tup Pv h0 hl hs hd⟩
theorem w_forL (Pv : Nat → St → Hp → Prop) (hx : SqL K H a xs) (ht : ∀ R : VK, R (.ref a) H → tl σ H R) (h0 : Pv 0 σ H) (hl : ∀ i σ' H', i ≤ xs.length → Pv i σ' H' → SqL K H' a xs)
    (hs : ∀ i x σ' H', xs[i]? = some x → Pv i σ' H' → g x σ' H' fun σ2 H2 => tb { D with nx := Pv (i + 1), ct := Pv (i + 1), bk := D.nx } σ2 H2) (hd : ∀ σ' H', Pv xs.length σ' H' → D.nx σ' H') : tFor (iList K tl) g tb D σ H :=
  ht _ ⟨a, rfl, ⟨_, hx⟩, for_list Pv h0 hl hs hd⟩
/-- .. the list made by the head: h what holds of it -/
theorem w_forLN (q : tl σ H fun v H1 => ∃ a xs, v = .ref a ∧ SqL K H1 a xs ∧ ∃ Pv : Nat → St → Hp → Prop, Pv 0 σ H1 ∧ (∀ i σ' H', i ≤ xs.length → Pv i σ' H' → SqL K H' a xs) ∧
      (∀ i x σ' H', xs[i]? = some x → Pv i σ' H' → g x σ' H' fun σ2 H2 => tb { D with nx := Pv (i + 1), ct := Pv (i + 1), bk := D.nx } σ2 H2) ∧ ∀ σ' H', Pv xs.length σ' H' → D.nx σ' H')
    (mono : ∀ (R R' : VK), (∀ v h, R v h → R' v h) → tl σ H R → tl σ H R') : tFor (iList K tl) g tb D σ H := by
  refine mono _ _ (fun v H1 h => ?_) q
  obtain ⟨a, xs, rfl, hx, Pv, h0, hl, hs, hd⟩ := h
  exact ⟨a, rfl, ⟨_, hx⟩, for_list Pv h0 hl hs hd⟩
theorem w_forR1 {n : Int} (Pv : Nat → St → Hp → Prop) (hn : -1000000000000000000 ≤ n ∧ n ≤ 1000000000000000000) (ht : ∀ R : List V → Hp → Prop, R [.int n] H → ts σ H R) (h0 : Pv 0 σ H)
    (hs : ∀ (i : Nat) σ' H', (i : Int) < n → Pv i σ' H' → g (.int i) σ' H' fun σ2 H2 => tb { D with nx := Pv (i + 1), ct := Pv (i + 1), bk := D.nx } σ2 H2) (hd : ∀ σ' H', Pv n.toNat σ' H' → D.nx σ' H') : tFor (iRng1 ts) g tb D σ H :=
  ht _ ⟨n, rfl, by omega, by omega, for_range (lo := 0) (n := n.toNat) Pv h0 (fun i σ' H' hi p => by
    have e : (0 : Int) + (i : Int) = i := Int.zero_add _
    rw [e]
    exact hs i σ' H' (by omega) p) hd⟩
theorem w_callR (q : ts σ H fun vs H1 => sp vs H1 Q E) : tCallR sp E ts σ H Q := q
theorem w_CO (q : ta σ H fun y H1 => ∃ a, y = V.ref a ∧ ts σ H1 fun vs H2 => ((∃ dx vs, SlX.Slt H2 a C dx vs) ∨ ∃ dx fs, H2 a = some (.ins C dx fs)) ∧ sp (V.ref a :: vs) H2 Q E) : tCO C sp E ta ts σ H Q := q
theorem w_exref {P : Addr → Prop} (q : P a) : ∃ b, V.ref a = V.ref b ∧ P b := ⟨a, rfl, q⟩
theorem w_isC {dx : Addr} {fs : List (Str × V)} {B : Prop} (h : H a = some (.ins C dx fs)) (q : B) : ((∃ dx vs, SlX.Slt H a C dx vs) ∨ ∃ dx fs, H a = some (.ins C dx fs)) ∧ B := ⟨.inr ⟨dx, fs, h⟩, q⟩
theorem w_makeR (q : ts σ H fun vs H1 => ∀ x dx H2, H1 x = none → Ex H1 H2 → H2 x = some (.ins C dx []) → sp (V.ref x :: vs) H2 (fun v H3 => v = .non ∧ Q (.ref x) H3) E) : tMakeR C sp E (clA ts) σ H Q :=
  ⟨_, q, fun vs H1 k x dx hx hdx ne => k x dx _ hx (Evl.Ex.trans (Evl.Ex.new hdx) (Evl.Ex.new (by rw [upd_ne ne.symm]; exact hx))) upd_same⟩
theorem w_methR (q : ta σ H fun x H1 => ∃ a dx fs, x = .ref a ∧ H1 a = some (.ins C dx fs) ∧ fs.lookup m = none ∧ ts σ H1 fun vs H2 => sp (x :: vs) H2 Q E) : tMethR C m sp E ta ts σ H Q := q
theorem w_methR2 {dx : Addr} {fs : List (Str × V)} {P : Prop} (h : H a = some (.ins C dx fs)) (l : fs.lookup m = none) (q : P) : ∃ a' dx' fs', V.ref a = .ref a' ∧ H a' = some (.ins C dx' fs') ∧ fs'.lookup m = none ∧ P := ⟨a, dx, fs, rfl, h, l, q⟩
theorem w_tFld (q : ta σ H fun x H1 => ∃ a C dx fs v, x = .ref a ∧ H1 a = some (.ins C dx fs) ∧ Cls K C ∧ NoAttr K C f ∧ fs.lookup f = some v ∧ Q v H1) : tFld K ta f σ H Q := q
theorem w_CVal {v : V} {u mc : Value} (r : CRead K C mc) (k : CVal K C mc f v u) (q : Q v H) : tCVal K (tC (.ref C)) f σ H Q := ⟨C, mc, v, u, rfl, r, k, q⟩
theorem w_sFld {tv : TE} (q : tv σ H fun y H1 => ta σ H1 fun x H2 => ∃ a C dx fs, x = .ref a ∧ H2 a = some (.ins C dx fs) ∧ Cls K C ∧ NoAttr K C f ∧ fs.length < 1000 ∧ D.nx σ (upd H2 a (.ins C dx (putF f y fs)))) : sFld K ta tv f D σ H := q
theorem w_sFld2 {y : V} {dx : Addr} {fs : List (Str × V)} (h : H a = some (.ins C dx fs)) (c : Cls K C) (n : NoAttr K C f) (l : fs.length < 1000) (q : ∀ H2, ExB a H H2 → H2 a = some (.ins C dx (putF f y fs)) → D.nx σ H2) :
    ∃ a' C' dx' fs', V.ref a = .ref a' ∧ H a' = some (.ins C' dx' fs') ∧ Cls K C' ∧ NoAttr K C' f ∧ fs'.length < 1000 ∧ D.nx σ (upd H a' (.ins C' dx' (putF f y fs'))) := ⟨a, C, dx, fs, rfl, h, c, n, l, q _ ExB.upd upd_same⟩
theorem w_tSl {r : V → Option Int → Option Int → Hp → VK → Prop} {tlo thi : TO} (q : ta σ H fun x H1 => tlo σ H1 fun l H2 => thi σ H2 fun u H3 => r x l u H3 Q) : tSl r ta tlo thi σ H Q := q
theorem w_noPart {R : Option Int → Hp → Prop} (q : R none H) : tNoPart σ H R := q
theorem w_part {R : Option Int → Hp → Prop} (q : te σ H fun x H1 => ∃ i, x = .int i ∧ R (some i) H1) : tPart te σ H R := q
theorem w_exint {P : Int → Prop} {i : Int} (q : P i) : ∃ j, V.int i = .int j ∧ P j := ⟨i, rfl, q⟩
theorem w_slL {lo hi : Option Int} (h : SqL K H a xs) (q : ∀ p H2, H p = none → Ex H H2 → H2 p = some (.lst (cutV xs lo hi)) → Q (.ref p) H2) : rSlL K (.ref a) lo hi H Q := ⟨a, xs, rfl, h, w_new1 q⟩
theorem w_catL {b : Addr} {ys : List V} (h : H a = some (.lst xs)) (h2 : H b = some (.lst ys)) (z : xs.length + ys.length ≤ 100000) (q : ∀ p H2, H p = none → Ex H H2 → H2 p = some (.lst (xs ++ ys)) → Q (.ref p) H2) : rCat (.ref a) (.ref b) H Q :=
  ⟨a, b, xs, ys, rfl, rfl, h, h2, Nat.le_trans z (by decide), w_new1 q⟩
theorem w_isIn (h : SqL K H a xs ∨ SqT K H a xs) (hx : flatV x = true) (hf : xs.all flatV = true) (q : Q (.bl (inV x xs)) H) : rIn K false x (.ref a) H Q := ⟨a, xs, rfl, h, hx, hf, q⟩
theorem w_notIn (h : SqL K H a xs ∨ SqT K H a xs) (hx : flatV x = true) (hf : xs.all flatV = true) (q : Q (.bl (!inV x xs)) H) : rIn K true x (.ref a) H Q := ⟨a, xs, rfl, h, hx, hf, q⟩
theorem w_inS {cc : Nat} {z : Str} (q : Q (.bl (decide (cc ∈ z.cps.toList))) H) : rInS (.str ⟨#[cc]⟩) (.str z) H Q := ⟨cc, z, rfl, rfl, q⟩
theorem w_append {l : Addr} {y : V} (h : H l = some (.lst xs)) (z : xs.length < 100000) (q : ∀ H2, ExB l H H2 → H2 l = some (.lst (xs ++ [y])) → Q .non H2) : rAppend (.ref l) [y] H Q :=
  ⟨l, xs, y, rfl, rfl, h, Nat.lt_of_lt_of_le z (by decide), q _ ExB.upd upd_same⟩
theorem w_BM {T : String} {r : V → List V → Hp → VK → Prop} (q : ta σ H fun x H1 => tyV K T x H1 ∧ ts σ H1 fun xs H2 => r x xs H2 Q) : tBM K T r ta ts σ H Q := q
theorem w_BML {P : Prop} (h : SqL K H a xs) (q : P) : tyV K "list" (.ref a) H ∧ P := ⟨.inl ⟨rfl, xs, h⟩, q⟩
theorem w_setL {i : Int} {j : Nat} {v : V} {P : Hp → Prop} (h : H a = some (.lst xs)) (hi : ixN xs.length i = some j) (q : ∀ H2, ExB a H H2 → H2 a = some (.lst (xs.set j v)) → P H2) : rSetL (.ref a) (.int i) v H P :=
  ⟨a, xs, i, j, rfl, rfl, h, hi, q _ ExB.upd upd_same⟩
theorem w_gSub {to ti : TE} {t : TSet} {v : V} {P : St → Hp → Prop} (q : to σ H fun o H1 => ti σ H1 fun i H2 => t o i v H2 fun H3 => P σ H3) : gSub to ti t v σ H P := q
/-- [e for c in text] -/
theorem w_lcS {vs : List Nat} {z : Str} (f : Nat → V) (hz : z.cps.size ≤ 1000) (ht : ∀ R : VK, R (.str z) H → tl σ H R)
    (hb : ∀ (i cc : Nat), z.cps[i]? = some cc → ∀ H1, Ex H H1 → ∀ R : VK, (∀ H2, Ex H1 H2 → R (f cc) H2) → g (.str ⟨#[cc]⟩) (wipe σ vs) H1 fun σ2 H2 => wipe σ2 vs = wipe σ vs ∧ te σ2 H2 R)
    (q : ∀ p H2, H p = none → Ex H H2 → H2 p = some (.lst (z.cps.toList.map f)) → Q (.ref p) H2) : tLc (iStr tl) g tYes te vs σ H Q := by
  refine ht _ ⟨z, rfl, fun D hD => ?_⟩
  refine lc_it walk_str (fun (i : Nat) H' => Ex H H' ∧ H' D = some (.lst ((z.cps.toList.take i).map f))) ⟨Evl.Ex.new hD, by simpa using upd_same⟩ (fun _ _ _ _ => trivial) ?_ ?_
  · rintro i x H' H'' hi ⟨e, hd⟩ ⟨rfl, cc, hc, rfl⟩
    refine hb i cc hc H'' e _ fun H2 e2 => ?_
    have hc' : z.cps.toList[i]? = some cc := by simpa using hc
    refine ⟨_, e2 D _ hd, ?_, ExB.ex (Evl.Ex.trans e e2) hD ExB.upd, ?_⟩
    · rw [List.length_map, List.length_take]
      refine Nat.lt_of_le_of_lt (Nat.min_le_right _ _) ?_
      rw [Array.length_toList]
      exact Nat.lt_of_le_of_lt hz (by decide)
    · rw [upd_same, List.take_succ, hc']
      simp
  · rintro H' ⟨e, hd⟩
    have l : z.cps.toList.take z.cps.size = z.cps.toList := by rw [← Array.length_toList, List.take_length]
    rw [l] at hd
    exact q D H' hD e hd
/-- [e for k in range(n)], its elements n values, where the state may change as P says -/
theorem w_lcR {vs : List Nat} {n : Nat} (Pv : Addr → Nat → Hp → Prop) (hn : n ≤ 1000) (ht : ∀ R : List V → Hp → Prop, R [.int (n : Int)] H → ts σ H R)
    (q0 : ∀ D, H D = none → Pv D 0 (upd H D (.lst [])))
    (hb : ∀ D, H D = none → ∀ (i : Nat) H1, i < n → Pv D i H1 → g (.int i) (wipe σ vs) H1 fun σ2 H2 => wipe σ2 vs = wipe σ vs ∧ te σ2 H2 fun y H4 => ∃ acc, H4 D = some (.lst acc) ∧ acc.length < sizeLine ∧ Pv D (i + 1) (upd H4 D (.lst (acc ++ [y]))))
    (q : ∀ D, H D = none → ∀ H2, Pv D n H2 → Q (.ref D) H2) : tLc (iRng1 ts) g tYes te vs σ H Q := by
  refine ht _ ⟨n, rfl, by omega, by omega, fun D hD => ?_⟩
  have e0 : ((n : Int)).toNat = n := by omega
  rw [e0]
  exact lc_range (lo := 0) (n := n) (Pv D) (q0 D hD) (fun i H1 hi p => by
    have e : (0 : Int) + (i : Int) = i := Int.zero_add _
    rw [e]
    exact hb D hD i H1 hi p) (fun H2 p => q D hD H2 p)
end
end EB
namespace EB
open PySem PySem.Spec L2 StX ClX
set_option maxHeartbeats 2000000
section
variable {σ : St} {H : Hp} {Q : VK} {K : PySem.W.Frag} {a b : Addr} {xs ys : List V}
/-- t[:k] of a tuple, not the whole -/
theorem w_slTk {k : Nat} (h : SqT K H a xs) (hk : k < xs.length) (q : ∀ p H2, H p = none → Ex H H2 → H2 p = some (.tup (xs.take k)) → Q (.ref p) H2) : rSlA K (.ref a) none (some (k : Int)) H Q := by
  have e : HT.sIx xs.length xs.length (some (k : Int)) = k := by
    rw [HT.sIx_nat]
    omega
  refine ⟨a, xs, rfl, h, fun z => ?_, fun _ => ?_⟩
  · rw [e] at z
    omega
  · have ec : cutV xs none (some (k : Int)) = xs.take k := by
      unfold cutV
      rw [e]
      show (xs.drop 0).take (k - 0) = xs.take k
      rw [List.drop_zero, Nat.sub_zero]
    rw [ec]
    exact w_new1 q
/-- xs[:k] of a list -/
theorem w_slLk {k : Nat} (h : SqL K H a xs) (q : ∀ p H2, H p = none → Ex H H2 → H2 p = some (.lst (xs.take k)) → Q (.ref p) H2) : rSlL K (.ref a) none (some (k : Int)) H Q := by
  have ec : cutV xs none (some (k : Int)) = xs.take k := by
    unfold cutV
    rw [HT.sIx_nat]
    show (xs.drop 0).take (min k xs.length - 0) = xs.take k
    rw [List.drop_zero, Nat.sub_zero]
    by_cases hk : k ≤ xs.length
    · rw [Nat.min_eq_left hk]
    · rw [Nat.min_eq_right (by omega), List.take_length, List.take_of_length_le (by omega)]
  refine w_slL (lo := none) (hi := some (k : Int)) h ?_
  rw [ec]
  exact q
theorem w_eqD {x y : V} {d e : PyData} (h1 : Dp K H x d) (h2 : Dp K H y e) (s1 : SeqAt.shaped d = true) (s2 : SeqAt.shaped e = true) (q : Q (.bl (PyData.eqv d e)) H) : rEqD K x y H Q := ⟨d, e, h1, h2, s1, s2, q⟩
theorem w_neD {x y : V} {d e : PyData} (h1 : Dp K H x d) (h2 : Dp K H y e) (s1 : SeqAt.shaped d = true) (s2 : SeqAt.shaped e = true) (q : Q (.bl (!PyData.eqv d e)) H) : rNeD K x y H Q := ⟨d, e, h1, h2, s1, s2, q⟩
theorem atI_pos {α : Type} {zs : List α} {i : Int} {v : α} (h0 : 0 ≤ i) (h : zs[i.toNat]? = some v) : atI zs i = some v := by
  have := atI_nat h
  rwa [Int.toNat_of_nonneg h0] at this
theorem ixN_pos {n : Nat} {i : Int} (h0 : 0 ≤ i) (h1 : i < n) : ixN n i = some i.toNat := by
  unfold ixN
  rw [if_pos h0, if_pos h1]
/-- a text among texts -/
theorem inV_str {k : Str} {ks : List Str} : inV (.str k) (ks.map V.str) = decide (k ∈ ks) := by
  induction ks with
  | nil => rfl
  | cons x ks ih =>
    show (x == k || inV (.str k) (ks.map V.str)) = _
    rw [ih]
    by_cases h : x = k
    · subst h
      simp
    · have h' : ¬ k = x := fun e => h e.symm
      simp [h, h']
theorem flat_strs {ks : List Str} : (ks.map V.str).all flatV = true := by
  rw [List.all_eq_true]
  intro x hx
  obtain ⟨k, _, rfl⟩ := List.mem_map.mp hx
  rfl
theorem flat_ints {ks : List Int} : (ks.map V.int).all flatV = true := by
  rw [List.all_eq_true]
  intro x hx
  obtain ⟨k, _, rfl⟩ := List.mem_map.mp hx
  rfl
/-! ### loops whose head makes what is walked -/
variable {g : TG} {tt : TT} {te tl : TE} {vs : List Nat} {tb : TS} {D : Ends}
def lcTT (K : PySem.W.Frag) (g : TG) (tt : TT) (te : TE) (vs : List Nat) (σ : St) (Q : VK) : VK := fun x H1 => ∃ a, x = .ref a ∧ (∃ xs, SqT K H1 a xs) ∧ ∀ D, H1 D = none → ∃ W : Nat → Nat → Hp → Prop, (∃ m, W 0 m (upd H1 D (.lst []))) ∧ ∀ i m H, W i m H →
  ((Itt K a).stop i H ∧ Q (.ref D) H) ∨ ((Itt K a).go i H ∧ ∃ Nx : Hp → Prop, (∀ H', Nx H' → ∃ m', m' < m ∧ W (i + 1) m' H') ∧ ∀ x H', (Itt K a).yld i H x H' → g x (wipe σ vs) H' fun σ2 H2 => wipe σ2 vs = wipe σ vs ∧ tt σ2 H2 fun b H3 =>
    if b = true then te σ2 H3 fun y H4 => ∃ acc, H4 D = some (.lst acc) ∧ acc.length < sizeLine ∧ Nx (upd H4 D (.lst (acc ++ [y]))) else Nx H3)
def lcTL (K : PySem.W.Frag) (g : TG) (tt : TT) (te : TE) (vs : List Nat) (σ : St) (Q : VK) : VK := fun x H1 => ∃ a, x = .ref a ∧ (∃ xs, SqL K H1 a xs) ∧ ∀ D, H1 D = none → ∃ W : Nat → Nat → Hp → Prop, (∃ m, W 0 m (upd H1 D (.lst []))) ∧ ∀ i m H, W i m H →
  ((Itl K a).stop i H ∧ Q (.ref D) H) ∨ ((Itl K a).go i H ∧ ∃ Nx : Hp → Prop, (∀ H', Nx H' → ∃ m', m' < m ∧ W (i + 1) m' H') ∧ ∀ x H', (Itl K a).yld i H x H' → g x (wipe σ vs) H' fun σ2 H2 => wipe σ2 vs = wipe σ vs ∧ tt σ2 H2 fun b H3 =>
    if b = true then te σ2 H3 fun y H4 => ∃ acc, H4 D = some (.lst acc) ∧ acc.length < sizeLine ∧ Nx (upd H4 D (.lst (acc ++ [y]))) else Nx H3)
theorem w_lcTs (q : tl σ H (lcTT K g tt te vs σ Q)) : tLc (iTup K tl) g tt te vs σ H Q := q
theorem w_lcLs (q : tl σ H (lcTL K g tt te vs σ Q)) : tLc (iList K tl) g tt te vs σ H Q := q
/-- [e for target in t if test]: cs the tests' answers, ys the elements' values; nothing but new objects -/
theorem w_lcTt (cs : List Bool) (ys : List V) (hx : SqT K H a xs) (hz : xs.length ≤ 1000) (hc : cs.length = xs.length) (hy : ys.length = xs.length)
    (hb : ∀ (i : Nat) x y c, xs[i]? = some x → ys[i]? = some y → cs[i]? = some c → ∀ H1, Ex H H1 → ∀ (R : VK) (N : Hp → Prop), (c = true → ∀ H2, Ex H1 H2 → R y H2) → (c = false → ∀ H2, Ex H1 H2 → N H2) → g x (wipe σ vs) H1 fun σ2 H2 => wipe σ2 vs = wipe σ vs ∧ tt σ2 H2 fun b H3 => if b = true then te σ2 H3 R else N H3)
    (q : ∀ p H2, H p = none → Ex H H2 → H2 p = some (.lst (((cs.zip ys).filter (·.1)).map (·.2))) → Q (.ref p) H2) : lcTT K g tt te vs σ Q (.ref a) H := by
  refine ⟨a, rfl, ⟨_, hx⟩, fun D hD => ?_⟩
  have small : ∀ i, ((((cs.zip ys).take i).filter (·.1)).map (·.2)).length ≤ 1000 := fun i => by
    rw [List.length_map]
    refine Nat.le_trans (List.length_filter_le _ _) ?_
    rw [List.length_take, List.length_zip, hc, hy]
    omega
  refine lc_tup (K := K) (a := a) (xs := xs) (fun i H' => Ex H H' ∧ H' D = some (.lst ((((cs.zip ys).take i).filter (·.1)).map (·.2)))) ⟨Evl.Ex.new hD, by simpa using upd_same⟩ (fun i H' _ ⟨e, _⟩ => ex_sqT e hx) ?_ ?_
  · rintro i x H' hi ⟨e, hd⟩
    have lt := (List.getElem?_eq_some_iff.mp hi).1
    have hyi : ys[i]? = some ys[i] := List.getElem?_eq_getElem (by omega)
    have hci : cs[i]? = some cs[i] := List.getElem?_eq_getElem (by omega)
    have hzi : (cs.zip ys)[i]? = some (cs[i], ys[i]) := by rw [List.getElem?_zip_eq_some]; exact ⟨hci, hyi⟩
    refine hb i x ys[i] cs[i] hi hyi hci H' e _ _ (fun ct H2 e2 => ?_) (fun cf H2 e2 => ?_)
    · refine ⟨_, e2 D _ hd, Nat.lt_of_le_of_lt (small i) (by decide), ExB.ex (Evl.Ex.trans e e2) hD ExB.upd, ?_⟩
      rw [upd_same, List.take_succ, hzi, List.filter_append, List.map_append]
      simp [ct]
    · refine ⟨Evl.Ex.trans e e2, ?_⟩
      rw [e2 D _ hd, List.take_succ, hzi, List.filter_append, List.map_append]
      simp [cf]
  · rintro H' ⟨e, hd⟩
    have l : (cs.zip ys).take xs.length = cs.zip ys := List.take_of_length_le (by rw [List.length_zip, hc, hy]; omega)
    rw [l] at hd
    exact q D H' hD e hd
theorem w_lcLt (cs : List Bool) (ys : List V) (hx : SqL K H a xs) (hz : xs.length ≤ 1000) (hc : cs.length = xs.length) (hy : ys.length = xs.length)
    (hb : ∀ (i : Nat) x y c, xs[i]? = some x → ys[i]? = some y → cs[i]? = some c → ∀ H1, Ex H H1 → ∀ (R : VK) (N : Hp → Prop), (c = true → ∀ H2, Ex H1 H2 → R y H2) → (c = false → ∀ H2, Ex H1 H2 → N H2) → g x (wipe σ vs) H1 fun σ2 H2 => wipe σ2 vs = wipe σ vs ∧ tt σ2 H2 fun b H3 => if b = true then te σ2 H3 R else N H3)
    (q : ∀ p H2, H p = none → Ex H H2 → H2 p = some (.lst (((cs.zip ys).filter (·.1)).map (·.2))) → Q (.ref p) H2) : lcTL K g tt te vs σ Q (.ref a) H := by
  refine ⟨a, rfl, ⟨_, hx⟩, fun D hD => ?_⟩
  have small : ∀ i, ((((cs.zip ys).take i).filter (·.1)).map (·.2)).length ≤ 1000 := fun i => by
    rw [List.length_map]
    refine Nat.le_trans (List.length_filter_le _ _) ?_
    rw [List.length_take, List.length_zip, hc, hy]
    omega
  refine lc_list (K := K) (a := a) (xs := xs) (fun i H' => Ex H H' ∧ H' D = some (.lst ((((cs.zip ys).take i).filter (·.1)).map (·.2)))) ⟨Evl.Ex.new hD, by simpa using upd_same⟩ (fun i H' _ ⟨e, _⟩ => ex_sqL e hx) ?_ ?_
  · rintro i x H' hi ⟨e, hd⟩
    have lt := (List.getElem?_eq_some_iff.mp hi).1
    have hyi : ys[i]? = some ys[i] := List.getElem?_eq_getElem (by omega)
    have hci : cs[i]? = some cs[i] := List.getElem?_eq_getElem (by omega)
    have hzi : (cs.zip ys)[i]? = some (cs[i], ys[i]) := by rw [List.getElem?_zip_eq_some]; exact ⟨hci, hyi⟩
    refine hb i x ys[i] cs[i] hi hyi hci H' e _ _ (fun ct H2 e2 => ?_) (fun cf H2 e2 => ?_)
    · refine ⟨_, e2 D _ hd, Nat.lt_of_le_of_lt (small i) (by decide), ExB.ex (Evl.Ex.trans e e2) hD ExB.upd, ?_⟩
      rw [upd_same, List.take_succ, hzi, List.filter_append, List.map_append]
      simp [ct]
    · refine ⟨Evl.Ex.trans e e2, ?_⟩
      rw [e2 D _ hd, List.take_succ, hzi, List.filter_append, List.map_append]
      simp [cf]
  · rintro H' ⟨e, hd⟩
    have l : (cs.zip ys).take xs.length = cs.zip ys := List.take_of_length_le (by rw [List.length_zip, hc, hy]; omega)
    rw [l] at hd
    exact q D H' hD e hd
/-- all kept -/
theorem zip_all (ys : List V) : (((List.replicate ys.length true).zip ys).filter (·.1)).map (·.2) = ys := by
  induction ys with
  | nil => rfl
  | cons y ys ih => simp [List.replicate_succ, ih]
theorem w_lcTa (ys : List V) (hx : SqT K H a xs) (hz : xs.length ≤ 1000) (hy : ys.length = xs.length)
    (hb : ∀ (i : Nat) x y, xs[i]? = some x → ys[i]? = some y → ∀ H1, Ex H H1 → ∀ R : VK, (∀ H2, Ex H1 H2 → R y H2) → g x (wipe σ vs) H1 fun σ2 H2 => wipe σ2 vs = wipe σ vs ∧ te σ2 H2 R)
    (q : ∀ p H2, H p = none → Ex H H2 → H2 p = some (.lst ys) → Q (.ref p) H2) : lcTT K g tYes te vs σ Q (.ref a) H := by
  refine w_lcTt (List.replicate ys.length true) ys hx hz (by rw [List.length_replicate, hy]) hy (fun i x y c hi hyi hci H1 e1 R N hR _ => ?_) (by rw [zip_all]; exact q)
  have ct : c = true := (List.mem_replicate.mp (List.mem_of_getElem? hci)).2
  exact hb i x y hi hyi H1 e1 R (hR ct)
theorem w_lcLa (ys : List V) (hx : SqL K H a xs) (hz : xs.length ≤ 1000) (hy : ys.length = xs.length)
    (hb : ∀ (i : Nat) x y, xs[i]? = some x → ys[i]? = some y → ∀ H1, Ex H H1 → ∀ R : VK, (∀ H2, Ex H1 H2 → R y H2) → g x (wipe σ vs) H1 fun σ2 H2 => wipe σ2 vs = wipe σ vs ∧ te σ2 H2 R)
    (q : ∀ p H2, H p = none → Ex H H2 → H2 p = some (.lst ys) → Q (.ref p) H2) : lcTL K g tYes te vs σ Q (.ref a) H := by
  refine w_lcLt (List.replicate ys.length true) ys hx hz (by rw [List.length_replicate, hy]) hy (fun i x y c hi hyi hci H1 e1 R N hR _ => ?_) (by rw [zip_all]; exact q)
  have ct : c = true := (List.mem_replicate.mp (List.mem_of_getElem? hci)).2
  exact hb i x y hi hyi H1 e1 R (hR ct)
def foTT (K : PySem.W.Frag) (g : TG) (tb : TS) (D : Ends) (σ : St) : VK := fun x H1 => ∃ a, x = .ref a ∧ (∃ xs, SqT K H1 a xs) ∧ ∃ W : Nat → Nat → St → Hp → Prop, (∃ m, W 0 m σ H1) ∧ ∀ i m σ H, W i m σ H →
  ((Itt K a).stop i H ∧ D.nx σ H) ∨ ((Itt K a).go i H ∧ ∃ N : St → Hp → Prop, (∀ σ' H', N σ' H' → ∃ m', m' < m ∧ W (i + 1) m' σ' H') ∧ ∀ x H', (Itt K a).yld i H x H' → g x σ H' fun σ2 H2 => tb { D with nx := N, ct := N, bk := D.nx } σ2 H2)
def foTL (K : PySem.W.Frag) (g : TG) (tb : TS) (D : Ends) (σ : St) : VK := fun x H1 => ∃ a, x = .ref a ∧ (∃ xs, SqL K H1 a xs) ∧ ∃ W : Nat → Nat → St → Hp → Prop, (∃ m, W 0 m σ H1) ∧ ∀ i m σ H, W i m σ H →
  ((Itl K a).stop i H ∧ D.nx σ H) ∨ ((Itl K a).go i H ∧ ∃ N : St → Hp → Prop, (∀ σ' H', N σ' H' → ∃ m', m' < m ∧ W (i + 1) m' σ' H') ∧ ∀ x H', (Itl K a).yld i H x H' → g x σ H' fun σ2 H2 => tb { D with nx := N, ct := N, bk := D.nx } σ2 H2)
theorem w_foTs (q : tl σ H (foTT K g tb D σ)) : tFor (iTup K tl) g tb D σ H := q
theorem w_foLs (q : tl σ H (foTL K g tb D σ)) : tFor (iList K tl) g tb D σ H := q
theorem w_foTt (Pv : Nat → St → Hp → Prop) (hx : SqT K H a xs) (h0 : Pv 0 σ H) (hl : ∀ i σ' H', i ≤ xs.length → Pv i σ' H' → SqT K H' a xs)
    (hs : ∀ i x σ' H', xs[i]? = some x → Pv i σ' H' → g x σ' H' fun σ2 H2 => tb { D with nx := Pv (i + 1), ct := Pv (i + 1), bk := D.nx } σ2 H2) (hd : ∀ σ' H', Pv xs.length σ' H' → D.nx σ' H') : foTT K g tb D σ (.ref a) H :=
  ⟨a, rfl, ⟨_, hx⟩, for_tup Pv h0 hl hs hd⟩
theorem w_foLt (Pv : Nat → St → Hp → Prop) (hx : SqL K H a xs) (h0 : Pv 0 σ H) (hl : ∀ i σ' H', i ≤ xs.length → Pv i σ' H' → SqL K H' a xs)
    (hs : ∀ i x σ' H', xs[i]? = some x → Pv i σ' H' → g x σ' H' fun σ2 H2 => tb { D with nx := Pv (i + 1), ct := Pv (i + 1), bk := D.nx } σ2 H2) (hd : ∀ σ' H', Pv xs.length σ' H' → D.nx σ' H') : foTL K g tb D σ (.ref a) H :=
  ⟨a, rfl, ⟨_, hx⟩, for_list Pv h0 hl hs hd⟩
end
end EB
namespace EB
open PySem PySem.Spec L2 StX ClX
set_option maxHeartbeats 2000000
section
variable {σ : St} {H : Hp} {Q : VK} {K : PySem.W.Frag} {g : TG} {tt : TT} {te : TE} {ts : TA} {vs : List Nat} {D : Ends}
theorem w_parP3 {k l m : Nat} {t : TA} (q : t σ H fun vs H1 => ∃ u v w, vs = [u, v, w] ∧ D.nx (((σ.set k (some u)).set l (some v)).set m (some w)) H1) : tPar3 k l m t D σ H := q
theorem w_par23 {u v w : V} {P : V → V → V → Prop} (q : P u v w) : ∃ u' v' w', [u, v, w] = [u', v', w'] ∧ P u' v' w' := ⟨u, v, w, rfl, q⟩
theorem w_un {f : Int → V} (q : te σ H fun x H1 => (rU f) x H1 Q) : tUn (rU f) te σ H Q := q
theorem w_rU {f : Int → V} {i : Int} (q : Q (f i) H) : rU f (.int i) H Q := ⟨i, rfl, q⟩
/-- range's filter so far -/
theorem range_snoc {p : Nat → Bool} {f : Nat → V} {i : Nat} : ((List.range (i + 1)).filter p).map f = ((List.range i).filter p).map f ++ (if p i = true then [f i] else []) := by
  rw [List.range_succ, List.filter_append, List.map_append]
  by_cases h : p i = true
  · simp [h]
  · simp [h]
theorem range_short {p : Nat → Bool} {f : Nat → V} {i n : Nat} (h : i ≤ n) : (((List.range i).filter p).map f).length ≤ n := by
  rw [List.length_map]
  refine Nat.le_trans (List.length_filter_le _ _) ?_
  rw [List.length_range]
  exact h
/-- the body of [e for k in range(lo, lo + n) if test]: c k the test's answer, y k the element; nothing but new objects -/
def LcB (g : TG) (tt : TT) (te : TE) (vs : List Nat) (σ : St) (H : Hp) (lo : Int) (n : Nat) (c : Nat → Bool) (y : Nat → V) : Prop :=
  ∀ (i : Nat) H1, i < n → Ex H H1 → ∀ (R : VK) (N : Hp → Prop), (c i = true → ∀ H2, Ex H1 H2 → R (y i) H2) → (c i = false → ∀ H2, Ex H1 H2 → N H2) → g (.int (lo + i)) (wipe σ vs) H1 fun σ2 H2 => wipe σ2 vs = wipe σ vs ∧ tt σ2 H2 fun b H3 => if b = true then te σ2 H3 R else N H3
theorem lcR_core {lo : Int} {n : Nat} (c : Nat → Bool) (y : Nat → V) (hn : n ≤ 100000) (hb : LcB g tt te vs σ H lo n c y) (q : ∀ p H2, H p = none → Ex H H2 → H2 p = some (.lst (((List.range n).filter c).map y)) → Q (.ref p) H2) :
    ∀ D, H D = none → ∃ W : Nat → Nat → Hp → Prop, (∃ m, W 0 m (upd H D (.lst []))) ∧ ∀ i m H, W i m H →
      ((Itr lo n).stop i H ∧ Q (.ref D) H) ∨ ((Itr lo n).go i H ∧ ∃ Nx : Hp → Prop, (∀ H', Nx H' → ∃ m', m' < m ∧ W (i + 1) m' H') ∧ ∀ x H', (Itr lo n).yld i H x H' → g x (wipe σ vs) H' fun σ2 H2 => wipe σ2 vs = wipe σ vs ∧ tt σ2 H2 fun b H3 =>
        if b = true then te σ2 H3 fun y H4 => ∃ acc, H4 D = some (.lst acc) ∧ acc.length < sizeLine ∧ Nx (upd H4 D (.lst (acc ++ [y]))) else Nx H3) := by
  intro D hD
  refine lc_range (lo := lo) (n := n) (fun i H' => Ex H H' ∧ H' D = some (.lst (((List.range i).filter c).map y))) ⟨Evl.Ex.new hD, upd_same⟩ (fun i H1 hi p => ?_) (fun H2 p => q D H2 hD p.1 p.2)
  refine hb i H1 hi p.1 _ _ (fun ct H2 e2 => ?_) (fun cf H2 e2 => ?_)
  · refine ⟨_, e2 D _ p.2, Nat.lt_of_le_of_lt (range_short (Nat.le_trans (Nat.le_of_lt hi) hn)) (by decide), ExB.ex (Evl.Ex.trans p.1 e2) hD ExB.upd, ?_⟩
    rw [upd_same, range_snoc, if_pos ct]
  · refine ⟨Evl.Ex.trans p.1 e2, ?_⟩
    rw [e2 D _ p.2, range_snoc, if_neg (by rw [cf]; decide), List.append_nil]
theorem w_lcRf1 {n : Nat} (c : Nat → Bool) (y : Nat → V) (hn : n ≤ 100000) (ht : ∀ R : List V → Hp → Prop, R [.int (n : Int)] H → ts σ H R) (hb : LcB g tt te vs σ H 0 n c y)
    (q : ∀ p H2, H p = none → Ex H H2 → H2 p = some (.lst (((List.range n).filter c).map y)) → Q (.ref p) H2) : tLc (iRng1 ts) g tt te vs σ H Q := by
  refine ht _ ⟨n, rfl, by omega, by omega, ?_⟩
  have e0 : ((n : Int)).toNat = n := by omega
  rw [e0]
  exact lcR_core c y hn hb q
theorem w_lcRf2 {lo hi : Int} {n : Nat} (c : Nat → Bool) (y : Nat → V) (hn : n ≤ 100000) (hl : -1000000000000000000 ≤ lo ∧ lo ≤ 1000000000000000000) (eh : (hi - lo).toNat = n) (hh : -1000000000000000000 ≤ hi ∧ hi ≤ 2000000000000000000) (ht : ∀ R : List V → Hp → Prop, R [.int lo, .int hi] H → ts σ H R) (hb : LcB g tt te vs σ H lo n c y)
    (q : ∀ p H2, H p = none → Ex H H2 → H2 p = some (.lst (((List.range n).filter c).map y)) → Q (.ref p) H2) : tLc (iRng2 ts) g tt te vs σ H Q := by
  refine ht _ ⟨lo, hi, rfl, ⟨by omega, by omega, by omega, by omega⟩, ?_⟩
  rw [eh]
  exact lcR_core c y hn hb q
/-- no test true -/
theorem range_none {n : Nat} {c : Nat → Bool} {y : Nat → V} (h : ∀ i, i < n → c i = false) : ((List.range n).filter c).map y = [] := by
  have e : (List.range n).filter c = [] := List.filter_eq_nil_iff.mpr fun i hi => by
    rw [h i (List.mem_range.mp hi)]
    decide
  rw [e]
  rfl
/-- the last whose test is true -/
theorem range_last {n m : Nat} {c : Nat → Bool} {y : Nat → V} (hm : m < n) (ct : c m = true) (h : ∀ i, m < i → i < n → c i = false) : ∃ xs, ((List.range n).filter c).map y = xs ++ [y m] := by
  induction n with
  | zero => omega
  | succ n ih =>
    rw [range_snoc]
    by_cases e : m = n
    · subst e
      rw [if_pos ct]
      exact ⟨_, rfl⟩
    · have cn := h n (by omega) (by omega)
      rw [if_neg (by rw [cn]; decide), List.append_nil]
      exact ih (by omega) fun i h1 h2 => h i h1 (by omega)
theorem atI_last {xs : List V} {v : V} : atI (xs ++ [v]) (-1) = some v := by
  have e : ixN (xs ++ [v]).length (-1) = some xs.length := by
    unfold ixN
    rw [List.length_append, List.length_singleton, if_neg (by decide), if_pos (by omega)]
    exact congrArg some (by omega)
  unfold atI
  rw [e]
  show (xs ++ [v])[xs.length]? = some v
  rw [List.getElem?_append_right (Nat.le_refl _), Nat.sub_self]
  rfl
theorem w_tYes {R : Bool → Hp → Prop} (q : R true H) : tYes σ H R := q
/-- over a list, no test true -/
theorem w_lcL0 {a : Addr} {xs : List V} (hx : SqL K H a xs) (hz : xs.length ≤ 1000)
    (hb : ∀ x, x ∈ xs → ∀ H1, Ex H H1 → ∀ (R : VK) (N : Hp → Prop), (∀ H2, Ex H1 H2 → N H2) → g x (wipe σ vs) H1 fun σ2 H2 => wipe σ2 vs = wipe σ vs ∧ tt σ2 H2 fun b H3 => if b = true then te σ2 H3 R else N H3)
    (q : ∀ p H2, H p = none → Ex H H2 → H2 p = some (.lst []) → Q (.ref p) H2) : lcTL K g tt te vs σ Q (.ref a) H := by
  refine w_lcLt (List.replicate xs.length false) xs hx hz (by simp) rfl (fun i x y c hi _ hc H1 e1 R N _ hN => hb x (List.mem_of_getElem? hi) H1 e1 R N (hN (List.mem_replicate.mp (List.mem_of_getElem? hc)).2)) ?_
  have e : (((List.replicate xs.length false).zip xs).filter (·.1)).map (·.2) = [] := by
    rw [List.map_eq_nil_iff, List.filter_eq_nil_iff]
    intro p hp
    have := (List.mem_replicate.mp (List.of_mem_zip hp).1).2
    rw [this]
    decide
  rw [e]
  exact q
/-- two roads to one place: what is to be shown there, once -/
theorem w_join {A : Prop} {P : Hp → Prop} (H : Hp) (main : (∀ H', Ex H H' → P H') → A) (fin : ∀ H', Ex H H' → P H') : A := main fin
end
end EB
namespace EB
open PySem PySem.Spec L2 StX ClX
set_option maxHeartbeats 2000000
/-! ## operators of own classes -/
section
variable {X : Cx} {CX : CXT} {k : Nat} {C g : Addr} {sp : Sp} {E : XK}
/-- g called by values -/
theorem run_own {pins : List (Addr × Obj)} {σ : L2.St} {H : Hp} {s : Shared} {Q : VK} {vs : List V} {us : List Value} (F : FnR X.prog X.w X.K X.mg X.base CX k g sp) (hr : Room k X.A) (hx : Passes CX X E) (I : Inv X pins σ H s) (r : Vals vs us) (h : sp vs H Q E) :
    wpAny (model X.prog X.w) X.A (call (.ref g) us) (EP X pins σ Q) X.xe s := wpAny_call (run_fnR F hr hx I r h)
/-- x in o (neg: not in), o an instance -/
def rInO (C : Addr) (sp : Sp) (E : XK) (neg : Bool) : R2 := fun x y H Q => ∃ a, y = .ref a ∧ (∃ dx fs, H a = some (.ins C dx fs)) ∧ sp [.ref a, x] H (fun r H' => ∃ b, r = .bl b ∧ Q (.bl (b != neg)) H') E
theorem has_own {pins : List (Addr × Obj)} {σ : L2.St} {H : Hp} {s : Shared} {Q : Bool → Hp → Prop} {R : Bool → Shared → Prop} {a : Addr} {x : V} {v : Value} (c : OwnM X.K C "__contains__" g) (F : FnR X.prog X.w X.K X.mg X.base CX k g sp) (hr : Room k X.A) (hx : Passes CX X E)
    (I : Inv X pins σ H s) (rx : RelV x v) (hi : ∃ dx fs, H a = some (.ins C dx fs)) (h : sp [.ref a, x] H (fun r H' => ∃ b, r = .bl b ∧ Q b H') E) (fin : ∀ b s' H', Inv X pins σ H' s' → Q b H' → R b s') : wpAny (model X.prog X.w) X.A (contains (.ref a) v) R X.xe s := by
  obtain ⟨ox, od, J, _⟩ := insC_at (X := X) I (.inr hi)
  unfold contains
  refine wpAny_holding ?_
  refine wpAny_bind ?_
  refine wpAny_bind ?_
  refine J.type.here ?_
  refine (PySem.W.looks_findIn I.kIn c.here).here ?_
  rw [if_neg (by simp)]
  refine wpAny_bind ?_
  refine PySem.W.unlessNone_K I.kIn J c.here c.isf ?_
  refine wpAny_mono (run_own (us := [.ref a, v]) (vs := [.ref a, x]) F hr hx I (.cons rfl (.cons rx .nil)) h) (fun r s' z => ?_) fun _ _ z => z
  obtain ⟨y, H', I', ry, b, rfl, q⟩ := z
  cases ry
  exact wpAny_truthy_bool (fin b s' H' I' q)
theorem op_inO (c : OwnM X.K C "__contains__" g) (F : FnR X.prog X.w X.K X.mg X.base CX k g sp) (hr : Room k X.A) (hx : Passes CX X E) : OpR X (compareOp .In) (rInO C sp E false) := by
  intro pins s σ H x y v u Q I rx ry h
  obtain ⟨a, rfl, hi, q⟩ := h
  cases ry
  refine wpAny_bind (has_own (Q := fun b H' => Q (.bl (b != false)) H') c F hr hx I rx hi q fun b s' H' I' z => wpAny_pure ?_)
  exact ⟨.bl b, H', I', rfl, by simpa using z⟩
theorem op_notInO (c : OwnM X.K C "__contains__" g) (F : FnR X.prog X.w X.K X.mg X.base CX k g sp) (hr : Room k X.A) (hx : Passes CX X E) : OpR X (compareOp .NotIn) (rInO C sp E true) := by
  intro pins s σ H x y v u Q I rx ry h
  obtain ⟨a, rfl, hi, q⟩ := h
  cases ry
  refine wpAny_bind (has_own (Q := fun b H' => Q (.bl (b != true)) H') c F hr hx I rx hi q fun b s' H' I' z => wpAny_pure ?_)
  exact ⟨.bl (!b), H', I', rfl, by simpa using z⟩
/-- what is called if it can be bound -/
theorem bound_own {pins : List (Addr × Obj)} {σ : L2.St} {H : Hp} {s : Shared} {R : Option Value → Shared → Prop} {a : Addr} {m : Str} {us : List Value} (c : OwnM X.K C m g) (I : Inv X pins σ H s) (hi : ∃ dx fs, H a = some (.ins C dx fs))
    (h : wpAny (model X.prog X.w) X.A (call (.ref g) (.ref a :: us)) (fun v => R (some v)) X.xe s) : wpAny (model X.prog X.w) X.A (callSpecialIfBound? (.ref a) m us) R X.xe s := by
  obtain ⟨ox, od, J, _⟩ := insC_at (X := X) I (.inr hi)
  simp only [callSpecialIfBound?, bindSpecialIfBound?]
  have last : wpAny (model X.prog X.w) X.A (call (.ref g) ([.ref a] ++ us) >>= fun v => pure (some v)) R X.xe s := wpAny_bind (wpAny_mono h (fun _ _ z => wpAny_pure z) fun _ _ z => z)
  refine wpAny_holding ?_
  refine wpAny_bind ?_
  refine wpAny_bind ?_
  refine wpAny_bind ?_
  refine J.type.here ?_
  refine (PySem.W.looks_findIn I.kIn c.here).here ?_
  refine wpAny_bind ?_
  refine wpAny_askSetting ?_
  refine wpAny_ite ?_
  have B := PySem.W.bind_fn (M := model X.prog X.w) I.kIn (.ref a) (beq_iff_eq.mp c.isf)
  split
  · refine wpAny_bind ?_
    exact B.here (wpAny_pure last)
  · refine wpAny_tryCatch ?_
    refine wpAny_bind ?_
    exact B.here (wpAny_pure last)
def rCmpO (C : Addr) (sp : Sp) (E : XK) : R2 := fun x y H Q => ∃ a b, x = .ref a ∧ y = .ref b ∧ (∃ dx fs, H a = some (.ins C dx fs)) ∧ (∃ dx fs, H b = some (.ins C dx fs)) ∧ sp [.ref a, .ref b] H (fun r H' => ∃ z, r = .bl z ∧ Q (.bl z) H') E
theorem rich_own {op : CmpOp} {m : Str} (hm : (cmpInfo op).2.1 = m) (hu : X.A.units < cLine) (c : OwnM X.K C m g) (F : FnR X.prog X.w X.K X.mg X.base CX k g sp) (hr : Room k X.A) (hx : Passes CX X E) : OpR X (richCompare op) (rCmpO C sp E) := by
  intro pins s σ H x y v u Q I rx ry h
  obtain ⟨a, b, rfl, rfl, ha, hb, q⟩ := h
  cases rx
  cases ry
  obtain ⟨oa, da, Ja, _⟩ := insC_at (X := X) I (.inr ha)
  obtain ⟨ob, db, Jb, _⟩ := insC_at (X := X) I (.inr hb)
  unfold richCompare
  refine wpAny_holding ?_
  refine wpAny_bind (wpAny_cRoomFor hu ?_)
  rw [show oneThing? op (.ref a) (.ref b) = none from rfl]
  dsimp only
  refine wpAny_bind ?_
  refine Ja.type.here ?_
  refine wpAny_bind ?_
  refine Jb.type.here ?_
  rw [if_neg (by simp)]
  refine wpAny_bind (wpAny_pure ?_)
  rw [if_neg (by decide)]
  refine wpAny_bind ?_
  unfold tryCompare
  refine wpAny_bind ?_
  rw [hm]
  refine bound_own c I ha ?_
  refine wpAny_mono (run_own (us := [.ref a, .ref b]) (vs := [.ref a, .ref b]) F hr hx I (.cons rfl (.cons rfl .nil)) q) (fun r s' z => ?_) fun _ _ z => z
  obtain ⟨w, H', I', rw', z', rfl, q'⟩ := z
  cases rw'
  exact wpAny_pure (wpAny_pure ⟨.bl z', H', I', rfl, q'⟩)
theorem op_leO (hu : X.A.units + 64 < cLine) (c : OwnM X.K C "__le__" g) (F : FnR X.prog X.w X.K X.mg X.base CX k g sp) (hr : Room k X.A) (hx : Passes CX X E) : OpR X (compareOp .LtE) (rCmpO C sp E) := rich_own rfl (by omega) c F hr hx
theorem op_ltO (hu : X.A.units + 64 < cLine) (c : OwnM X.K C "__lt__" g) (F : FnR X.prog X.w X.K X.mg X.base CX k g sp) (hr : Room k X.A) (hx : Passes CX X E) : OpR X (compareOp .Lt) (rCmpO C sp E) := rich_own rfl (by omega) c F hr hx
theorem op_geO (hu : X.A.units + 64 < cLine) (c : OwnM X.K C "__ge__" g) (F : FnR X.prog X.w X.K X.mg X.base CX k g sp) (hr : Room k X.A) (hx : Passes CX X E) : OpR X (compareOp .GtE) (rCmpO C sp E) := rich_own rfl (by omega) c F hr hx
theorem op_gtO (hu : X.A.units + 64 < cLine) (c : OwnM X.K C "__gt__" g) (F : FnR X.prog X.w X.K X.mg X.base CX k g sp) (hr : Room k X.A) (hx : Passes CX X E) : OpR X (compareOp .Gt) (rCmpO C sp E) := rich_own rfl (by omega) c F hr hx
end
end EB
namespace EB
open PySem PySem.Spec L2 StX ClX
set_option maxHeartbeats 2000000
/-! ## t[::-1], t a tuple -/
section
variable {prog : Program} {w : World} {A : Around} {E : Value → Shared → Prop} {s : Shared}
theorem back_bounds (n : Nat) : Builtin.Slice.sliceAdjust none none (-1) (n : Int) = ((n : Int) - 1, -1) := rfl
theorem back_places (n : Nat) : Builtin.Slice.slicePlaces ((n : Int) - 1) (-1) (-1) = n := by
  unfold Builtin.Slice.slicePlaces
  rw [if_neg (by decide)]
  by_cases h : (n : Int) - 1 > -1
  · rw [if_pos h, show (-(-1) : Int) = 1 by decide, Int.ediv_one]
    omega
  · rw [if_neg h]
    omega
theorem back_pick (xs : Array Value) : ((List.range xs.size).filterMap fun (m : Nat) => xs[(((xs.size : Int) - 1) + (m : Int) * (-1)).toNat]?) = xs.toList.reverse := by
  have g : ∀ l : List Nat, (∀ m ∈ l, m < xs.size) → (l.filterMap fun (m : Nat) => xs[(((xs.size : Int) - 1) + (m : Int) * (-1)).toNat]?) = l.filterMap ((fun i => xs[i]?) ∘ fun k => xs.size - 1 - k) := by
    intro l
    induction l with
    | nil => exact fun _ => rfl
    | cons m l ih =>
      intro hl
      have lm := hl m List.mem_cons_self
      have i1 := ih fun z hz => hl z (List.mem_cons_of_mem _ hz)
      have i2 : (((xs.size : Int) - 1) + (m : Int) * (-1)).toNat = xs.size - 1 - m := by omega
      rw [List.filterMap_cons, List.filterMap_cons, i1]
      rw [i2]
      rfl
  have e := g (List.range xs.size) fun m hm => List.mem_range.mp hm
  rw [e, ← List.filterMap_map, PySem.W.krv_range, List.filterMap_reverse, PySem.W.krv_all]
theorem applied_back {sl : Addr} {vs : Value} {n : Nat} {Q : Int × Int × Nat → Shared → Prop} (hs : s.heap.IsSliceOf sl .none .none vs) (ps : IsPart vs (some (-1))) (h : Q ((n : Int) - 1, -1, n) s) :
    wpAny (model prog w) A (Builtin.Slice.sliceApplied (.ref sl) (pure (n : Int))) Q E s := by
  obtain ⟨o, ho, hc, hd⟩ := id hs
  unfold Builtin.Slice.sliceApplied
  unfold Builtin.Slice.sliceFields
  refine wpAny_bind ?_
  refine wpAny_bind (wpAny_field ho hd (x := .none) rfl ?_)
  refine wpAny_bind (wpAny_field ho hd (x := .none) rfl ?_)
  refine wpAny_bind (wpAny_field ho hd (x := vs) rfl (wpAny_pure ?_))
  refine wpAny_bind (HT.slicePart_ ps ?_)
  show wpAny _ _ (if ((-1 : Int) == 0) = true then _ else _) _ _ s
  rw [if_neg (by decide)]
  refine wpAny_bind (HT.slicePart_ .none ?_)
  refine wpAny_bind (HT.slicePart_ .none ?_)
  refine wpAny_bind (wpAny_pure ?_)
  show wpAny _ _ (match Builtin.Slice.sliceAdjust none none (-1) (n : Int) with | (x, y) => pure (x, (-1 : Int), Builtin.Slice.slicePlaces x y (-1))) _ _ s
  rw [back_bounds]
  show wpAny _ _ (pure ((n : Int) - 1, (-1 : Int), Builtin.Slice.slicePlaces ((n : Int) - 1) (-1) (-1))) _ _ s
  rw [back_places]
  exact wpAny_pure h
theorem getItem_back {t sl : Addr} {items : Array Value} {vs : Value} {Q : Value → Shared → Prop} (ht : PyProof.Rows.IsTup s.heap t items) (hs : s.heap.IsSliceOf sl .none .none vs) (ps : IsPart vs (some (-1)))
    (h : Q (.ref s.heap.objs.size) { s with heap := s.heap.push { cls := .type "tuple", data := .seq items.toList.reverse.toArray } }) (hz : items.size ≤ sizeLine) : wpAny (model prog w) A (getItem (.ref t) (.ref sl)) Q E s := by
  have ok : sizeOk (.seq items.toList.reverse.toArray) := by
    show items.toList.reverse.toArray.size ≤ sizeLine
    rw [List.size_toArray, List.length_reverse, Array.length_toList]
    exact hz
  obtain ⟨o, ho, hc, hd⟩ := id hs
  have ts : s.TypeIs (.ref sl) "slice" := ⟨o, ho, hc⟩
  unfold getItem
  try with_reducible refine wpAny_holding ?_
  first
    | refine wpAny_bind (wpAny_pure ?_)
    | skip
  refine wpAny_bind ?_
  refine wpAny_sequenceKey ht.typeIs (by decide) ?_
  refine wpAny_bind ?_
  refine wpAny_callSpecial?_slot (name := Str.ofString "__getitem__") ht.typeIs PyProof.Rows.slot_tuple_getitem ?_
  refine wpAny_call_entry PyProof.Rows.slot_tuple_getitem ht.typeIs PyProof.Rows.entry_tuple_getitem ?_ (PyProof.Rows.args_tuple_getitem _ _)
  show wpAny _ _ (Builtin.Tuple.tupleItemsOf (.ref t) >>= _) _ _ s
  refine wpAny_bind ?_
  refine PyProof.Rows.tupleItemsOf_ ht ?_
  refine wpAny_bind ?_
  refine wpAny_typeOf ts ?_
  rw [if_pos (by decide)]
  refine wpAny_bind ?_
  refine applied_back hs ps ?_
  have no : ¬ ((((items.size : Int) - 1) == 0 && (-1 : Int) == 1 && items.size == items.size) = true) := by
    rw [show ((-1 : Int) == 1) = false from rfl, Bool.and_false, Bool.false_and]
    decide
  show wpAny _ _ (if ((((items.size : Int) - 1) == 0 && (-1 : Int) == 1 && items.size == items.size) = true) then _ else _) _ _ s
  rw [if_neg no, back_pick]
  first
    | exact wpAny_bind (m := Builtin.Tuple.tupleExact _) (wpAny_newObj_type (wpAny_pure ⟨_, rfl, wpAny_pure h⟩) ok)
    | exact wpAny_bind (m := Builtin.Tuple.tupleExact _) (wpAny_newObj_type (wpAny_bind (wpAny_pure (wpAny_pure ⟨_, rfl, wpAny_pure h⟩))) ok)
    | exact wpAny_bind (wpAny_bind (m := Builtin.Tuple.tupleExact _) (wpAny_newObj_type (wpAny_pure (wpAny_pure ⟨_, rfl, wpAny_pure h⟩)) ok))
    | exact wpAny_bind (wpAny_bind (m := Builtin.Tuple.tupleExact _) (wpAny_newObj_type (wpAny_pure ⟨_, rfl, wpAny_pure h⟩) ok))
end
def tRevT (K : PySem.W.Frag) (te : TE) : TE := fun σ H Q => te σ H fun x H1 => ∃ a xs, x = .ref a ∧ SqT K H1 a xs ∧ ∀ p, H1 p = none → Q (.ref p) (upd H1 p (.tup xs.reverse))
theorem pe_revT {X : Cx} {e : Expr} {te : TE} {k : Nat} {p1 p2 p3 pos : Pos} (he : PE X e te) : PE X (.Subscript e (.Slice none none (some (.UnaryOp .USub (.Constant (.int 1) k p1) p2)) p3) pos) (tRevT X.K te) := by
  constructor
  intro pins s σ H Q I h
  refine PyProof.Rows.Subscript_ (thn (he.run pins s σ H _ I h) fun v s1 ⟨x, H1, I1, r1, z⟩ => ?_)
  obtain ⟨a, xs, rfl, hx, q⟩ := z
  cases r1
  have st : PO X (some (.UnaryOp .USub (.Constant (.int 1) k p1) p2)) (tPart (tUn (rU fun i => .int (-i)) (tC (.int 1)))) := by
    refine po_some ?_
    exact pe_un un_neg pe_int
  refine wpAny_Slice ?_
  refine thn (po_none.run pins s1 σ H1 (fun z H2 => z = none ∧ H2 = H1) I1 ⟨rfl, rfl⟩) fun vl s2 ⟨l, H2, I2, pl, el, eh⟩ => ?_
  subst el eh
  refine thn (po_none.run pins s2 σ H2 (fun z H3 => z = none ∧ H3 = H2) I2 ⟨rfl, rfl⟩) fun vu s3 ⟨u, H3, I3, pu, eu, eh⟩ => ?_
  subst eu eh
  refine thn (st.run pins s3 σ H3 (fun z H4 => z = some (-1) ∧ H4 = H3) I3 ⟨1, rfl, -1, rfl, rfl, rfl⟩) fun vs s4 ⟨z, H4, I4, ps, ez, eh⟩ => ?_
  subst ez eh
  cases pl
  cases pu
  have I5 : Inv X pins σ H4 { s4 with heap := s4.heap.push { cls := .type "slice", data := .fields #[.none, .none, vs] } } := I4.kept (t' := s4.toks) fun b o z => Heap.get?_push_of_some _ z
  obtain ⟨its, r, ht, hz⟩ := I5.tuple hx
  have len := r.length
  show wpAny (model X.prog X.w) X.A (PyProof.Rows.subscriptTail e (.Slice none none (some (.UnaryOp .USub (.Constant (.int 1) k p1) p2)) p3) (.ref a) (.ref s4.heap.objs.size)) (EP X pins σ Q) X.xe { s4 with heap := s4.heap.push { cls := .type "slice", data := .fields #[.none, .none, vs] } }
  refine PyProof.Rows.tail_any (ops := [.ref a, .ref s4.heap.objs.size]) ht.typeIs PyProof.Rows.slot_tuple_getitem.lookup ?_ (by with_unfolding_all rfl)
  refine getItem_back ht (Heap.IsSliceOf.new _ _ _ vs) ps ?_ (by rw [List.size_toArray]; omega)
  have eq : its.toArray.toList.reverse.toArray = its.reverse.toArray := rfl
  have got := Heap.get?_push_size (s4.heap.push { cls := .type "slice", data := .fields #[.none, .none, vs] }) (o := { cls := .type "tuple", data := .seq its.reverse.toArray }) rfl
  have I6 := I5.laid (t' := s4.toks) (o := .tup xs.reverse) (h' := (s4.heap.push { cls := .type "slice", data := .fields #[.none, .none, vs] }).push { cls := .type "tuple", data := .seq its.reverse.toArray }) (fun b o z => Heap.get?_push_of_some _ z) (Nat.le_refl _)
    ⟨by rw [List.length_reverse]; exact hz, its.reverse, r.reverse, _, got, rfl, 0, rfl⟩
  exact ⟨.ref _, _, I6, rfl, q _ (I5.hok.fresh (Nat.le_refl _))⟩
theorem w_revT {K : PySem.W.Frag} {σ : St} {H : Hp} {Q : VK} {te : TE} (q : te σ H fun x H1 => ∃ a xs, x = .ref a ∧ SqT K H1 a xs ∧ ∀ p H2, H1 p = none → Ex H1 H2 → H2 p = some (.tup xs.reverse) → Q (.ref p) H2) (mono : ∀ (R R' : VK), (∀ v h, R v h → R' v h) → te σ H R → te σ H R') : tRevT K te σ H Q :=
  mono _ _ (fun v h ⟨a, xs, e, s, k⟩ => ⟨a, xs, e, s, w_new1 k⟩) q
end EB
namespace EB
open PySem L2
set_option maxHeartbeats 1000000
/-! ## the mathematics of trades: (kind, left, needed) -/
abbrev Tr := Str × Int × Int
/-- how many bottles the pieces of d drinks buy -/
def bo (ts : List Tr) (d : Int) : Int := (ts.map fun t => t.2.1 * d / t.2.2).sum
def Good (t : Tr) : Prop := 0 ≤ t.2.1 ∧ t.2.1 ≤ 12 ∧ 1 ≤ t.2.2 ∧ t.2.2 ≤ 12
def Goods (ts : List Tr) : Prop := ts.length ≤ 3 ∧ ∀ t ∈ ts, Good t
/-- not too generous -/
def Fair (ts : List Tr) : Prop := Goods ts ∧ 10 * bo ts 27720 ≤ 9 * 27720
theorem bo_nil (d : Int) : bo [] d = 0 := rfl
theorem bo_cons (t : Tr) (ts : List Tr) (d : Int) : bo (t :: ts) d = t.2.1 * d / t.2.2 + bo ts d := by simp [bo]
theorem Goods.tail {t : Tr} {ts : List Tr} (g : Goods (t :: ts)) : Goods ts := ⟨by have := g.1; simp at this; omega, fun u hu => g.2 u (List.mem_cons_of_mem _ hu)⟩
theorem Goods.head {t : Tr} {ts : List Tr} (g : Goods (t :: ts)) : Good t := g.2 t List.mem_cons_self

theorem bo_mono {ts : List Tr} (g : ∀ t ∈ ts, Good t) {d e : Int} (h : d ≤ e) : bo ts d ≤ bo ts e := by
  induction ts with
  | nil => simp [bo]
  | cons t ts ih =>
    obtain ⟨g1, _, g3, _⟩ := g t List.mem_cons_self
    have i := ih fun u hu => g u (List.mem_cons_of_mem _ hu)
    rw [bo_cons, bo_cons]
    have : t.2.1 * d / t.2.2 ≤ t.2.1 * e / t.2.2 := Int.ediv_le_ediv (by omega) (Int.mul_le_mul_of_nonneg_left h g1)
    omega
theorem bo_zero {ts : List Tr} : bo ts 0 = 0 := by
  induction ts with
  | nil => rfl
  | cons t ts ih => rw [bo_cons, ih]; simp
theorem bo_nonneg {ts : List Tr} (g : ∀ t ∈ ts, Good t) {d : Int} (h : 0 ≤ d) : 0 ≤ bo ts d := by
  have := bo_mono g h
  rw [bo_zero] at this
  exact this
theorem fdiv_add {n x y : Int} (hn : 0 < n) : x / n + y / n ≤ (x + y) / n := by
  rw [Int.le_ediv_iff_mul_le hn]
  have a := Int.ediv_mul_le x (Int.ne_of_gt hn)
  have b := Int.ediv_mul_le y (Int.ne_of_gt hn)
  rw [Int.add_mul]
  omega
theorem bo_super {ts : List Tr} (g : ∀ t ∈ ts, Good t) (d e : Int) : bo ts d + bo ts e ≤ bo ts (d + e) := by
  induction ts with
  | nil => simp [bo]
  | cons t ts ih =>
    obtain ⟨_, _, g3, _⟩ := g t List.mem_cons_self
    have i := ih fun u hu => g u (List.mem_cons_of_mem _ hu)
    rw [bo_cons, bo_cons, bo_cons, Int.mul_add]
    have := fdiv_add (n := t.2.2) (x := t.2.1 * d) (y := t.2.1 * e) (by omega)
    omega
/-- all needs divide 27720 -/
theorem need_dvd {n : Int} (h1 : 1 ≤ n) (h2 : n ≤ 12) : n ∣ 27720 := by
  have : n = 1 ∨ n = 2 ∨ n = 3 ∨ n = 4 ∨ n = 5 ∨ n = 6 ∨ n = 7 ∨ n = 8 ∨ n = 9 ∨ n = 10 ∨ n = 11 ∨ n = 12 := by omega
  rcases this with h | h | h | h | h | h | h | h | h | h | h | h <;> subst h <;> decide
/-- what one kind buys, against its worth -/
theorem one_le {l n d : Int} (h1 : 1 ≤ n) (h2 : n ≤ 12) : 27720 * (l * d / n) ≤ d * (l * 27720 / n) := by
  obtain ⟨c, hc⟩ := need_dvd h1 h2
  have e : l * 27720 / n = l * c := by rw [hc, show l * (n * c) = n * (l * c) by rw [← Int.mul_assoc, Int.mul_comm l n, Int.mul_assoc], Int.mul_ediv_cancel_left _ (by omega)]
  have hc0 : 0 ≤ c := by
    rcases Int.lt_or_le c 0 with h | h
    · have : n * c < 0 := Int.mul_neg_of_pos_of_neg (by omega) h
      omega
    · exact h
  have a := Int.mul_ediv_self_le (x := l * d) (k := n) (by omega)
  have b := Int.mul_le_mul_of_nonneg_left a hc0
  rw [e, hc]
  have e1 : n * c * (l * d / n) = c * (n * (l * d / n)) := by rw [← Int.mul_assoc, Int.mul_comm c n]
  have e2 : d * (l * c) = c * (l * d) := by rw [← Int.mul_assoc, Int.mul_comm (d * l) c, Int.mul_comm d l]
  rw [e1, e2]
  exact b
theorem one_ge {l n d : Int} (h1 : 1 ≤ n) (h2 : n ≤ 12) : d * (l * 27720 / n) < 27720 * (l * d / n) + 27720 := by
  obtain ⟨c, hc⟩ := need_dvd h1 h2
  have e : l * 27720 / n = l * c := by rw [hc, show l * (n * c) = n * (l * c) by rw [← Int.mul_assoc, Int.mul_comm l n, Int.mul_assoc], Int.mul_ediv_cancel_left _ (by omega)]
  have hc0 : 0 < c := by
    rcases Int.lt_or_le 0 c with h | h
    · exact h
    · have : n * c ≤ 0 := Int.mul_nonpos_of_nonneg_of_nonpos (by omega) h
      omega
  have a := Int.lt_mul_ediv_self_add (x := l * d) (k := n) (by omega)
  have b := Int.mul_lt_mul_of_pos_left a hc0
  rw [e]
  have e1 : 27720 * (l * d / n) = c * (n * (l * d / n)) := by rw [hc, ← Int.mul_assoc, Int.mul_comm c n]
  have e2 : d * (l * c) = c * (l * d) := by rw [← Int.mul_assoc, Int.mul_comm (d * l) c, Int.mul_comm d l]
  have e3 : c * (n * (l * d / n) + n) = c * (n * (l * d / n)) + 27720 := by rw [Int.mul_add, Int.mul_comm c n, ← hc]
  rw [e1, e2]
  omega
theorem bo_le {ts : List Tr} (g : ∀ t ∈ ts, Good t) (d : Int) : 27720 * bo ts d ≤ d * bo ts 27720 := by
  induction ts with
  | nil => simp [bo]
  | cons t ts ih =>
    obtain ⟨_, _, g3, g4⟩ := g t List.mem_cons_self
    have i := ih fun u hu => g u (List.mem_cons_of_mem _ hu)
    rw [bo_cons, bo_cons, Int.mul_add, Int.mul_add]
    have := one_le (l := t.2.1) (d := d) g3 g4
    omega
theorem bo_ge {ts : List Tr} (g : ∀ t ∈ ts, Good t) (d : Int) : d * bo ts 27720 ≤ 27720 * bo ts d + 27720 * ts.length := by
  induction ts with
  | nil => simp [bo]
  | cons t ts ih =>
    obtain ⟨_, _, g3, g4⟩ := g t List.mem_cons_self
    have i := ih fun u hu => g u (List.mem_cons_of_mem _ hu)
    rw [bo_cons, bo_cons, Int.mul_add, Int.mul_add, List.length_cons]
    have := one_ge (l := t.2.1) (d := d) g3 g4
    have e : ((ts.length + 1 : Nat) : Int) = (ts.length : Int) + 1 := by omega
    rw [e]
    omega
/-- strictly, if there is a trade -/
theorem bo_gt {ts : List Tr} (g : ∀ t ∈ ts, Good t) (hn : 1 ≤ ts.length) (d : Int) : d * bo ts 27720 < 27720 * bo ts d + 27720 * ts.length := by
  cases ts with
  | nil => simp at hn
  | cons t ts =>
    obtain ⟨_, _, g3, g4⟩ := g t List.mem_cons_self
    have i := bo_ge (fun u hu => g u (List.mem_cons_of_mem _ hu)) d
    rw [bo_cons, bo_cons, Int.mul_add, Int.mul_add, List.length_cons]
    have := one_ge (l := t.2.1) (d := d) g3 g4
    have e : ((ts.length + 1 : Nat) : Int) = (ts.length : Int) + 1 := by omega
    rw [e]
    omega
/-- nine tenths at most -/
theorem bo_tenth {ts : List Tr} (f : Fair ts) {d : Int} (h : 0 ≤ d) : 10 * bo ts d ≤ 9 * d := by
  have a := bo_le f.1.2 d
  have b := Int.mul_le_mul_of_nonneg_left f.2 h
  have e : d * (10 * bo ts 27720) = 10 * (d * bo ts 27720) := by rw [← Int.mul_assoc, Int.mul_comm d 10, Int.mul_assoc]
  rw [e] at b
  omega

/-! ### the number of drinks: the least d with n + bought d ≤ d -/
structure IsTot (ts : List Tr) (n D : Int) : Prop where
  fix : n + bo ts D = D
  nn : 0 ≤ D
  least : ∀ e, 0 ≤ e → n + bo ts e ≤ e → D ≤ e
theorem IsTot.unique {ts : List Tr} {n D D' : Int} (h : IsTot ts n D) (h' : IsTot ts n D') : D = D' := by
  have a := h.least D' h'.nn (by rw [h'.fix]; exact Int.le_refl _)
  have b := h'.least D h.nn (by rw [h.fix]; exact Int.le_refl _)
  omega
open Classical in
noncomputable def drk (ts : List Tr) (n : Int) : Int := if h : ∃ D, IsTot ts n D then h.choose else 0
theorem drk_eq {ts : List Tr} {n D : Int} (h : IsTot ts n D) : drk ts n = D := by
  have ex : ∃ D, IsTot ts n D := ⟨D, h⟩
  unfold drk
  rw [dif_pos ex]
  exact ex.choose_spec.unique h
/-- iteration from below ends at a fixed point -/
theorem lp_ex {ts : List Tr} (g : ∀ t ∈ ts, Good t) {n B : Int} (hB : n + bo ts B ≤ B) : ∀ (k : Nat) (x : Int), (B - x).toNat ≤ k → x ≤ B → x ≤ n + bo ts x → ∃ D, x ≤ D ∧ n + bo ts D = D ∧ ∀ e, x ≤ e → n + bo ts e ≤ e → D ≤ e
  | 0, x, hk, hx, hp => ⟨x, Int.le_refl _, by
      have e : x = B := by omega
      subst e
      omega, fun e he _ => he⟩
  | k + 1, x, hk, hx, hp => by
    by_cases h : n + bo ts x = x
    · exact ⟨x, Int.le_refl _, h, fun e he _ => he⟩
    · have m : n + bo ts x ≤ B := by have := bo_mono g hx; omega
      have m2 := bo_mono g hp
      obtain ⟨D, d1, d2, d3⟩ := lp_ex g hB k (n + bo ts x) (by omega) m (by omega)
      refine ⟨D, by omega, d2, fun e he hp' => d3 e ?_ hp'⟩
      have := bo_mono g he
      omega
theorem tot_ex {ts : List Tr} (f : Fair ts) {n : Int} (hn : 0 ≤ n) : ∃ D, IsTot ts n D := by
  have b10 := bo_tenth f (d := 10 * n) (by omega)
  obtain ⟨D, d1, d2, d3⟩ := lp_ex f.1.2 (n := n) (B := 10 * n) (by omega) (10 * n - 0).toNat 0 (Nat.le_refl _) (by omega) (by rw [bo_zero]; omega)
  exact ⟨D, d2, d1, fun e he hp => d3 e he hp⟩
theorem drk_spec {ts : List Tr} (f : Fair ts) {n : Int} (hn : 0 ≤ n) : IsTot ts n (drk ts n) := by
  obtain ⟨D, h⟩ := tot_ex f hn
  rw [drk_eq h]
  exact h
theorem drk_ge {ts : List Tr} (f : Fair ts) {n : Int} (hn : 0 ≤ n) : n ≤ drk ts n := by
  have h := drk_spec f hn
  have := bo_nonneg f.1.2 h.nn
  have := h.fix
  omega
theorem drk_le {ts : List Tr} (f : Fair ts) {n : Int} (hn : 0 ≤ n) : drk ts n ≤ 10 * n := by
  have h := drk_spec f hn
  have := bo_tenth f h.nn
  have := h.fix
  omega
theorem drk_zero {ts : List Tr} (f : Fair ts) : drk ts 0 = 0 := by
  have a := drk_ge f (n := 0) (by omega)
  have b := drk_le f (n := 0) (by omega)
  omega
theorem drk_mono {ts : List Tr} (f : Fair ts) {a b : Int} (ha : 0 ≤ a) (h : a ≤ b) : drk ts a ≤ drk ts b := by
  have x := drk_spec f ha
  have y := drk_spec f (n := b) (by omega)
  refine x.least _ y.nn ?_
  have := y.fix
  omega
/-- together at least as many as each by itself -/
theorem drk_super {ts : List Tr} (f : Fair ts) {a b : Int} (ha : 0 ≤ a) (hb : 0 ≤ b) : drk ts a + drk ts b ≤ drk ts (a + b) := by
  have x := drk_spec f ha
  have y := drk_spec f hb
  have z := drk_spec f (n := a + b) (by omega)
  have m := drk_mono f hb (b := a + b) (by omega)
  have s := bo_super f.1.2 (drk ts (a + b) - drk ts b) (drk ts b)
  have l := x.least (drk ts (a + b) - drk ts b) (by omega) (by
    rw [show drk ts (a + b) - drk ts b + drk ts b = drk ts (a + b) by omega] at s
    have := y.fix
    have := z.fix
    omega)
  omega
end EB
namespace EB
open PySem L2
set_option maxHeartbeats 1000000
/-! ## multiples, the period -/
def gcdI (a b : Int) : Int := (Int.gcd a b : Int)
def lcmI (a b : Int) : Int := a / gcdI a b * b
def ndm (ts : List Tr) : Int := ts.foldl (fun f t => lcmI f t.2.2) 1
def pc (t : Tr) : Int := t.2.2 / gcdI t.2.1 t.2.2
def perd (ts : List Tr) : Int := ts.foldl (fun f t => lcmI f (pc t)) 1
theorem gcdI_pos {a b : Int} (hb : 0 < b) : 0 < gcdI a b := by
  unfold gcdI
  have : Int.gcd a b ≠ 0 := fun h => by
    rw [Int.gcd_eq_zero_iff] at h
    omega
  omega
theorem gcdI_le {a b : Int} (hb : 0 < b) : gcdI a b ≤ b := Int.le_of_dvd hb (Int.gcd_dvd_right ..)
theorem gcdI_dl {a b : Int} : gcdI a b ∣ a := Int.gcd_dvd_left ..
theorem gcdI_dr {a b : Int} : gcdI a b ∣ b := Int.gcd_dvd_right ..
theorem lcmI_eq {a b : Int} (ha : 0 < a) (hb : 0 < b) : lcmI a b = (Int.lcm a b : Int) := by
  unfold lcmI
  have h1 : gcdI a b * (Int.lcm a b : Int) = a * b := by
    unfold gcdI
    have := Int.gcd_mul_lcm a b
    have h2 : ((Int.gcd a b * Int.lcm a b : Nat) : Int) = a * b := by
      rw [this]
      have e1 : ((a.natAbs : Nat) : Int) = a := Int.natAbs_of_nonneg (by omega)
      have e2 : ((b.natAbs : Nat) : Int) = b := Int.natAbs_of_nonneg (by omega)
      rw [Int.natCast_mul, e1, e2]
    rw [← h2, Int.natCast_mul]
  have g := gcdI_pos (a := a) hb
  obtain ⟨c, hc⟩ := gcdI_dl (a := a) (b := b)
  have e : a / gcdI a b = c := by
    conv => lhs; lhs; rw [hc]
    exact Int.mul_ediv_cancel_left _ (by omega)
  rw [e]
  have h3 : gcdI a b * (Int.lcm a b : Int) = gcdI a b * (c * b) := by
    rw [h1]
    conv => lhs; lhs; rw [hc]
    rw [Int.mul_assoc]
  exact (Int.eq_of_mul_eq_mul_left (by omega) h3).symm
theorem lcmI_pos {a b : Int} (ha : 0 < a) (hb : 0 < b) : 0 < lcmI a b := by
  rw [lcmI_eq ha hb]
  have : Int.lcm a b ≠ 0 := fun h => by
    rw [Int.lcm_eq_zero_iff] at h
    omega
  omega
theorem lcmI_dl {a b : Int} (ha : 0 < a) (hb : 0 < b) : a ∣ lcmI a b := by
  rw [lcmI_eq ha hb]
  exact Int.dvd_lcm_left ..
theorem lcmI_dr {a b : Int} (ha : 0 < a) (hb : 0 < b) : b ∣ lcmI a b := by
  rw [lcmI_eq ha hb]
  exact Int.dvd_lcm_right ..
theorem lcmI_min {a b m : Int} (ha : 0 < a) (hb : 0 < b) (h1 : a ∣ m) (h2 : b ∣ m) : lcmI a b ∣ m := by
  rw [lcmI_eq ha hb]
  exact Int.coe_lcm_dvd h1 h2
/-- folds of least common multiples -/
theorem fold_lcm (f : Tr → Int) : ∀ (ts : List Tr) (x : Int), (∀ t ∈ ts, 0 < f t) → 0 < x →
    0 < ts.foldl (fun y t => lcmI y (f t)) x ∧ x ∣ ts.foldl (fun y t => lcmI y (f t)) x ∧ (∀ t ∈ ts, f t ∣ ts.foldl (fun y t => lcmI y (f t)) x) ∧
      ∀ m, x ∣ m → (∀ t ∈ ts, f t ∣ m) → ts.foldl (fun y t => lcmI y (f t)) x ∣ m
  | [], x, _, hx => ⟨hx, Int.dvd_refl _, fun _ h => by simp at h, fun _ h _ => h⟩
  | t :: ts, x, ht, hx => by
    have h1 := ht t List.mem_cons_self
    obtain ⟨a, b, c, d⟩ := fold_lcm f ts (lcmI x (f t)) (fun u hu => ht u (List.mem_cons_of_mem _ hu)) (lcmI_pos hx h1)
    refine ⟨a, Int.dvd_trans (lcmI_dl hx h1) b, fun u hu => ?_, fun m hm hf => ?_⟩
    · rcases List.mem_cons.mp hu with rfl | hu
      · exact Int.dvd_trans (lcmI_dr hx h1) b
      · exact c u hu
    · exact d m (lcmI_min hx h1 hm (hf t List.mem_cons_self)) fun u hu => hf u (List.mem_cons_of_mem _ hu)
theorem pc_pos {t : Tr} (g : Good t) : 0 < pc t := by
  obtain ⟨_, _, g3, _⟩ := g
  unfold pc
  have a := gcdI_pos (a := t.2.1) (b := t.2.2) (by omega)
  exact Int.ediv_pos_of_pos_of_dvd (by omega) (by omega) gcdI_dr
theorem pc_mul {t : Tr} : gcdI t.2.1 t.2.2 * pc t = t.2.2 := Int.mul_ediv_cancel' gcdI_dr
theorem pc_dvd {t : Tr} : pc t ∣ t.2.2 := ⟨gcdI t.2.1 t.2.2, by rw [Int.mul_comm]; exact pc_mul.symm⟩
/-- the needed pieces divide what d drinks leave, just if d is a multiple of pc -/
theorem pc_fit {t : Tr} {d : Int} (h : pc t ∣ d) : t.2.2 ∣ t.2.1 * d := by
  obtain ⟨c, rfl⟩ := h
  obtain ⟨q, hq⟩ := gcdI_dl (a := t.2.1) (b := t.2.2)
  refine ⟨q * c, ?_⟩
  have e := pc_mul (t := t)
  generalize gcdI t.2.1 t.2.2 = G at *
  rw [hq, ← e]
  simp only [Int.mul_assoc, Int.mul_left_comm]
theorem pc_of_fit {t : Tr} {d : Int} (g : Good t) (h : t.2.2 ∣ t.2.1 * d) : pc t ∣ d := by
  obtain ⟨_, _, g3, _⟩ := g
  have gp := gcdI_pos (a := t.2.1) (b := t.2.2) (by omega)
  obtain ⟨q, hq⟩ := gcdI_dl (a := t.2.1) (b := t.2.2)
  have e := pc_mul (t := t)
  have cop : Int.gcd q (pc t) = 1 := by
    have h1 : (Int.gcd t.2.1 t.2.2 : Int) = gcdI t.2.1 t.2.2 * (Int.gcd q (pc t) : Int) := by
      have h2 : Int.gcd (gcdI t.2.1 t.2.2 * q) (gcdI t.2.1 t.2.2 * pc t) = (gcdI t.2.1 t.2.2).natAbs * Int.gcd q (pc t) := Int.gcd_mul_left ..
      rw [← hq, e] at h2
      rw [h2, Int.natCast_mul, Int.natAbs_of_nonneg (by omega)]
    have h3 : gcdI t.2.1 t.2.2 * 1 = gcdI t.2.1 t.2.2 * (Int.gcd q (pc t) : Int) := by
      rw [Int.mul_one]
      exact h1
    have := Int.eq_of_mul_eq_mul_left (by omega) h3
    omega
  have h4 : pc t ∣ q * d := by
    obtain ⟨k, hk⟩ := h
    refine ⟨k, ?_⟩
    have h5 : gcdI t.2.1 t.2.2 * (q * d) = gcdI t.2.1 t.2.2 * (pc t * k) := by
      rw [← Int.mul_assoc, ← hq, hk, ← Int.mul_assoc, e]
    exact Int.eq_of_mul_eq_mul_left (by omega) h5
  have h6 : Nat.Coprime (pc t).natAbs q.natAbs := by
    show Nat.gcd (pc t).natAbs q.natAbs = 1
    rw [Nat.gcd_comm]
    exact cop
  rw [← Int.natAbs_dvd_natAbs] at h4 ⊢
  rw [Int.natAbs_mul] at h4
  exact Nat.Coprime.dvd_of_dvd_mul_left h6 h4
theorem perd_pos {ts : List Tr} (g : ∀ t ∈ ts, Good t) : 0 < perd ts := (fold_lcm pc ts 1 (fun t h => pc_pos (g t h)) (by decide)).1
theorem perd_fit {ts : List Tr} (g : ∀ t ∈ ts, Good t) : ∀ t ∈ ts, t.2.2 ∣ t.2.1 * perd ts := fun t h => pc_fit ((fold_lcm pc ts 1 (fun t h => pc_pos (g t h)) (by decide)).2.2.1 t h)
theorem perd_min {ts : List Tr} (g : ∀ t ∈ ts, Good t) {d : Int} (h : ∀ t ∈ ts, t.2.2 ∣ t.2.1 * d) : perd ts ∣ d :=
  (fold_lcm pc ts 1 (fun t h => pc_pos (g t h)) (by decide)).2.2.2 d (Int.one_dvd d) fun t ht => pc_of_fit (g t ht) (h t ht)
theorem perd_le {ts : List Tr} (g : ∀ t ∈ ts, Good t) : perd ts ≤ 27720 :=
  Int.le_of_dvd (by decide) ((fold_lcm pc ts 1 (fun t h => pc_pos (g t h)) (by decide)).2.2.2 27720 (Int.one_dvd _) fun t ht => Int.dvd_trans pc_dvd (need_dvd (g t ht).2.2.1 (g t ht).2.2.2))
theorem ndm_pos {ts : List Tr} (g : ∀ t ∈ ts, Good t) : 0 < ndm ts := (fold_lcm (fun t => t.2.2) ts 1 (fun t h => by have := (g t h).2.2.1; omega) (by decide)).1
theorem ndm_dvd {ts : List Tr} (g : ∀ t ∈ ts, Good t) : ∀ t ∈ ts, t.2.2 ∣ ndm ts := (fold_lcm (fun t => t.2.2) ts 1 (fun t h => by have := (g t h).2.2.1; omega) (by decide)).2.2.1
theorem ndm_le {ts : List Tr} (g : ∀ t ∈ ts, Good t) : ndm ts ≤ 27720 :=
  Int.le_of_dvd (by decide) ((fold_lcm (fun t => t.2.2) ts 1 (fun t h => by have := (g t h).2.2.1; omega) (by decide)).2.2.2 27720 (Int.one_dvd _) fun t ht => need_dvd (g t ht).2.2.1 (g t ht).2.2.2)
/-- what is bought exactly -/
theorem bo_exact {ts : List Tr} (g : ∀ t ∈ ts, Good t) {d : Int} (h : ∀ t ∈ ts, t.2.2 ∣ t.2.1 * d) : 27720 * bo ts d = d * bo ts 27720 := by
  induction ts with
  | nil => simp [bo]
  | cons t ts ih =>
    obtain ⟨_, _, g3, g4⟩ := g t List.mem_cons_self
    have i := ih (fun u hu => g u (List.mem_cons_of_mem _ hu)) fun u hu => h u (List.mem_cons_of_mem _ hu)
    rw [bo_cons, bo_cons, Int.mul_add, Int.mul_add, i]
    congr 1
    obtain ⟨c, hc⟩ := need_dvd g3 g4
    obtain ⟨q, hq⟩ := h t List.mem_cons_self
    have e : t.2.1 * 27720 / t.2.2 = t.2.1 * c := by rw [hc, show t.2.1 * (t.2.2 * c) = t.2.2 * (t.2.1 * c) by rw [← Int.mul_assoc, Int.mul_comm t.2.1, Int.mul_assoc], Int.mul_ediv_cancel_left _ (by omega)]
    have e2 : t.2.1 * d / t.2.2 = q := by rw [hq, Int.mul_ediv_cancel_left _ (by omega)]
    rw [e, e2, ← Int.mul_assoc d, Int.mul_comm d, hq, hc]
    simp only [Int.mul_assoc, Int.mul_left_comm, Int.mul_comm]
theorem bo_shift {ts : List Tr} (g : ∀ t ∈ ts, Good t) {p : Int} (h : ∀ t ∈ ts, t.2.2 ∣ t.2.1 * p) (d : Int) : bo ts (d + p) = bo ts d + bo ts p := by
  induction ts with
  | nil => simp [bo]
  | cons t ts ih =>
    obtain ⟨_, _, g3, g4⟩ := g t List.mem_cons_self
    have i := ih (fun u hu => g u (List.mem_cons_of_mem _ hu)) fun u hu => h u (List.mem_cons_of_mem _ hu)
    rw [bo_cons, bo_cons, bo_cons, i, Int.mul_add]
    obtain ⟨q, hq⟩ := h t List.mem_cons_self
    have e2 : (t.2.1 * d + t.2.1 * p) / t.2.2 = t.2.1 * d / t.2.2 + q := by rw [hq, Int.add_mul_ediv_left _ _ (by omega)]
    have e3 : t.2.1 * p / t.2.2 = q := by rw [hq, Int.mul_ediv_cancel_left _ (by omega)]
    rw [e2, e3]
    omega
def nd (ts : List Tr) : Int := perd ts - bo ts (perd ts)
theorem nd_pos {ts : List Tr} (f : Fair ts) : 0 < nd ts := by
  have p := perd_pos f.1.2
  have b := bo_tenth f (d := perd ts) (by omega)
  unfold nd
  omega
theorem nd_le {ts : List Tr} (f : Fair ts) : nd ts ≤ 27720 := by
  have p := perd_pos f.1.2
  have q := perd_le f.1.2
  have b := bo_nonneg f.1.2 (d := perd ts) (by omega)
  unfold nd
  omega
theorem nd_eq {ts : List Tr} (f : Fair ts) : 27720 * nd ts = perd ts * (27720 - bo ts 27720) := by
  have e := bo_exact f.1.2 (perd_fit f.1.2)
  unfold nd
  rw [Int.mul_sub, e, Int.mul_sub, Int.mul_comm 27720]
/-- where the search of total starts -/
def st0 (ts : List Tr) (n : Int) : Int := (n - 3) * perd ts / nd ts
theorem st0_le {ts : List Tr} (f : Fair ts) (h1 : 1 ≤ ts.length) {n e : Int} (hp : n + bo ts e ≤ e) : st0 ts n ≤ e := by
  have np := nd_pos f
  have pp := perd_pos f.1.2
  have l3 := f.1.1
  have b := bo_gt f.1.2 h1 e
  have k : 27720 * (n - 3) ≤ e * (27720 - bo ts 27720) := by
    have e9 : e * (27720 - bo ts 27720) = e * 27720 - e * bo ts 27720 := Int.mul_sub ..
    rw [e9]
    omega
  have k2 : perd ts * (27720 * (n - 3)) ≤ perd ts * (e * (27720 - bo ts 27720)) := Int.mul_le_mul_of_nonneg_left k (by omega)
  have k3 : 27720 * ((n - 3) * perd ts) ≤ 27720 * (e * nd ts) := by
    have e1 : 27720 * (e * nd ts) = e * (27720 * nd ts) := by rw [← Int.mul_assoc, Int.mul_comm 27720 e, Int.mul_assoc]
    have e2 : perd ts * (e * (27720 - bo ts 27720)) = e * (perd ts * (27720 - bo ts 27720)) := by rw [← Int.mul_assoc, Int.mul_comm (perd ts) e, Int.mul_assoc]
    have e3 : perd ts * (27720 * (n - 3)) = 27720 * ((n - 3) * perd ts) := by rw [Int.mul_comm (n - 3), ← Int.mul_assoc, Int.mul_comm (perd ts) 27720, Int.mul_assoc]
    rw [e1, nd_eq f, ← e2, ← e3]
    exact k2
  have k4 : (n - 3) * perd ts ≤ e * nd ts := by omega
  unfold st0
  have := Int.ediv_le_ediv np k4
  rwa [Int.mul_ediv_cancel _ (by omega)] at this
theorem st0_up {ts : List Tr} (f : Fair ts) (h1 : 1 ≤ ts.length) {n : Int} : st0 ts n ≤ n + bo ts (st0 ts n) := by
  have np := nd_pos f
  have pp := perd_pos f.1.2
  have l3 := f.1.1
  have b := bo_gt f.1.2 h1 (st0 ts n)
  have h : st0 ts n * nd ts ≤ (n - 3) * perd ts := Int.ediv_mul_le _ (by omega)
  have k3 : 27720 * (st0 ts n * nd ts) ≤ 27720 * ((n - 3) * perd ts) := by omega
  have e1 : 27720 * (st0 ts n * nd ts) = perd ts * (st0 ts n * (27720 - bo ts 27720)) := by
    rw [show 27720 * (st0 ts n * nd ts) = st0 ts n * (27720 * nd ts) by rw [← Int.mul_assoc, Int.mul_comm 27720, Int.mul_assoc], nd_eq f, ← Int.mul_assoc, Int.mul_comm (st0 ts n), Int.mul_assoc]
  have e3 : 27720 * ((n - 3) * perd ts) = perd ts * (27720 * (n - 3)) := by rw [Int.mul_comm (n - 3), ← Int.mul_assoc, Int.mul_comm 27720 (perd ts), Int.mul_assoc]
  rw [e1, e3] at k3
  have k4 := Int.le_of_mul_le_mul_left k3 pp
  rw [Int.mul_sub, Int.mul_sub] at k4
  have : (27720 * (ts.length : Int)) ≤ 27720 * 3 := by omega
  omega
end EB
namespace EB
/-! ## credit; the fewest bottles; from when on drinks repeat -/
/-- the greatest number of drinks with credit -/
structure IsCred (ts : List Tr) (n D : Int) : Prop where
  pos : 0 ≤ D
  fix : n + bo ts D = D
  top : ∀ e, D < e → n + bo ts e < e
theorem IsCred.unique {ts : List Tr} {n D D' : Int} (h : IsCred ts n D) (h' : IsCred ts n D') : D = D' := by
  rcases Int.lt_trichotomy D D' with l | l | l
  · have := h.top D' l
    have := h'.fix
    omega
  · exact l
  · have := h'.top D l
    have := h.fix
    omega
/-- where the search begins: no number that the pieces pay for lies above -/
theorem cred_start {ts : List Tr} (f : Fair ts) {W : Int} (w0 : 0 < W) (hw : ∀ t ∈ ts, t.2.2 ∣ t.2.1 * W) {n d : Int} (h : d ≤ n + bo ts d) : d ≤ n * W / (W - bo ts W) := by
  have e1 := bo_exact f.1.2 hw
  have e2 := bo_le f.1.2 d
  have e3 := bo_tenth f (d := W) (by omega)
  have p : 0 < W - bo ts W := by omega
  rw [Int.le_ediv_iff_mul_le p]
  have q : 27720 * (bo ts d * W) ≤ 27720 * (d * bo ts W) := by
    have := Int.mul_le_mul_of_nonneg_right e2 (show 0 ≤ W by omega)
    calc 27720 * (bo ts d * W) = 27720 * bo ts d * W := by rw [Int.mul_assoc]
      _ ≤ d * bo ts 27720 * W := this
      _ = d * (W * bo ts 27720) := by rw [Int.mul_assoc, Int.mul_comm (bo ts 27720)]
      _ = d * (27720 * bo ts W) := by rw [e1]
      _ = 27720 * (d * bo ts W) := by rw [← Int.mul_assoc, ← Int.mul_assoc, Int.mul_comm d]
  have q2 : bo ts d * W ≤ d * bo ts W := by omega
  have q3 : d * W ≤ (n + bo ts d) * W := Int.mul_le_mul_of_nonneg_right h (by omega)
  rw [Int.add_mul] at q3
  rw [Int.mul_sub]
  omega
/-- a number at which the pieces pay, above all such: it is the credit -/
theorem cred_of {ts : List Tr} (f : Fair ts) {n D : Int} (hn : 0 ≤ n) (h : D ≤ n + bo ts D) (up : ∀ e, e ≤ n + bo ts e → e ≤ D) : IsCred ts n D := by
  have z : (0 : Int) ≤ D := up 0 (by rw [bo_zero]; omega)
  refine ⟨z, ?_, fun e he => ?_⟩
  · have := up (n + bo ts D) (by
      have := bo_mono f.1.2 h
      omega)
    omega
  · by_cases q : e ≤ n + bo ts e
    · have := up e q
      omega
    · omega
theorem cred_ge {ts : List Tr} (f : Fair ts) {n D : Int} (hn : 0 ≤ n) (c : IsCred ts n D) : drk ts n ≤ D := by
  obtain ⟨h1, h2, h3⟩ := drk_spec f hn
  by_cases q : drk ts n ≤ D
  · exact q
  · have := c.top (drk ts n) (by omega)
    omega
theorem cred_le {ts : List Tr} (f : Fair ts) {n D : Int} (c : IsCred ts n D) : D ≤ 10 * n := by
  have := bo_tenth f c.pos
  have := c.fix
  omega
/-- there is one -/
theorem cred_ex {ts : List Tr} (f : Fair ts) {n : Int} (hn : 0 ≤ n) : ∃ D, IsCred ts n D := by
  have fin : ∀ (k : Nat) (y : Int), y.toNat ≤ k → (∀ e, e ≤ n + bo ts e → e ≤ y) → ∃ D, IsCred ts n D := by
    intro k
    induction k with
    | zero =>
      intro y hy up
      have z := up 0 (by rw [bo_zero]; omega)
      have e : y = 0 := by omega
      subst e
      exact ⟨0, cred_of f hn (by rw [bo_zero]; omega) up⟩
    | succ k ih =>
      intro y hy up
      by_cases h : y ≤ n + bo ts y
      · exact ⟨y, cred_of f hn h up⟩
      · have z := up 0 (by rw [bo_zero]; omega)
        have b0 := bo_nonneg f.1.2 z
        refine ih (n + bo ts y) (by omega) fun e he => ?_
        have := bo_mono f.1.2 (up e he)
        omega
  refine fin _ (10 * n) (Nat.le_refl _) fun e he => ?_
  by_cases e0 : 0 ≤ e
  · have := bo_tenth f e0
    omega
  · omega
end EB
namespace EB
/-! ## from when on drinks repeat -/
/-- no number below none would do with b bottles -/
def Std (ts : List Tr) (b : Int) : Prop := ∀ d, -(perd ts) ≤ d → d < 0 → d < b + bo ts d
structure IsStd (ts : List Tr) (s : Int) : Prop where
  pos : 0 ≤ s
  three : s ≤ 3
  std : Std ts s
  first : 0 < s → ¬ Std ts (s - 1)
theorem Std.mono {ts : List Tr} {a b : Int} (h : Std ts a) (ab : a ≤ b) : Std ts b := fun d d1 d2 => by
  have := h d d1 d2
  omega
theorem IsStd.unique {ts : List Tr} {s t : Int} (h : IsStd ts s) (k : IsStd ts t) : s = t := by
  have one : ∀ {s t : Int}, IsStd ts s → IsStd ts t → ¬ s < t := fun {s t} h k l =>
    k.first (by have := h.pos; omega) (h.std.mono (by omega))
  have a := one h k
  have b := one k h
  omega
theorem std_three {ts : List Tr} (f : Fair ts) (h1 : 1 ≤ ts.length) : Std ts 3 := fun d d1 d2 => by
  have g := bo_gt f.1.2 h1 d
  have len := f.1.1
  have w : d * (9 * 27720) ≤ d * (10 * bo ts 27720) := by
    have : (-d) * (10 * bo ts 27720) ≤ (-d) * (9 * 27720) := Int.mul_le_mul_of_nonneg_left f.2 (by omega)
    rw [Int.neg_mul, Int.neg_mul] at this
    omega
  have e : d * (10 * bo ts 27720) = 10 * (d * bo ts 27720) := by rw [← Int.mul_assoc, Int.mul_comm d 10, Int.mul_assoc]
  omega
theorem bo_per {ts : List Tr} (f : Fair ts) (d : Int) : bo ts (d + perd ts) = bo ts d + bo ts (perd ts) := bo_shift f.1.2 (perd_fit f.1.2) d
theorem std_shift {ts : List Tr} (f : Fair ts) {n : Int} (hn : 0 ≤ n) (s : Std ts n) : drk ts (n + nd ts) = drk ts n + perd ts := by
  have t := drk_spec f hn
  have p := perd_pos f.1.2
  have q := bo_per f (drk ts n)
  have fx := t.fix
  have nn := t.nn
  refine drk_eq ⟨?_, by omega, fun e he hq => ?_⟩
  · unfold nd
    omega
  · have q2 := bo_per f (e - perd ts)
    rw [Int.sub_add_cancel] at q2
    unfold nd at hq
    by_cases e0 : 0 ≤ e - perd ts
    · have := t.least (e - perd ts) e0 (by omega)
      omega
    · have := s (e - perd ts) (by omega) (by omega)
      omega
theorem std_not {ts : List Tr} (f : Fair ts) {n : Int} (hn : 0 ≤ n) (s : ¬ Std ts n) : drk ts (n + nd ts) ≠ drk ts n + perd ts := by
  have np := nd_pos f
  have t := drk_spec f (n := n + nd ts) (by omega)
  have ge := drk_ge f hn
  intro e
  refine s fun d d1 d2 => ?_
  by_cases q : d < n + bo ts d
  · exact q
  · have q2 := bo_per f d
    have := t.least (d + perd ts) (by omega) (by unfold nd; omega)
    omega
theorem std_many {ts : List Tr} (f : Fair ts) {n : Int} (hn : 0 ≤ n) (s : Std ts n) : ∀ k : Nat, drk ts (n + k * nd ts) = drk ts n + k * perd ts
  | 0 => by simp
  | k + 1 => by
    have np := nd_pos f
    have kn : (0 : Int) ≤ (k : Int) * nd ts := Int.mul_nonneg (by omega) (by omega)
    have ih := std_many f hn s k
    have sh := std_shift f (n := n + k * nd ts) (by omega) (s.mono (by omega))
    rw [show ((k + 1 : Nat) : Int) = (k : Int) + 1 by omega, Int.add_mul, Int.add_mul, Int.one_mul, Int.one_mul, ← Int.add_assoc, sh, ih]
    omega
/-- there is one -/
theorem std_ex {ts : List Tr} (f : Fair ts) (h1 : 1 ≤ ts.length) : ∃ s, IsStd ts s := by
  have h3 := std_three f h1
  by_cases a : Std ts 0
  · exact ⟨0, by decide, by decide, a, fun z => absurd z (by decide)⟩
  by_cases b : Std ts 1
  · exact ⟨1, by decide, by decide, b, fun _ => a⟩
  by_cases c : Std ts 2
  · exact ⟨2, by decide, by decide, c, fun _ => b⟩
  · exact ⟨3, by decide, by decide, h3, fun _ => c⟩
end EB
namespace EB
theorem lcmI_small {a b x y : Int} (ha : 0 < a) (hb : 0 < b) (hx : a ≤ x) (hy : b ≤ y) : lcmI a b ≤ x * y := by
  have d : lcmI a b ∣ a * b := lcmI_min ha hb (Int.dvd_mul_right ..) (Int.dvd_mul_left ..)
  have p : 0 < a * b := Int.mul_pos ha hb
  have l := Int.le_of_dvd p d
  have m : a * b ≤ x * y := Int.mul_le_mul hx hy (by omega) (by omega)
  omega
theorem fold3_small (f : Tr → Int) : ∀ {ts : List Tr}, ts.length ≤ 3 → (∀ t ∈ ts, 0 < f t ∧ f t ≤ 12) → ts.foldl (fun y t => lcmI y (f t)) 1 ≤ 1728
  | [], _, _ => by
    show (1 : Int) ≤ 1728
    decide
  | [a], _, h => by
    obtain ⟨a0, a1⟩ := h a (by simp)
    have := lcmI_small (a := 1) (b := f a) (x := 1) (y := 12) (by decide) a0 (by decide) a1
    show lcmI 1 (f a) ≤ 1728
    omega
  | [a, b], _, h => by
    obtain ⟨a0, a1⟩ := h a (by simp)
    obtain ⟨b0, b1⟩ := h b (by simp)
    have p := lcmI_small (a := 1) (b := f a) (x := 1) (y := 12) (by decide) a0 (by decide) a1
    have q := lcmI_small (b := f b) (x := 12) (y := 12) (lcmI_pos (a := 1) (by decide) a0) b0 (by omega) b1
    show lcmI (lcmI 1 (f a)) (f b) ≤ 1728
    omega
  | [a, b, c], _, h => by
    obtain ⟨a0, a1⟩ := h a (by simp)
    obtain ⟨b0, b1⟩ := h b (by simp)
    obtain ⟨c0, c1⟩ := h c (by simp)
    have p := lcmI_small (a := 1) (b := f a) (x := 1) (y := 12) (by decide) a0 (by decide) a1
    have p1 := lcmI_pos (a := 1) (b := f a) (by decide) a0
    have q := lcmI_small (b := f b) (x := 12) (y := 12) p1 b0 (by omega) b1
    have r := lcmI_small (b := f c) (x := 144) (y := 12) (lcmI_pos p1 b0) c0 (by omega) c1
    show lcmI (lcmI (lcmI 1 (f a)) (f b)) (f c) ≤ 1728
    omega
  | a :: b :: c :: d :: r, l, _ => by
    simp at l
theorem perd_small {ts : List Tr} (g : Goods ts) : perd ts ≤ 1728 := fold3_small pc g.1 fun t ht => by
  have gt := g.2 t ht
  refine ⟨pc_pos gt, ?_⟩
  have := Int.le_of_dvd (show 0 < t.2.2 by have := gt.2.2.1; omega) (pc_dvd (t := t))
  have := gt.2.2.2
  omega
theorem ndm_small {ts : List Tr} (g : Goods ts) : ndm ts ≤ 1728 := fold3_small (fun t => t.2.2) g.1 fun t ht => by
  obtain ⟨_, _, a, b⟩ := g.2 t ht
  exact ⟨by omega, b⟩
theorem nd_small {ts : List Tr} (f : Fair ts) : nd ts ≤ 1728 := by
  have a := perd_small f.1
  have b := bo_nonneg f.1.2 (d := perd ts) (by have := perd_pos f.1.2; omega)
  unfold nd
  omega
end EB
namespace EB
/-! ## the fewest bottles -/
structure IsFew (ts : List Tr) (d F : Int) : Prop where
  pos : 0 ≤ F
  enough : d ≤ drk ts F
  least : ∀ n, 0 ≤ n → n < F → drk ts n < d
theorem IsFew.unique {ts : List Tr} {d F G : Int} (h : IsFew ts d F) (k : IsFew ts d G) : F = G := by
  rcases Int.lt_trichotomy F G with l | l | l
  · have := k.least F h.pos l
    have := h.enough
    omega
  · exact l
  · have := h.least G k.pos l
    have := k.enough
    omega
/-- where the search begins -/
def few0 (ts : List Tr) (d : Int) : Int := 0 - (0 - d * nd ts) / perd ts
theorem few0_spec {ts : List Tr} (f : Fair ts) (d : Int) : d * nd ts ≤ few0 ts d * perd ts ∧ (few0 ts d - 1) * perd ts < d * nd ts := by
  have p := perd_pos f.1.2
  have e := Int.mul_ediv_add_emod (0 - d * nd ts) (perd ts)
  have m0 := Int.emod_nonneg (0 - d * nd ts) (show perd ts ≠ 0 by omega)
  have m1 := Int.emod_lt_of_pos (0 - d * nd ts) p
  have c : perd ts * ((0 - d * nd ts) / perd ts) = (0 - d * nd ts) / perd ts * perd ts := Int.mul_comm ..
  unfold few0
  rw [Int.sub_mul, Int.sub_mul, Int.sub_mul]
  omega
theorem few0_pos {ts : List Tr} (f : Fair ts) {d : Int} (h : 0 ≤ d) : 0 ≤ few0 ts d := by
  have p := perd_pos f.1.2
  have n := nd_pos f
  obtain ⟨a, _⟩ := few0_spec f d
  have b : 0 ≤ d * nd ts := Int.mul_nonneg h (by omega)
  by_cases q : 0 ≤ few0 ts d
  · exact q
  · have : few0 ts d * perd ts < 0 := Int.mul_neg_of_neg_of_pos (by omega) p
    omega
/-- fewer do not give so many -/
theorem few0_least {ts : List Tr} (f : Fair ts) {d n : Int} (hn : 0 ≤ n) (h : d ≤ drk ts n) : few0 ts d ≤ n := by
  have p := perd_pos f.1.2
  have np := nd_pos f
  have t := drk_spec f hn
  have e := nd_eq f
  have b := bo_le f.1.2 (drk ts n)
  have fx := t.fix
  obtain ⟨_, c⟩ := few0_spec f d
  have g1 : drk ts n * (27720 - bo ts 27720) ≤ n * 27720 := by
    rw [Int.mul_sub]
    omega
  have g2 : 27720 * (drk ts n * nd ts) ≤ 27720 * (n * perd ts) := by
    have := Int.mul_le_mul_of_nonneg_right g1 (show 0 ≤ perd ts by omega)
    have e1 : drk ts n * (27720 - bo ts 27720) * perd ts = 27720 * (drk ts n * nd ts) := by
      rw [Int.mul_assoc, Int.mul_comm (27720 - bo ts 27720), ← e, ← Int.mul_assoc, Int.mul_comm (drk ts n) 27720, Int.mul_assoc]
    have e2 : n * 27720 * perd ts = 27720 * (n * perd ts) := by rw [Int.mul_comm n, Int.mul_assoc]
    omega
  have g3 : d * nd ts ≤ drk ts n * nd ts := Int.mul_le_mul_of_nonneg_right h (by omega)
  have g4 : (few0 ts d - 1) * perd ts < n * perd ts := by omega
  have := Int.lt_of_mul_lt_mul_right g4 (by omega)
  omega
/-- three more do -/
theorem few0_three {ts : List Tr} (f : Fair ts) (h1 : 1 ≤ ts.length) {d : Int} (h : 0 ≤ d) : d ≤ drk ts (few0 ts d + 3) := by
  have p := perd_pos f.1.2
  have np := nd_pos f
  have z := few0_pos f h
  have t := drk_spec f (n := few0 ts d + 3) (by omega)
  have e := nd_eq f
  have b := bo_gt f.1.2 h1 (drk ts (few0 ts d + 3))
  have l3 := f.1.1
  have fx := t.fix
  obtain ⟨c, _⟩ := few0_spec f d
  have g1 : few0 ts d * 27720 ≤ drk ts (few0 ts d + 3) * (27720 - bo ts 27720) := by
    rw [Int.mul_sub]
    omega
  have g2 : 27720 * (few0 ts d * perd ts) ≤ 27720 * (drk ts (few0 ts d + 3) * nd ts) := by
    have := Int.mul_le_mul_of_nonneg_right g1 (show 0 ≤ perd ts by omega)
    have e1 : drk ts (few0 ts d + 3) * (27720 - bo ts 27720) * perd ts = 27720 * (drk ts (few0 ts d + 3) * nd ts) := by
      rw [Int.mul_assoc, Int.mul_comm (27720 - bo ts 27720), ← e, ← Int.mul_assoc, Int.mul_comm (drk ts (few0 ts d + 3)) 27720, Int.mul_assoc]
    have e2 : few0 ts d * 27720 * perd ts = 27720 * (few0 ts d * perd ts) := by rw [Int.mul_comm (few0 ts d), Int.mul_assoc]
    omega
  exact Int.le_of_mul_le_mul_right (by omega : d * nd ts ≤ drk ts (few0 ts d + 3) * nd ts) np
/-- the first of these that gives so many -/
theorem few_at {ts : List Tr} (f : Fair ts) {d : Int} {j : Int} (h : 0 ≤ d) (j0 : 0 ≤ j) (en : d ≤ drk ts (few0 ts d + j)) (no : ∀ i, 0 ≤ i → i < j → drk ts (few0 ts d + i) < d) : IsFew ts d (few0 ts d + j) := by
  have z := few0_pos f h
  refine ⟨by omega, en, fun n n0 n1 => ?_⟩
  by_cases q : d ≤ drk ts n
  · have := few0_least f n0 q
    have := no (n - few0 ts d) (by omega) (by omega)
    rw [show few0 ts d + (n - few0 ts d) = n by omega] at this
    exact this
  · omega
theorem few_le {ts : List Tr} (f : Fair ts) {d F : Int} (h : 0 ≤ d) (k : IsFew ts d F) : F ≤ d := by
  by_cases q : F ≤ d
  · exact q
  · have := k.least d h (by omega)
    have := drk_ge f h
    omega
/-- d comes about -/
def Com (ts : List Tr) (d : Int) : Prop := ∃ n, 0 ≤ n ∧ drk ts n = d
theorem com_few {ts : List Tr} (f : Fair ts) {d F : Int} (k : IsFew ts d F) : drk ts F = d ↔ Com ts d := by
  refine ⟨fun e => ⟨F, k.pos, e⟩, fun ⟨n, n0, e⟩ => ?_⟩
  have le : F ≤ n := by
    by_cases q : F ≤ n
    · exact q
    · have := k.least n n0 (by omega)
      omega
  have := drk_mono f k.pos le
  have := k.enough
  omega
theorem drk_lt {ts : List Tr} (f : Fair ts) {a b : Int} (ha : 0 ≤ a) (h : a < b) : drk ts a < drk ts b := by
  have s := drk_super f ha (b := b - a) (by omega)
  have g := drk_ge f (n := b - a) (by omega)
  rw [show a + (b - a) = b by omega] at s
  omega
/-- there are such, whatever the number is -/
theorem few_ex {ts : List Tr} (f : Fair ts) (h1 : 1 ≤ ts.length) {d : Int} (h : 0 ≤ d) : ∃ F, IsFew ts d F := by
  have t := few0_three f h1 h
  by_cases a : d ≤ drk ts (few0 ts d + 0)
  · exact ⟨_, few_at f h (Int.le_refl _) a fun i i0 i1 => by omega⟩
  by_cases b : d ≤ drk ts (few0 ts d + 1)
  · exact ⟨_, few_at f h (by decide) b fun i i0 i1 => by
      obtain rfl : i = 0 := by omega
      omega⟩
  by_cases c : d ≤ drk ts (few0 ts d + 2)
  · exact ⟨_, few_at f h (by decide) c fun i i0 i1 => by
      rcases (by omega : i = 0 ∨ i = 1) with rfl | rfl <;> omega⟩
  · exact ⟨_, few_at f h (by decide) t fun i i0 i1 => by
      rcases (by omega : i = 0 ∨ i = 1 ∨ i = 2) with rfl | rfl | rfl <;> omega⟩
end EB
namespace EB
/-! ## offers compared for ever -/
/-- from s on, L bottles more change the difference by g -/
structure Cmp (ts us : List Tr) (s L g : Int) : Prop where
  s0 : 0 ≤ s
  l0 : 0 < L
  step : ∀ n, s ≤ n → drk ts (n + L) - drk us (n + L) = drk ts n - drk us n + g
def gainI (ts us : List Tr) : Int := lcmI (nd ts) (nd us) / nd ts * perd ts - lcmI (nd ts) (nd us) / nd us * perd us
theorem cmp_of {ts us : List Tr} (f : Fair ts) (f' : Fair us) {a b : Int} (ha : IsStd ts a) (hb : IsStd us b) : Cmp ts us (if a > b then a else b) (lcmI (nd ts) (nd us)) (gainI ts us) := by
  have p1 := nd_pos f
  have p2 := nd_pos f'
  have a0 := ha.pos
  have b0 := hb.pos
  refine ⟨by split <;> omega, lcmI_pos p1 p2, fun n hn => ?_⟩
  obtain ⟨k, hk⟩ := lcmI_dl p1 p2
  obtain ⟨l, hl⟩ := lcmI_dr p1 p2
  have lp := lcmI_pos p1 p2
  have k0 : 0 ≤ k := by
    by_cases q : 0 ≤ k
    · exact q
    · have : nd ts * k < 0 := Int.mul_neg_of_pos_of_neg p1 (by omega)
      omega
  have l0 : 0 ≤ l := by
    by_cases q : 0 ≤ l
    · exact q
    · have : nd us * l < 0 := Int.mul_neg_of_pos_of_neg p2 (by omega)
      omega
  obtain ⟨k', rfl⟩ : ∃ k' : Nat, k = k' := ⟨k.toNat, by omega⟩
  obtain ⟨l', rfl⟩ : ∃ l' : Nat, l = l' := ⟨l.toNat, by omega⟩
  have na : a ≤ n := by split at hn <;> omega
  have nb : b ≤ n := by split at hn <;> omega
  have m1 := std_many f (n := n) (by omega) (ha.std.mono na) k'
  have m2 := std_many f' (n := n) (by omega) (hb.std.mono nb) l'
  have d1 : lcmI (nd ts) (nd us) / nd ts = k' := by
    rw [hk]
    exact Int.mul_ediv_cancel_left _ (by omega)
  have d2 : lcmI (nd ts) (nd us) / nd us = l' := by
    rw [hl]
    exact Int.mul_ediv_cancel_left _ (by omega)
  have e1 : n + lcmI (nd ts) (nd us) = n + k' * nd ts := by rw [hk, Int.mul_comm]
  have e2 : n + lcmI (nd ts) (nd us) = n + l' * nd us := by
    rw [Int.mul_comm, ← hl]
  unfold gainI
  rw [d1, d2]
  rw [e1, m1, ← e1, e2, m2]
  omega
section
variable {ts us : List Tr} {s L g : Int}
theorem Cmp.many (c : Cmp ts us s L g) {n : Int} (hn : s ≤ n) : ∀ k : Nat, drk ts (n + k * L) - drk us (n + k * L) = drk ts n - drk us n + k * g
  | 0 => by simp
  | k + 1 => by
    have l0 := c.l0
    have kl : (0 : Int) ≤ (k : Int) * L := Int.mul_nonneg (by omega) (by omega)
    have ih := c.many hn k
    have st := c.step (n + k * L) (by omega)
    rw [show ((k + 1 : Nat) : Int) = (k : Int) + 1 by omega, Int.add_mul, Int.add_mul, Int.one_mul, Int.one_mul, ← Int.add_assoc, st, ih]
    omega
/-- never more drinks than the other -/
def Never (ts us : List Tr) : Prop := ∀ n, 0 ≤ n → drk ts n ≤ drk us n
def Same (ts us : List Tr) : Prop := ∀ n, 0 ≤ n → drk ts n = drk us n
theorem Cmp.down (c : Cmp ts us s L g) {P : Int → Prop} (h : ∀ n, 0 ≤ n → n ≤ s + L → P n) (st : ∀ n, s ≤ n → P n → P (n + L)) : ∀ n, 0 ≤ n → P n := by
  have l0 := c.l0
  have s0 := c.s0
  have all : ∀ (k : Nat) (n : Int), 0 ≤ n → n.toNat ≤ k → P n := by
    intro k
    induction k with
    | zero => exact fun n n0 nk => h n n0 (by omega)
    | succ k ih =>
      intro n n0 nk
      by_cases q : n ≤ s + L
      · exact h n n0 q
      · have := st (n - L) (by omega) (ih (n - L) (by omega) (by omega))
        rwa [Int.sub_add_cancel] at this
  exact fun n n0 => all n.toNat n n0 (Nat.le_refl _)
theorem Cmp.never (c : Cmp ts us s L g) (hg : g ≤ 0) (h : ∀ n, 0 ≤ n → n ≤ s + L → drk ts n ≤ drk us n) : Never ts us := c.down h fun n hn p => by
  have := c.step n hn
  omega
theorem Cmp.more (c : Cmp ts us s L g) (hg : 0 < g) : ¬ Never ts us := fun h => by
  have s0 := c.s0
  have l0 := c.l0
  have m := c.many (n := s) (Int.le_refl _) ((drk us s - drk ts s).toNat + 1)
  have kl : (0 : Int) ≤ (((drk us s - drk ts s).toNat + 1 : Nat) : Int) * L := Int.mul_nonneg (by omega) (by omega)
  have p := h _ (show 0 ≤ s + (((drk us s - drk ts s).toNat + 1 : Nat) : Int) * L by omega)
  have kg : (((drk us s - drk ts s).toNat + 1 : Nat) : Int) * 1 ≤ (((drk us s - drk ts s).toNat + 1 : Nat) : Int) * g := Int.mul_le_mul_of_nonneg_left (by omega) (by omega)
  omega
theorem Cmp.same (c : Cmp ts us s L g) (h : ∀ n, 0 ≤ n → n ≤ s + L → drk ts n = drk us n) : Same ts us := by
  have l0 := c.l0
  have s0 := c.s0
  have z : g = 0 := by
    have a := c.step s (Int.le_refl _)
    have b := h s s0 (by omega)
    have d := h (s + L) (by omega) (Int.le_refl _)
    omega
  exact c.down h fun n hn p => by
    have := c.step n hn
    omega
end
end EB
namespace EB
/-! ## offers that buy the same -/
section
variable {ts us : List Tr}
theorem same_drk (f : Fair ts) (h : ∀ d, bo us d = bo ts d) {n : Int} (hn : 0 ≤ n) : drk us n = drk ts n := by
  have t := drk_spec f hn
  exact drk_eq ⟨by rw [h]; exact t.fix, t.nn, fun e e0 hp => t.least e e0 (by rw [← h]; exact hp)⟩
theorem same_cred (h : ∀ d, bo us d = bo ts d) {n D : Int} (c : IsCred us n D) : IsCred ts n D :=
  ⟨c.pos, by rw [← h]; exact c.fix, fun e he => by rw [← h]; exact c.top e he⟩
theorem same_perd (g : ∀ t ∈ ts, Good t) (g' : ∀ t ∈ us, Good t) (h : ∀ d : Int, (∀ t ∈ us, t.2.2 ∣ t.2.1 * d) ↔ ∀ t ∈ ts, t.2.2 ∣ t.2.1 * d) : perd us = perd ts := by
  have a := perd_min g' ((h _).mpr (perd_fit g))
  have b := perd_min g ((h _).mp (perd_fit g'))
  have p := perd_pos g
  have q := perd_pos g'
  have := Int.le_of_dvd p a
  have := Int.le_of_dvd q b
  omega
theorem less_drk (f : Fair ts) (f' : Fair us) (h : ∀ d, 0 ≤ d → bo us d ≤ bo ts d) {n : Int} (hn : 0 ≤ n) : drk us n ≤ drk ts n := by
  have t := drk_spec f hn
  refine (drk_spec f' hn).least _ t.nn ?_
  have := h _ t.nn
  have := t.fix
  omega
theorem bo_rev (d : Int) : bo ts.reverse d = bo ts d := by
  unfold bo
  rw [List.map_reverse]
  induction ts with
  | nil => rfl
  | cons t ts ih =>
    rw [List.map_cons, List.reverse_cons, List.sum_append, List.sum_cons, List.sum_cons, List.sum_nil, ih]
    omega
/-- twice as much of all -/
def dbl (t : Tr) : Tr := (t.1, 2 * t.2.1, 2 * t.2.2)
theorem bo_dbl (d : Int) : bo (ts.map dbl) d = bo ts d := by
  unfold bo
  rw [List.map_map]
  congr 1
  refine List.map_congr_left fun t _ => ?_
  show 2 * t.2.1 * d / (2 * t.2.2) = t.2.1 * d / t.2.2
  rw [Int.mul_assoc]
  exact Int.mul_ediv_mul_of_pos _ _ (by decide)
theorem bo_more {x : PySem.Str} {n d : Int} : bo (ts ++ [(x, 0, n)]) d = bo ts d := by
  simp [bo]
end
end EB
namespace EB
/-! ## from when on one offer is better -/
section
variable {ts us : List Tr} {s L g : Int}
/-- behind each number the first gives no more at some number -/
def Worse (ts us : List Tr) : Prop := ∀ N : Int, ∃ n, N ≤ n ∧ 0 ≤ n ∧ drk ts n ≤ drk us n
def rateI (ts us : List Tr) : Int := perd ts * nd us - perd us * nd ts
theorem Cmp.worse0 (c : Cmp ts us s L g) (hg : g ≤ 0) {n : Int} (hn : s ≤ n) (h : drk ts n ≤ drk us n) : Worse ts us := fun N => by
  have l0 := c.l0
  have s0 := c.s0
  have m := c.many hn (N - n).toNat
  have kl : ((N - n).toNat : Int) * 1 ≤ ((N - n).toNat : Int) * L := Int.mul_le_mul_of_nonneg_left (by omega) (by omega)
  have kg : ((N - n).toNat : Int) * g ≤ 0 := Int.mul_nonpos_of_nonneg_of_nonpos (by omega) hg
  exact ⟨n + ((N - n).toNat : Int) * L, by omega, by omega, by omega⟩
theorem Cmp.worse (c : Cmp ts us s L g) (hg : g < 0) : Worse ts us := by
  have l0 := c.l0
  have s0 := c.s0
  have m := c.many (n := s) (Int.le_refl _) (drk ts s - drk us s).toNat
  have kl : 0 ≤ ((drk ts s - drk us s).toNat : Int) * L := Int.mul_nonneg (by omega) (by omega)
  have kg : ((drk ts s - drk us s).toNat : Int) * g ≤ ((drk ts s - drk us s).toNat : Int) * (-1) := Int.mul_le_mul_of_nonneg_left (by omega) (by omega)
  exact c.worse0 (by omega) (n := s + ((drk ts s - drk us s).toNat : Int) * L) (by omega) (by omega)
/-- two views of the same change -/
theorem Cmp.cross {s' L' g' : Int} (c : Cmp ts us s L g) (d : Cmp ts us s' L' g') : L' * g = L * g' := by
  have l0 := c.l0
  have l1 := d.l0
  have e1 := c.many (n := s + s') (by have := d.s0; omega) L'.toNat
  have e2 := d.many (n := s + s') (by have := c.s0; omega) L.toNat
  rw [Int.toNat_of_nonneg (by omega)] at e1 e2
  rw [Int.mul_comm L' L] at e1
  omega
theorem Cmp.rate (c : Cmp ts us s L g) (f : Fair ts) (f' : Fair us) (h1 : 1 ≤ ts.length) (h2 : 1 ≤ us.length) : nd ts * nd us * g = L * rateI ts us := by
  obtain ⟨a, ha⟩ := std_ex f h1
  obtain ⟨b, hb⟩ := std_ex f' h2
  have x := c.cross (cmp_of f f' ha hb)
  have p1 := nd_pos f
  have p2 := nd_pos f'
  have lp := lcmI_pos p1 p2
  obtain ⟨k, hk⟩ := lcmI_dl p1 p2
  obtain ⟨l, hl⟩ := lcmI_dr p1 p2
  have d1 : lcmI (nd ts) (nd us) / nd ts = k := by
    rw [hk]
    exact Int.mul_ediv_cancel_left _ (by omega)
  have d2 : lcmI (nd ts) (nd us) / nd us = l := by
    rw [hl]
    exact Int.mul_ediv_cancel_left _ (by omega)
  unfold gainI at x
  rw [d1, d2] at x
  generalize lcmI (nd ts) (nd us) = M at x hk hl lp
  have y : M * (nd ts * nd us * g) = M * (L * rateI ts us) := by
    have q1 : M * (nd ts * nd us * g) = nd ts * nd us * (M * g) := by rw [← Int.mul_assoc, Int.mul_comm M, Int.mul_assoc]
    rw [q1, x]
    unfold rateI
    have q2 : nd ts * nd us * (L * (k * perd ts - l * perd us)) = L * ((nd ts * k) * (perd ts * nd us) - (nd us * l) * (perd us * nd ts)) := by
      simp only [Int.mul_sub, Int.mul_assoc, Int.mul_left_comm, Int.mul_comm]
    rw [q2, ← hk, ← hl, ← Int.mul_sub, ← Int.mul_assoc, Int.mul_comm L M, Int.mul_assoc]
  exact Int.eq_of_mul_eq_mul_left (by omega) y
theorem Cmp.sign (c : Cmp ts us s L g) (f : Fair ts) (f' : Fair us) (h1 : 1 ≤ ts.length) (h2 : 1 ≤ us.length) : (0 < g ↔ 0 < rateI ts us) ∧ (g < 0 ↔ rateI ts us < 0) := by
  have e := c.rate f f' h1 h2
  have p : 0 < nd ts * nd us := Int.mul_pos (nd_pos f) (nd_pos f')
  have l0 := c.l0
  have pos : ∀ {a x : Int}, 0 < a → (0 < a * x ↔ 0 < x) := fun {a x} ha => ⟨fun h => Int.pos_of_mul_pos_left (by rw [Int.mul_comm]; exact h) ha, fun h => Int.mul_pos ha h⟩
  have q1 := pos (x := g) p
  have q2 := pos (x := rateI ts us) l0
  have q3 := pos (x := -g) p
  have q4 := pos (x := -rateI ts us) l0
  rw [Int.mul_neg] at q3 q4
  rw [e] at q1 q3
  constructor
  · rw [← q1, q2]
  · constructor
    · intro h
      have := q4.mp (q3.mpr (by omega))
      omega
    · intro h
      have := q3.mp (q4.mpr (by omega))
      omega
/-- what is told of when one gets better -/
def IsBet (ts us : List Tr) (v : L2.V) : Prop := (v = .non ∧ (rateI ts us < 0 ∨ rateI ts us = 0 ∧ Worse ts us)) ∨
  ∃ F : Int, v = .int F ∧ 1 ≤ F ∧ F ≤ 1000000000000000 ∧ (∀ n, F ≤ n → drk us n < drk ts n) ∧ drk ts (F - 1) ≤ drk us (F - 1)
/-- ahead of the number i -/
structure Bt (ts us : List Tr) (s L : Int) (i F : Int) : Prop where
  pos : 0 ≤ F
  at_ : 0 < F → drk ts (F - 1) ≤ drk us (F - 1)
  le : F ≤ 1000000000000000
  early : ∀ c, 0 ≤ c → c < i → c < s → drk ts c ≤ drk us c → c < F
  late : ∀ c (k : Nat), c < i → s ≤ c → drk ts (c + k * L) ≤ drk us (c + k * L) → c + k * L < F
theorem Bt.start : Bt ts us s L 0 0 ∨ ¬ 0 ≤ s := by
  by_cases h : 0 ≤ s
  · exact .inl ⟨Int.le_refl _, fun h => absurd h (by decide), by decide, fun c c0 c1 => by omega, fun c k c1 c2 => by omega⟩
  · exact .inr h
theorem Bt.skip {i F : Int} (b : Bt ts us s L i F) (c : Cmp ts us s L g) (hg : 0 ≤ g) (h : drk us i < drk ts i) : Bt ts us s L (i + 1) F := by
  refine ⟨b.pos, b.at_, b.le, fun x x0 x1 x2 hx => ?_, fun x k x1 x2 hx => ?_⟩
  · by_cases e : x = i
    · subst e
      omega
    · exact b.early x x0 (by omega) x2 hx
  · by_cases e : x = i
    · subst e
      have m := c.many x2 k
      have kg : 0 ≤ (k : Int) * g := Int.mul_nonneg (by omega) hg
      omega
    · exact b.late x k (by omega) x2 hx
theorem Bt.take {i F z : Int} (b : Bt ts us s L i F) (i0 : 0 ≤ i) (hz : drk ts z ≤ drk us z) (z0 : i ≤ z) (z1 : z < 1000000000000000) (top : s ≤ i → ∀ k : Nat, drk ts (i + k * L) ≤ drk us (i + k * L) → i + k * L ≤ z) : Bt ts us s L (i + 1) (if z ≥ F then z + 1 else F) := by
  have b0 := b.pos
  have w : F ≤ (if z ≥ F then z + 1 else F) ∧ z < (if z ≥ F then z + 1 else F) := by split <;> omega
  refine ⟨by omega, fun h => ?_, ?_, fun x x0 x1 x2 hx => ?_, fun x k x1 x2 hx => ?_⟩
  · split
    · rw [Int.add_sub_cancel]
      exact hz
    · rename_i q
      exact b.at_ (by omega)
  · have := b.le
    split <;> omega
  · by_cases e : x = i
    · omega
    · have := b.early x x0 (by omega) x2 hx
      omega
  · by_cases e : x = i
    · subst e
      have := top x2 k hx
      omega
    · have := b.late x k (by omega) x2 hx
      omega
theorem Bt.fin {F : Int} (c : Cmp ts us s L g) (b : Bt ts us s L (s + L) F) (z : drk ts 0 ≤ drk us 0) : IsBet ts us (.int F) := by
  have s0 := c.s0
  have l0 := c.l0
  have one : 0 < F := by
    by_cases q : 0 < s
    · exact b.early 0 (Int.le_refl _) (by omega) q z
    · have e : s = 0 := by omega
      have := b.late 0 0 (by omega) (by omega) (by simpa using z)
      simpa using this
  refine .inr ⟨F, rfl, one, b.le, fun n hn => ?_, b.at_ one⟩
  by_cases q : drk us n < drk ts n
  · exact q
  · by_cases lt : n < s
    · have := b.early n (by omega) (by omega) lt (by omega)
      omega
    · have e := Int.mul_ediv_add_emod (n - s) L
      have m0 := Int.emod_nonneg (n - s) (show L ≠ 0 by omega)
      have m1 := Int.emod_lt_of_pos (n - s) l0
      have d0 : 0 ≤ (n - s) / L := Int.ediv_nonneg (by omega) (by omega)
      have en : s + (n - s) % L + (((n - s) / L).toNat : Int) * L = n := by
        rw [Int.toNat_of_nonneg d0, Int.mul_comm]
        omega
      have := b.late (s + (n - s) % L) ((n - s) / L).toNat (by omega) (by omega) (by rw [en]; omega)
      omega
/-- the last of one row at which the first is not better -/
theorem Cmp.turns {i : Int} (c : Cmp ts us s L g) (f : Fair ts) (f' : Fair us) (hg : 0 < g) (hs : s ≤ i) (h : drk ts i ≤ drk us i) (i1 : i ≤ 3000003) (l3 : L ≤ 3000000) :
    (0 - (drk ts i - drk us i)) / g * L ≤ 90000090000000 ∧ 0 ≤ (0 - (drk ts i - drk us i)) / g * L ∧ drk ts (i + (0 - (drk ts i - drk us i)) / g * L) ≤ drk us (i + (0 - (drk ts i - drk us i)) / g * L) ∧ ∀ k : Nat, drk ts (i + k * L) ≤ drk us (i + k * L) → i + k * L ≤ i + (0 - (drk ts i - drk us i)) / g * L := by
  have s0 := c.s0
  have l0 := c.l0
  have a1 := drk_ge f (n := i) (by omega)
  have a2 := drk_le f' (n := i) (by omega)
  have d0 : 0 ≤ (0 - (drk ts i - drk us i)) / g := Int.ediv_nonneg (by omega) (by omega)
  have d1 : (0 - (drk ts i - drk us i)) / g ≤ 0 - (drk ts i - drk us i) := Int.ediv_le_self _ (by omega)
  have d2 : (0 - (drk ts i - drk us i)) / g * g ≤ 0 - (drk ts i - drk us i) := Int.ediv_mul_le _ (by omega)
  have b : (0 - (drk ts i - drk us i)) / g * L ≤ 30000030 * 3000000 := Int.mul_le_mul (by omega) l3 (by omega) (by decide)
  refine ⟨by omega, Int.mul_nonneg d0 (by omega), ?_, fun k hk => ?_⟩
  · have m := c.many hs ((0 - (drk ts i - drk us i)) / g).toNat
    rw [Int.toNat_of_nonneg d0] at m
    omega
  · have m := c.many hs k
    have kg : (k : Int) * g ≤ 0 - (drk ts i - drk us i) := by omega
    have kd : (k : Int) ≤ (0 - (drk ts i - drk us i)) / g := (Int.le_ediv_iff_mul_le hg).mpr kg
    have := Int.mul_le_mul_of_nonneg_right kd (show 0 ≤ L by omega)
    omega
end
end EB
namespace EB
open PySem PySem.Spec L2 StX ClX
set_option maxHeartbeats 1000000
/-! ## trades in the heap -/
/-- x is the trade t: a tuple of its kind and its two numbers -/
def TrAt (H : Hp) (x : V) (t : Tr) : Prop := ∃ p, x = .ref p ∧ H p = some (.tup [.str t.1, .int t.2.1, .int t.2.2])
/-- a tuple of trades stands at a -/
def Trs (H : Hp) (a : Addr) (ts : List Tr) : Prop := ∃ xs, H a = some (.tup xs) ∧ Paired (TrAt H) xs ts
theorem TrAt.up {H H' : Hp} {x : V} {t : Tr} (e : Ex H H') (h : TrAt H x t) : TrAt H' x t := by
  obtain ⟨p, rfl, hp⟩ := h
  exact ⟨p, rfl, e _ _ hp⟩
theorem trsUp {H H' : Hp} : ∀ {xs : List V} {ts : List Tr}, Ex H H' → Paired (TrAt H) xs ts → Paired (TrAt H') xs ts
  | _, _, _, .nil => .nil
  | _, _, e, .cons a r => .cons (a.up e) (trsUp e r)
theorem Trs.up {H H' : Hp} {a : Addr} {ts : List Tr} (e : Ex H H') (h : Trs H a ts) : Trs H' a ts := by
  obtain ⟨xs, h1, h2⟩ := h
  exact ⟨xs, e _ _ h1, trsUp e h2⟩
theorem pairedGet {α β : Type} {F : α → β → Prop} : ∀ {xs : List α} {ys : List β} {i : Nat} {x : α}, Paired F xs ys → xs[i]? = some x → ∃ y, ys[i]? = some y ∧ F x y
  | _, _, _, _, .nil, h => by simp at h
  | _, _, 0, _, .cons a _, h => by
    simp at h
    subst h
    exact ⟨_, rfl, a⟩
  | _, _, i + 1, x, .cons _ r, h => by
    obtain ⟨y, h1, h2⟩ := pairedGet (i := i) (x := x) r (by simpa using h)
    exact ⟨y, by simpa using h1, h2⟩
theorem pairedMem {α β : Type} {F : α → β → Prop} : ∀ {xs : List α} {ys : List β} {x : α}, Paired F xs ys → x ∈ xs → ∃ y, y ∈ ys ∧ F x y
  | _, _, _, .nil, h => by simp at h
  | _, _, x, .cons a r, h => by
    rcases List.mem_cons.mp h with rfl | h
    · exact ⟨_, List.mem_cons_self, a⟩
    · obtain ⟨y, h1, h2⟩ := pairedMem r h
      exact ⟨y, List.mem_cons_of_mem _ h1, h2⟩
theorem pairedMap {α β γ : Type} {F : α → β → Prop} {f : α → γ} {g : β → γ} : ∀ {xs : List α} {ys : List β}, Paired F xs ys → (∀ x y, F x y → f x = g y) → xs.map f = ys.map g
  | _, _, .nil, _ => rfl
  | _, _, .cons a r, h => by
    rw [List.map_cons, List.map_cons, h _ _ a, pairedMap r h]
theorem pairedLen {α β : Type} {F : α → β → Prop} {xs : List α} {ys : List β} (h : Paired F xs ys) : xs.length = ys.length := Paired.length h

/-! ## promises of the plain defs -/
def sp_common_divisor (_ : PySem.W.Frag) : Sp := fun vs H Q _ => ∃ a b : Int, vs = [.int a, .int b] ∧ 0 ≤ a ∧ 0 ≤ b ∧ ∀ H', Ex H H' → Q (.int (gcdI a b)) H'
theorem len_common_divisor {K} : ∀ vs H Q E, sp_common_divisor K vs H Q E → vs.length = 2 := by rintro _ _ _ _ ⟨_, _, rfl, _⟩; rfl
theorem ap_common_divisor {K : PySem.W.Frag} {H : Hp} {Q : VK} {E : XK} {a b : Int} (h1 : 0 ≤ a) (h2 : 0 ≤ b) (k : ∀ H', Ex H H' → Q (.int (gcdI a b)) H') : sp_common_divisor K [.int a, .int b] H Q E := ⟨a, b, rfl, h1, h2, k⟩
def sp_common_multiple (_ : PySem.W.Frag) : Sp := fun vs H Q _ => ∃ a b : Int, vs = [.int a, .int b] ∧ 0 < a ∧ 0 < b ∧ b < 1000000 ∧ ∀ H', Ex H H' → Q (.int (lcmI a b)) H'
theorem len_common_multiple {K} : ∀ vs H Q E, sp_common_multiple K vs H Q E → vs.length = 2 := by rintro _ _ _ _ ⟨_, _, rfl, _⟩; rfl
theorem ap_common_multiple {K : PySem.W.Frag} {H : Hp} {Q : VK} {E : XK} {a b : Int} (h1 : 0 < a) (h2 : 0 < b) (h3 : b < 1000000) (k : ∀ H', Ex H H' → Q (.int (lcmI a b)) H') : sp_common_multiple K [.int a, .int b] H Q E := ⟨a, b, rfl, h1, h2, h3, k⟩
def sp_bought (_ : PySem.W.Frag) : Sp := fun vs H Q _ => ∃ a ts d, vs = [.ref a, .int d] ∧ Trs H a ts ∧ Goods ts ∧ ∀ H', Ex H H' → Q (.int (bo ts d)) H'
theorem len_bought {K} : ∀ vs H Q E, sp_bought K vs H Q E → vs.length = 2 := by rintro _ _ _ _ ⟨_, _, _, rfl, _⟩; rfl
theorem ap_bought {K : PySem.W.Frag} {H : Hp} {Q : VK} {E : XK} {a : Addr} {ts : List Tr} {d : Int} (h : Trs H a ts) (g : Goods ts) (k : ∀ H', Ex H H' → Q (.int (bo ts d)) H') : sp_bought K [.ref a, .int d] H Q E := ⟨a, ts, d, rfl, h, g, k⟩
def sp_least_point (_ : PySem.W.Frag) : Sp := fun vs H Q _ => ∃ a ts n x, vs = [.ref a, .int n, .int x] ∧ Trs H a ts ∧ Goods ts ∧ x ≤ n + bo ts x ∧ (∃ B, x ≤ B ∧ n + bo ts B ≤ B) ∧
  ∀ D H', x ≤ D → n + bo ts D = D → (∀ e, x ≤ e → n + bo ts e ≤ e → D ≤ e) → Ex H H' → Q (.int D) H'
theorem len_least_point {K} : ∀ vs H Q E, sp_least_point K vs H Q E → vs.length = 3 := by rintro _ _ _ _ ⟨_, _, _, _, rfl, _⟩; rfl
def sp_needed_multiple (_ : PySem.W.Frag) : Sp := fun vs H Q _ => ∃ a ts, vs = [.ref a] ∧ Trs H a ts ∧ Goods ts ∧ ∀ H', Ex H H' → Q (.int (ndm ts)) H'
theorem len_needed_multiple {K} : ∀ vs H Q E, sp_needed_multiple K vs H Q E → vs.length = 1 := by rintro _ _ _ _ ⟨_, _, rfl, _⟩; rfl
theorem ap_needed_multiple {K : PySem.W.Frag} {H : Hp} {Q : VK} {E : XK} {a : Addr} {ts : List Tr} (h : Trs H a ts) (g : Goods ts) (k : ∀ H', Ex H H' → Q (.int (ndm ts)) H') : sp_needed_multiple K [.ref a] H Q E := ⟨a, ts, rfl, h, g, k⟩
def sp_period_of (_ : PySem.W.Frag) : Sp := fun vs H Q _ => ∃ a ts, vs = [.ref a] ∧ Trs H a ts ∧ Goods ts ∧ ∀ p H', H p = none → Ex H H' → H' p = some (.tup [.int (nd ts), .int (perd ts)]) → Q (.ref p) H'
theorem len_period_of {K} : ∀ vs H Q E, sp_period_of K vs H Q E → vs.length = 1 := by rintro _ _ _ _ ⟨_, _, rfl, _⟩; rfl
theorem ap_period_of {K : PySem.W.Frag} {H : Hp} {Q : VK} {E : XK} {a : Addr} {ts : List Tr} (h : Trs H a ts) (g : Goods ts) (k : ∀ p H', H p = none → Ex H H' → H' p = some (.tup [.int (nd ts), .int (perd ts)]) → Q (.ref p) H') : sp_period_of K [.ref a] H Q E := ⟨a, ts, rfl, h, g, k⟩
def sp_total (_ : PySem.W.Frag) : Sp := fun vs H Q _ => ∃ a ts n, vs = [.ref a, .int n] ∧ Trs H a ts ∧ Fair ts ∧ 1 ≤ ts.length ∧ 0 ≤ n ∧ ∀ H', Ex H H' → Q (.int (drk ts n)) H'
theorem len_total {K} : ∀ vs H Q E, sp_total K vs H Q E → vs.length = 2 := by rintro _ _ _ _ ⟨_, _, _, rfl, _⟩; rfl
theorem ap_total {K : PySem.W.Frag} {H : Hp} {Q : VK} {E : XK} {a : Addr} {ts : List Tr} {n : Int} (h : Trs H a ts) (g : Fair ts) (h1 : 1 ≤ ts.length) (hn : 0 ≤ n) (k : ∀ H', Ex H H' → Q (.int (drk ts n)) H') : sp_total K [.ref a, .int n] H Q E := ⟨a, ts, n, rfl, h, g, h1, hn, k⟩
end EB
namespace EB
open PySem PySem.Spec L2 StX ClX
set_option maxHeartbeats 1000000
/-! ## offers -/
def LET : Str := "abcdefghijklmnopqrstuvwxyz"
def isKind (z : Str) : Bool := (decide ((1 : Int) ≤ z.length) && decide ((z.length : Int) ≤ 8)) && z.cps.toList.all fun c => decide (c ∈ LET.cps.toList)
def isTK (z : Str) : Bool := isKind z && !decide (z = "drink")
def isTr (t : Tr) : Bool := isTK t.1 && ((decide (0 ≤ t.2.1) && decide (t.2.1 ≤ 12)) && (decide (1 ≤ t.2.2) && decide (t.2.2 ≤ 12)))
/-- trades that make an offer -/
structure OfferOk (ts : List Tr) : Prop where
  fair : Fair ts
  one : 1 ≤ ts.length
  kinds : ∀ t ∈ ts, isTK t.1 = true ∧ t.1.length ≤ 8
  nodup : (ts.map (·.1)).Nodup
/-- the class Offer as the walk asks it -/
structure OfK (K : PySem.W.Frag) : Prop where
  cls : Cls K (He.ga K "Offer")
  np : NoAttr K (He.ga K "Offer") "parts"
  cr : CRead K (He.ga K "Offer") metaT
  mn : ∃ u, CVal K (He.ga K "Offer") metaT "MAX_NEEDED" (.int 12) u
  mt : ∃ u, CVal K (He.ga K "Offer") metaT "MAX_TRADES" (.int 3) u
/-- an offer stands at o -/
def OfferAt (K : PySem.W.Frag) (H : Hp) (o : Addr) (ts : List Tr) : Prop := ∃ dx a, H o = some (.ins (He.ga K "Offer") dx [("parts", .ref a)]) ∧ Trs H a ts
theorem OfferAt.up {K : PySem.W.Frag} {H H' : Hp} {o : Addr} {ts : List Tr} (e : Ex H H') (h : OfferAt K H o ts) : OfferAt K H' o ts := by
  obtain ⟨dx, a, h1, h2⟩ := h
  exact ⟨dx, a, e _ _ h1, h2.up e⟩
def sp_is_kind (_ : PySem.W.Frag) : Sp := fun vs H Q _ => ∃ z : Str, vs = [.str z] ∧ z.length ≤ sizeLine ∧ ∀ H', Ex H H' → Q (.bl (isKind z)) H'
theorem len_is_kind {K} : ∀ vs H Q E, sp_is_kind K vs H Q E → vs.length = 1 := by rintro _ _ _ _ ⟨_, rfl, _⟩; rfl
def sp_is_trade_kind (_ : PySem.W.Frag) : Sp := fun vs H Q _ => ∃ z : Str, vs = [.str z] ∧ z.length ≤ sizeLine ∧ ∀ H', Ex H H' → Q (.bl (isTK z)) H'
theorem len_is_trade_kind {K} : ∀ vs H Q E, sp_is_trade_kind K vs H Q E → vs.length = 1 := by rintro _ _ _ _ ⟨_, rfl, _⟩; rfl
def sp_is_trade (_ : PySem.W.Frag) : Sp := fun vs H Q _ => ∃ (p : Addr) (t : Tr), vs = [.ref p] ∧ H p = some (.tup [.str t.1, .int t.2.1, .int t.2.2]) ∧ t.1.length ≤ sizeLine ∧ ∀ H', Ex H H' → Q (.bl (isTr t)) H'
theorem len_is_trade {K} : ∀ vs H Q E, sp_is_trade K vs H Q E → vs.length = 1 := by rintro _ _ _ _ ⟨_, _, rfl, _⟩; rfl
def sp_validate_number (_ : PySem.W.Frag) : Sp := fun vs H Q _ => ∃ n lo hi : Int, vs = [.int n, .int lo, .int hi] ∧ lo ≤ n ∧ n ≤ hi ∧ ∀ H', Ex H H' → Q .non H'
theorem len_validate_number {K} : ∀ vs H Q E, sp_validate_number K vs H Q E → vs.length = 3 := by rintro _ _ _ _ ⟨_, _, _, rfl, _⟩; rfl
theorem ap_validate_number {K : PySem.W.Frag} {H : Hp} {Q : VK} {E : XK} {n lo hi : Int} (h1 : lo ≤ n) (h2 : n ≤ hi) (k : ∀ H', Ex H H' → Q .non H') : sp_validate_number K [.int n, .int lo, .int hi] H Q E := ⟨n, lo, hi, rfl, h1, h2, k⟩
def spi_Offer_init (K : PySem.W.Frag) : Sp := fun vs H Q _ => ∃ x dx a ts, vs = [.ref x, .ref a] ∧ H x = some (.ins (He.ga K "Offer") dx []) ∧ Trs H a ts ∧ OfferOk ts ∧
  ∀ H', ExB x H H' → H' x = some (.ins (He.ga K "Offer") dx [("parts", .ref a)]) → Q .non H'
def sp_Offer_init (K : PySem.W.Frag) : Sp := fun vs H Q _ => ∃ x dx xs ts, vs = .ref x :: xs ∧ H x = some (.ins (He.ga K "Offer") dx []) ∧ Paired (TrAt H) xs ts ∧ OfferOk ts ∧
  ∀ a H', ExB x H H' → H' x = some (.ins (He.ga K "Offer") dx [("parts", .ref a)]) → Trs H' a ts → Q .non H'
theorem TrAt.upB {H H' : Hp} {l : Addr} {o : HO} {x : V} {t : Tr} (hl : H l = some o) (nt : ∀ zs, o ≠ .tup zs) (e : ExB l H H') (h : TrAt H x t) : TrAt H' x t := by
  obtain ⟨p, rfl, hp⟩ := h
  exact ⟨p, rfl, e _ _ (ne_of hp hl (fun z => nt _ z.symm)) hp⟩
theorem trsUpB {H H' : Hp} {l : Addr} {o : HO} (hl : H l = some o) (nt : ∀ zs, o ≠ .tup zs) (e : ExB l H H') : ∀ {xs : List V} {ts : List Tr}, Paired (TrAt H) xs ts → Paired (TrAt H') xs ts
  | _, _, .nil => .nil
  | _, _, .cons a r => .cons (a.upB hl nt e) (trsUpB hl nt e r)
theorem Trs.upB {H H' : Hp} {l : Addr} {o : HO} {a : Addr} {ts : List Tr} (hl : H l = some o) (nt : ∀ zs, o ≠ .tup zs) (e : ExB l H H') (h : Trs H a ts) : Trs H' a ts := by
  obtain ⟨xs, h1, h2⟩ := h
  exact ⟨xs, e _ _ (ne_of h1 hl (fun z => nt _ z.symm)) h1, trsUpB hl nt e h2⟩
theorem out_Offer_init (K : PySem.W.Frag) : ∀ vs H Q E, sp_Offer_init K vs H Q E → ∃ ws rest, vs = ws ++ rest ∧ ws.length = 1 ∧ rest.length ≤ sizeLine ∧ ∀ p, H p = none → spi_Offer_init K (ws ++ [V.ref p]) (upd H p (.tup rest)) Q E := by
  rintro vs H Q E ⟨x, dx, xs, ts, rfl, hx, hp, ok, k⟩
  refine ⟨[.ref x], xs, rfl, rfl, ?_, fun p np => ?_⟩
  · rw [pairedLen hp]
    exact Nat.le_trans ok.fair.1.1 (by decide)
  · have e : Ex H (upd H p (.tup xs)) := Evl.Ex.new np
    refine ⟨x, dx, p, ts, rfl, e _ _ hx, ⟨xs, upd_same, trsUp e hp⟩, ok, fun H' eb h1 => ?_⟩
    refine k p H' (fun b o nb hb => eb b o nb (e b o hb)) h1 ?_
    exact Trs.upB (e _ _ hx) (fun _ z => nomatch z) eb ⟨xs, upd_same, trsUp e hp⟩
def sp_Offer_call (K : PySem.W.Frag) : Sp := fun vs H Q _ => ∃ o ts n, vs = [.ref o, .int n] ∧ OfferAt K H o ts ∧ OfferOk ts ∧ 0 ≤ n ∧ n ≤ 1000000000000000000 ∧ ∀ H', Ex H H' → Q (.int (drk ts n)) H'
theorem len_Offer_call {K} : ∀ vs H Q E, sp_Offer_call K vs H Q E → vs.length = 2 := by rintro _ _ _ _ ⟨_, _, _, rfl, _⟩; rfl
theorem ap_Offer_call {K : PySem.W.Frag} {H : Hp} {Q : VK} {E : XK} {o : Addr} {ts : List Tr} {n : Int} (h : OfferAt K H o ts) (ok : OfferOk ts) (h1 : 0 ≤ n) (h2 : n ≤ 1000000000000000000) (k : ∀ H', Ex H H' → Q (.int (drk ts n)) H') : sp_Offer_call K [.ref o, .int n] H Q E := ⟨o, ts, n, rfl, h, ok, h1, h2, k⟩
theorem len_Offer_init {K} : ∀ vs H Q E, spi_Offer_init K vs H Q E → vs.length = 2 := by rintro _ _ _ _ ⟨_, _, _, _, rfl, _⟩; rfl
/-- the drinks of each by itself -/
noncomputable def drks (ts : List Tr) (ns : List Int) : Int := (ns.map (drk ts)).sum
def spi_Offer_pooled (K : PySem.W.Frag) : Sp := fun vs H Q _ => ∃ o ts a ns, vs = [.ref o, .ref a] ∧ OfferAt K H o ts ∧ OfferOk ts ∧ H a = some (.tup (ns.map V.int)) ∧ ns.length ≤ 100 ∧ (∀ n ∈ ns, 0 ≤ n) ∧ ns.sum ≤ 1000000000000000000 ∧
  ∀ H', Ex H H' → Q (.int (drk ts ns.sum - drks ts ns)) H'
def sp_Offer_pooled (K : PySem.W.Frag) : Sp := fun vs H Q _ => ∃ o ts ns, vs = .ref o :: ns.map V.int ∧ OfferAt K H o ts ∧ OfferOk ts ∧ ns.length ≤ 100 ∧ (∀ n ∈ ns, 0 ≤ n) ∧ ns.sum ≤ 1000000000000000000 ∧
  ∀ H', Ex H H' → Q (.int (drk ts ns.sum - drks ts ns)) H'
theorem out_Offer_pooled (K : PySem.W.Frag) : ∀ vs H Q E, sp_Offer_pooled K vs H Q E → ∃ ws rest, vs = ws ++ rest ∧ ws.length = 1 ∧ rest.length ≤ sizeLine ∧ ∀ p, H p = none → spi_Offer_pooled K (ws ++ [V.ref p]) (upd H p (.tup rest)) Q E := by
  rintro vs H Q E ⟨o, ts, ns, rfl, ho, ok, hl, h0, hs, k⟩
  refine ⟨[.ref o], ns.map V.int, rfl, rfl, ?_, fun p np => ?_⟩
  · rw [List.length_map]
    exact Nat.le_trans hl (by decide)
  · have e : Ex H (upd H p (.tup (ns.map V.int))) := Evl.Ex.new np
    exact ⟨o, ts, p, ns, rfl, ho.up e, ok, upd_same, hl, h0, hs, fun H' e' => k H' (Evl.Ex.trans e e')⟩
end EB
namespace EB
open PySem PySem.Spec L2 StX ClX
set_option maxHeartbeats 1000000
/-! ## the laws' source of draws -/
/-- a source at h: a number, the cells at c, an index -/
structure Src (H : Hp) (h c : Addr) : Prop where
  ex : ∃ (m k : Int) (ns : List Int), H h = some (.lst [.int m, .ref c, .int k]) ∧ H c = some (.lst (ns.map V.int)) ∧ ns.length ≤ 63 ∧ 0 ≤ m ∧ 0 ≤ k
theorem Src.ne {H : Hp} {h c : Addr} (s : Src H h c) : h ≠ c := by
  obtain ⟨m, k, ns, h1, h2, _⟩ := s.ex
  intro e
  rw [e, h2] at h1
  have e2 : ns.map V.int = [.int m, .ref c, .int k] := HO.lst.inj (Option.some.inj h1)
  have e3 : (ns.map V.int)[1]? = some (.ref c) := by rw [e2]; rfl
  rw [List.getElem?_map] at e3
  cases q : ns[1]? with
  | none => rw [q] at e3; cases e3
  | some i => rw [q] at e3; cases e3
/-- behind a draw: the source stands, and all but it as it was -/
structure SrcUp (h c : Addr) (H H' : Hp) : Prop where
  src : Src H' h c
  keep : ∀ a o, a ≠ h → a ≠ c → H a = some o → H' a = some o
theorem Src.up {H H' : Hp} {h c : Addr} (s : Src H h c) (e : Ex H H') : Src H' h c := by
  obtain ⟨m, k, ns, h1, h2, r⟩ := s.ex
  exact ⟨m, k, ns, e _ _ h1, e _ _ h2, r⟩
theorem SrcUp.of {H H' : Hp} {h c : Addr} (s : Src H h c) (e : Ex H H') : SrcUp h c H H' := ⟨s.up e, fun a o _ _ q => e a o q⟩
theorem SrcUp.trans {H H1 H2 : Hp} {h c : Addr} (a : SrcUp h c H H1) (b : SrcUp h c H1 H2) : SrcUp h c H H2 := ⟨b.src, fun x o n1 n2 q => b.keep x o n1 n2 (a.keep x o n1 n2 q)⟩
theorem SrcUp.andEx {H H1 H2 : Hp} {h c : Addr} (a : SrcUp h c H H1) (e : Ex H1 H2) : SrcUp h c H H2 := a.trans (SrcUp.of a.src e)
theorem Src.there {H : Hp} {h c : Addr} (s : Src H h c) : (∃ o, H h = some o) ∧ ∃ o, H c = some o := by
  obtain ⟨m, k, ns, h1, h2, _⟩ := s.ex
  exact ⟨⟨_, h1⟩, _, h2⟩
/-- what is new behind a draw was not there ahead -/
theorem SrcUp.free {H H' : Hp} {h c p : Addr} (u : SrcUp h c H H') (n : H' p = none) : H p = none ∧ p ≠ h ∧ p ≠ c := by
  obtain ⟨⟨o1, h1⟩, o2, h2⟩ := u.src.there
  have n1 : p ≠ h := fun e => by rw [e, h1] at n; cases n
  have n2 : p ≠ c := fun e => by rw [e, h2] at n; cases n
  refine ⟨?_, n1, n2⟩
  cases q : H p with
  | none => rfl
  | some o =>
    rw [u.keep p o n1 n2 q] at n
    cases n
/-- objects that are no lists stand -/
theorem SrcUp.at {H H' : Hp} {h c a : Addr} {o : HO} (s : Src H h c) (u : SrcUp h c H H') (q : H a = some o) (nl : ∀ zs, o ≠ .lst zs) : H' a = some o := by
  obtain ⟨m, k, ns, h1, h2, _⟩ := s.ex
  exact u.keep a o (ne_of q h1 (nl _)) (ne_of q h2 (nl _)) q
theorem TrAt.upS {H H' : Hp} {h c : Addr} {x : V} {t : Tr} (s : Src H h c) (u : SrcUp h c H H') (q : TrAt H x t) : TrAt H' x t := by
  obtain ⟨p, rfl, hp⟩ := q
  exact ⟨p, rfl, u.at s hp (fun _ z => nomatch z)⟩
theorem trsUpS {H H' : Hp} {h c : Addr} (s : Src H h c) (u : SrcUp h c H H') : ∀ {xs : List V} {ts : List Tr}, Paired (TrAt H) xs ts → Paired (TrAt H') xs ts
  | _, _, .nil => .nil
  | _, _, .cons a r => .cons (a.upS s u) (trsUpS s u r)
theorem Trs.upS {H H' : Hp} {h c a : Addr} {ts : List Tr} (s : Src H h c) (u : SrcUp h c H H') (q : Trs H a ts) : Trs H' a ts := by
  obtain ⟨xs, h1, h2⟩ := q
  exact ⟨xs, u.at s h1 (fun _ z => nomatch z), trsUpS s u h2⟩
theorem OfferAt.upS {K : PySem.W.Frag} {H H' : Hp} {h c o : Addr} {ts : List Tr} (s : Src H h c) (u : SrcUp h c H H') (q : OfferAt K H o ts) : OfferAt K H' o ts := by
  obtain ⟨dx, a, h1, h2⟩ := q
  exact ⟨dx, a, u.at s h1 (fun _ z => nomatch z), h2.upS s u⟩
def sp__law_mix (K : PySem.W.Frag) : Sp := fun vs H Q _ => ∃ (a : Addr) (ns : List Int) (s : Int), vs = [.ref a, .int s] ∧ SqL K H a (ns.map V.int) ∧ ns.length ≤ 63 ∧ 0 ≤ s ∧
  ∀ h c H', H h = none → H c = none → Ex H H' → Src H' h c → Q (.ref h) H'
theorem len__law_mix {K} : ∀ vs H Q E, sp__law_mix K vs H Q E → vs.length = 2 := by rintro _ _ _ _ ⟨_, _, _, rfl, _⟩; rfl
def sp__law_next (_ : PySem.W.Frag) : Sp := fun vs H Q _ => ∃ (h c : Addr) (n : Int), vs = [.ref h, .int n] ∧ Src H h c ∧ 1 ≤ n ∧ n ≤ 1000000000000000000000 ∧ ∀ r H', 0 ≤ r → r < n → SrcUp h c H H' → Q (.int r) H'
theorem len__law_next {K} : ∀ vs H Q E, sp__law_next K vs H Q E → vs.length = 2 := by rintro _ _ _ _ ⟨_, _, _, rfl, _⟩; rfl
theorem ap__law_next {K : PySem.W.Frag} {H : Hp} {Q : VK} {E : XK} {h c : Addr} {n : Int} (s : Src H h c) (h1 : 1 ≤ n) (h2 : n ≤ 1000000000000000000000) (k : ∀ r H', 0 ≤ r → r < n → SrcUp h c H H' → Q (.int r) H') : sp__law_next K [.ref h, .int n] H Q E := ⟨h, c, n, rfl, s, h1, h2, k⟩
def lawKinds : List Str := ["empty", "cap", "label"]
/-- what _law_trades draws -/
structure LawTr (most largest : Int) (ts : List Tr) : Prop where
  ok : OfferOk ts
  kinds : ts.map (·.1) = lawKinds.take ts.length
  len : (ts.length : Int) ≤ most
  small : ∀ t ∈ ts, t.2.1 ≤ t.2.2 ∧ t.2.2 ≤ largest
def sp__law_trades (_ : PySem.W.Frag) : Sp := fun vs H Q _ => ∃ (h c : Addr) (m l : Int), vs = [.ref h, .int m, .int l] ∧ Src H h c ∧ 1 ≤ m ∧ m ≤ 3 ∧ 1 ≤ l ∧ l ≤ 12 ∧
  ∀ p ts H', H p = none → SrcUp h c H H' → Trs H' p ts → LawTr m l ts → Q (.ref p) H'
theorem len__law_trades {K} : ∀ vs H Q E, sp__law_trades K vs H Q E → vs.length = 3 := by rintro _ _ _ _ ⟨_, _, _, _, rfl, _⟩; rfl
def sp__law_offer (K : PySem.W.Frag) : Sp := fun vs H Q _ => ∃ (a : Addr) (ts : List Tr), vs = [.ref a] ∧ Trs H a ts ∧ OfferOk ts ∧ ∀ o H', H o = none → Ex H H' → OfferAt K H' o ts → Q (.ref o) H'
theorem len__law_offer {K} : ∀ vs H Q E, sp__law_offer K vs H Q E → vs.length = 1 := by rintro _ _ _ _ ⟨_, _, rfl, _⟩; rfl
theorem ap__law_offer {K : PySem.W.Frag} {H : Hp} {Q : VK} {E : XK} {a : Addr} {ts : List Tr} (h : Trs H a ts) (ok : OfferOk ts) (k : ∀ o H', H o = none → Ex H H' → OfferAt K H' o ts → Q (.ref o) H') : sp__law_offer K [.ref a] H Q E := ⟨a, ts, rfl, h, ok, k⟩
/-- a new offer -/
theorem ap_make {K : PySem.W.Frag} {H H2 : Hp} {Q : VK} {E : XK} {x : Addr} {xs : List V} {ts : List Tr} {dx : Addr} (hx : H x = none) (e : Ex H H2) (h2 : H2 x = some (.ins (He.ga K "Offer") dx [])) (hp : Paired (TrAt H) xs ts) (ok : OfferOk ts)
    (k : ∀ H', Ex H H' → OfferAt K H' x ts → Q (.ref x) H') : sp_Offer_init K (.ref x :: xs) H2 (fun v H3 => v = .non ∧ Q (.ref x) H3) E :=
  ⟨x, dx, xs, ts, rfl, h2, trsUp e hp, ok, fun a H' eb h1 hT => ⟨rfl, k H' (ExB.ex e hx eb) ⟨dx, a, h1, hT⟩⟩⟩
end EB
namespace EB
open PySem PySem.Spec L2 StX ClX
set_option maxHeartbeats 1000000
/-! ## data that the laws compare -/
/-- a dict of texts to numbers: as the walk tracks it, as data -/
def dKv (kvs : List (Str × Int)) : List (Key × V) := kvs.map fun p => (.inr p.1, .int p.2)
def dicD (kvs : List (Str × Int)) : PyData := .dict (kvs.map fun p => (.str p.1, .int p.2))
mutual
/-- data at any depth, of objects that the walk tracks -/
inductive Dq (H : Hp) : V → PyData → Prop
  | non : Dq H .non .none
  | bl (b : Bool) : Dq H (.bl b) (.bool b)
  | int (i : Int) : Dq H (.int i) (.int i)
  | str (x : Str) : Dq H (.str x) (.str x)
  | lst {a : Addr} {xs : List V} {ds : List PyData} : H a = some (.lst xs) → DqAll H xs ds → Dq H (.ref a) (.list ds)
  | tup {a : Addr} {xs : List V} {ds : List PyData} : H a = some (.tup xs) → DqAll H xs ds → Dq H (.ref a) (.tuple ds)
  | dic {a : Addr} {kvs : List (Str × Int)} : H a = some (.dK (dKv kvs)) → Dq H (.ref a) (dicD kvs)
inductive DqAll (H : Hp) : List V → List PyData → Prop
  | nil : DqAll H [] []
  | cons {v : V} {vs : List V} {d : PyData} {ds : List PyData} : Dq H v d → DqAll H vs ds → DqAll H (v :: vs) (d :: ds)
end
mutual
theorem Dq.up {H H' : Hp} (e : Ex H H') : ∀ (d : PyData) (v : V), Dq H v d → Dq H' v d
  | .none, _, h => by cases h; exact .non
  | .bool b, _, h => by cases h; exact .bl b
  | .int i, _, h => by cases h; exact .int i
  | .str x, _, h => by cases h; exact .str x
  | .list ds, _, h => by
    cases h with
    | lst h1 h2 => exact .lst (e _ _ h1) (DqAll.up e ds _ h2)
  | .tuple ds, _, h => by
    cases h with
    | tup h1 h2 => exact .tup (e _ _ h1) (DqAll.up e ds _ h2)
  | .dict _, _, h => by
    cases h with
    | dic h1 => exact .dic (e _ _ h1)
theorem DqAll.up {H H' : Hp} (e : Ex H H') : ∀ (ds : List PyData) (vs : List V), DqAll H vs ds → DqAll H' vs ds
  | [], _, h => by cases h; exact .nil
  | d :: ds, _, h => by
    cases h with
    | cons h1 h2 => exact .cons (Dq.up e d _ h1) (DqAll.up e ds _ h2)
end
mutual
/-- no dict within -/
def noDic : PyData → Bool
  | .list ds => noDics ds
  | .tuple ds => noDics ds
  | .dict _ => false
  | _ => true
def noDics : List PyData → Bool
  | [] => true
  | d :: ds => noDic d && noDics ds
end
mutual
theorem Dq.dp {K : PySem.W.Frag} {H : Hp} : ∀ (d : PyData) (v : V), noDic d = true → Dq H v d → Dp K H v d
  | .none, _, _, h => by cases h; exact .non
  | .bool b, _, _, h => by cases h; exact .bl b
  | .int i, _, _, h => by cases h; exact .int i
  | .str x, _, _, h => by cases h; exact .str x
  | .list ds, _, n, h => by
    cases h with
    | lst h1 h2 => exact .lst (Evl.sq_of h1) (DqAll.dp ds _ n h2)
  | .tuple ds, _, n, h => by
    cases h with
    | tup h1 h2 => exact .tup (Evl.st_of h1) (DqAll.dp ds _ n h2)
  | .dict _, _, n, _ => by cases n
theorem DqAll.dp {K : PySem.W.Frag} {H : Hp} : ∀ (ds : List PyData) (vs : List V), noDics ds = true → DqAll H vs ds → DpAll K H vs ds
  | [], _, _, h => by cases h; exact .nil
  | d :: ds, _, n, h => by
    cases h with
    | cons h1 h2 =>
      obtain ⟨n1, n2⟩ := Bool.and_eq_true_iff.mp n
      exact .cons (Dq.dp d _ n1 h1) (DqAll.dp ds _ n2 h2)
end
theorem DqAll.len {H : Hp} : ∀ {vs : List V} {ds : List PyData}, DqAll H vs ds → vs.length = ds.length
  | _, _, .nil => rfl
  | _, _, .cons _ t => by rw [List.length_cons, List.length_cons, t.len]
theorem DqAll.get {H : Hp} : ∀ {vs : List V} {ds : List PyData} {i : Nat} {d : PyData}, DqAll H vs ds → ds[i]? = some d → ∃ v, vs[i]? = some v ∧ Dq H v d
  | _, _, _, _, .nil, h => by simp at h
  | _, _, 0, _, .cons a _, h => by
    simp at h
    subst h
    exact ⟨_, rfl, a⟩
  | _, _, i + 1, _, .cons _ r, h => by
    obtain ⟨v, h1, h2⟩ := r.get (i := i) (by simpa using h)
    exact ⟨v, by simpa using h1, h2⟩
/-- a key's text -/
def keyS : PyData → Str
  | .str x => x
  | _ => ""
/-- what may be compared: shaped, at most n deep, no list longer than 1000 -/
def okD : Nat → PyData → Bool
  | 0, _ => false
  | _ + 1, .none => true
  | _ + 1, .bool _ => true
  | _ + 1, .int _ => true
  | _ + 1, .str x => PyData.strOk x
  | n + 1, .list ds => decide (ds.length ≤ 1000) && ds.all (okD n)
  | n + 1, .tuple ds => decide (ds.length ≤ 1000) && ds.all (okD n)
  | n + 1, .dict kvs => decide (2 ≤ n) && (decide (kvs.length ≤ 1000) && (decide ((kvs.map fun p => keyS p.1).Nodup) && kvs.all fun p => PyData.strOk (keyS p.1)))
theorem okD_can : ∀ n d, okD n d = true → noDic d = true → d.canLay0 = true ∧ d.depth ≤ n
  | 0, d, h, _ => by cases h
  | n + 1, .none, _, _ => ⟨rfl, Nat.zero_le _⟩
  | n + 1, .bool _, _, _ => ⟨rfl, Nat.zero_le _⟩
  | n + 1, .int _, _, _ => ⟨rfl, Nat.zero_le _⟩
  | n + 1, .str x, h, _ => ⟨h, Nat.zero_le _⟩
  | n + 1, .list ds, h, nd => by
    obtain ⟨_, h2⟩ := Bool.and_eq_true_iff.mp h
    have all := all n ds (okD_can n) h2 nd
    exact ⟨all.1, Nat.succ_le_succ all.2⟩
  | n + 1, .tuple ds, h, nd => by
    obtain ⟨_, h2⟩ := Bool.and_eq_true_iff.mp h
    have all := all n ds (okD_can n) h2 nd
    exact ⟨all.1, Nat.succ_le_succ all.2⟩
  | n + 1, .dict _, _, nd => by cases nd
where
  all (n : Nat) (ds : List PyData) (ih : ∀ d, okD n d = true → noDic d = true → d.canLay0 = true ∧ d.depth ≤ n) (h : ds.all (okD n) = true) (nd : noDics ds = true) : PyData.canLayAll0 ds = true ∧ PyData.depthAll ds ≤ n := by
    induction ds with
    | nil => exact ⟨rfl, Nat.zero_le _⟩
    | cons d ds ih2 =>
      rw [List.all_cons] at h
      obtain ⟨a, b⟩ := Bool.and_eq_true_iff.mp h
      obtain ⟨n1, n2⟩ := Bool.and_eq_true_iff.mp nd
      obtain ⟨c1, c2⟩ := ih d a n1
      obtain ⟨e1, e2⟩ := ih2 b n2
      simp only [PyData.canLayAll0, PyData.depthAll, c1, e1, Bool.and_self, true_and]
      omega
theorem okD_shaped {n : Nat} {d : PyData} (h : okD n d = true) (nd : noDic d = true) (hn : n ≤ 64) : SeqAt.shaped d = true := by
  obtain ⟨a, b⟩ := okD_can n d h nd
  unfold SeqAt.shaped
  rw [a, Bool.true_and]
  exact decide_eq_true (by omega)
mutual
theorem eqv_same : ∀ (d : PyData), noDic d = true → PyData.eqv d d = true
  | .none, _ => rfl
  | .bool b, _ => by cases b <;> rfl
  | .int i, _ => by simp [PyData.eqv]
  | .str x, _ => by simp [PyData.eqv]
  | .list ds, n => by simpa [PyData.eqv] using eqv_sames ds n
  | .tuple ds, n => by simpa [PyData.eqv] using eqv_sames ds n
  | .dict _, n => by cases n
theorem eqv_sames : ∀ (ds : List PyData), noDics ds = true → PyData.eqvAll ds ds = true
  | [], _ => rfl
  | d :: ds, n => by
    obtain ⟨n1, n2⟩ := Bool.and_eq_true_iff.mp n
    simp only [PyData.eqvAll, eqv_same d n1, eqv_sames ds n2, Bool.and_self]
end
/-! ## isinstance -/
section
variable {K : PySem.W.Frag} {H : Hp} {Q : VK}
def tyD : PyData → String
  | .none => "NoneType"
  | .bool _ => "bool"
  | .int _ => "int"
  | .str _ => "str"
  | .list _ => "list"
  | .tuple _ => "tuple"
  | .dict _ => "dict"
theorem Dq.ty {x : V} {d : PyData} (h : Dq H x d) : TyX K H x (.type (tyD d)) := by
  cases h with
  | non => exact .base .non
  | bl b => exact .base (.bl b)
  | int i => exact .base (.int i)
  | str z => exact .base (.str z)
  | lst h1 _ => exact .base (.lst h1)
  | tup h1 _ => exact .base (.tup h1)
  | dic h1 => exact .base (.dK h1)
theorem w_isi {x : V} {t c : String} {b : Bool} (h : TyX K H x (.type t)) (hb : kitB t c = some b) (q : Q (.bl b) H) : rIsi K [x, .ty c] H Q := ⟨x, .ty c, _, _, b, rfl, .ty c, h, kit_ty hb, q⟩
theorem w_isiT {x : V} {t c1 c2 : String} {b b1 b2 : Bool} {p : Addr} (hp : H p = some (.tup [.ty c1, .ty c2])) (h : TyX K H x (.type t)) (h1 : kitB t c1 = some b1) (h2 : kitB t c2 = some b2) (e : (b1 || b2) = b) (q : Q (.bl b) H) : rIsiT K [x, .ref p] H Q :=
  ⟨x, p, _, _, _, b, rfl, hp, .cons (.ty c1) (.cons (.ty c2) .nil), h, kitAny_cons (kit_ty h1) (fun z => kitAny_cons (kit_ty h2) (fun z2 => by subst z z2 e; exact kitAny_nil) (fun z2 => by subst z z2 e; rfl)) (fun z => by subst z e; rfl), q⟩
/-- x == y, data or dicts of flat values -/
def rEqX (K : PySem.W.Frag) : R2 := fun x y H Q => rEqD K x y H Q ∨ rEqDA x y H Q
theorem op_eqX {X : Cx} (hu : X.A.units + 64 < cLine) : OpR X (compareOp .Eq) (rEqX X.K) := by
  intro pins s σ H x y v u Q I rx ry h
  rcases h with h | h
  · exact op_eqD hu pins s σ H x y v u Q I rx ry h
  · exact op_eq_dictA (by omega) pins s σ H x y v u Q I rx ry h
theorem w_eqX {x y : V} {n : Nat} {d : PyData} (h1 : Dq H x d) (h2 : Dq H y d) (ok : okD n d = true) (hn : n ≤ 64) (nd : noDic d = true) (q : Q (.bl true) H) : rEqX K x y H Q :=
  .inl ⟨d, d, Dq.dp d _ nd h1, Dq.dp d _ nd h2, okD_shaped ok nd hn, okD_shaped ok nd hn, by rw [eqv_same d nd]; exact q⟩
/-- of distinct keys each is found -/
theorem valV_mem : ∀ {kvs : List (Str × Int)}, (kvs.map (·.1)).Nodup → ∀ p ∈ kvs, valV (dKv kvs) (.inr p.1) = some (.int p.2)
  | [], _, p, hp => by cases hp
  | q :: kvs, nd, p, hp => by
    rw [List.map_cons, List.nodup_cons] at nd
    rcases List.mem_cons.mp hp with rfl | hp
    · unfold dKv valV
      simp
    · have ne : ¬ q.1 = p.1 := fun e => nd.1 (e ▸ List.mem_map.mpr ⟨p, hp, rfl⟩)
      have ih := valV_mem nd.2 p hp
      unfold dKv valV at ih ⊢
      rw [List.map_cons, List.find?_cons]
      have e : decide ((Sum.inr q.1 : Key) = .inr p.1) = false := decide_eq_false fun z => ne (Sum.inr.inj z)
      simp only [e]
      exact ih
theorem w_eqDic {a b : Addr} {kvs : List (Str × Int)} (h1 : H a = some (.dK (dKv kvs))) (h2 : H b = some (.dK (dKv kvs))) (nd : (kvs.map (·.1)).Nodup) (q : Q (.bl true) H) : rEqX K (.ref a) (.ref b) H Q := by
  refine .inr ⟨a, b, _, _, rfl, rfl, h1, h2, rfl, fun p hp => ?_, q⟩
  obtain ⟨r, hr, rfl⟩ := List.mem_map.mp hp
  exact ⟨valV_mem nd r hr, rfl⟩
theorem w_listD {a : Addr} {kvs : List (Str × Int)} (h : H a = some (.dK (dKv kvs))) (q : ∀ p H2, H p = none → Ex H H2 → H2 p = some (.lst (kvs.map fun p => .str p.1)) → Q (.ref p) H2) : rListD [.ref a] H Q := by
  refine ⟨a, _, rfl, h, fun p hp => q p _ hp (Evl.Ex.new hp) ?_⟩
  rw [upd_same]
  unfold dKv
  rw [List.map_map]
  rfl
/-- x[i], x a list or a tuple -/
def rIxA (K : PySem.W.Frag) : R2 := fun x y H Q => rIxL K x y H Q ∨ rIxT K x y H Q
theorem ix_any {X : Cx} : IxR X (rIxA X.K) := by
  intro value slice pins s σ H x y v u Q I rx ry h hs
  rcases h with h | h
  · exact ix_list value slice pins s σ H x y v u Q I rx ry h hs
  · exact ix_tup value slice pins s σ H x y v u Q I rx ry h hs
/-- [.. for k in range(n) if test], no test true -/
theorem w_lcR0 {vs : List Nat} {σ : St} {n : Nat} {g : TG} {tt : TT} {te : TE} {ts : TA} (hn : n ≤ 1000000) (ht : ∀ R : List V → Hp → Prop, R [.int (n : Int)] H → ts σ H R)
    (hb : ∀ (i : Nat) H1, i < n → Ex H H1 → ∀ (R : VK) (N : Hp → Prop), (∀ H2, Ex H1 H2 → N H2) → g (.int i) (wipe σ vs) H1 fun σ2 H2 => wipe σ2 vs = wipe σ vs ∧ tt σ2 H2 fun b H3 => if b = true then te σ2 H3 R else N H3)
    (q : ∀ p H2, H p = none → Ex H H2 → H2 p = some (.lst []) → Q (.ref p) H2) : tLc (iRng1 ts) g tt te vs σ H Q := by
  refine ht _ ⟨n, rfl, by omega, by omega, fun D hD => ?_⟩
  have e0 : ((n : Int)).toNat = n := by omega
  rw [e0]
  refine lc_range (lo := 0) (n := n) (fun _ H' => Ex H H' ∧ H' D = some (.lst [])) ⟨Evl.Ex.new hD, upd_same⟩ (fun i H1 hi p => ?_) (fun H2 p => q D H2 hD p.1 p.2)
  have e : (0 : Int) + (i : Int) = i := Int.zero_add _
  rw [e]
  exact hb i H1 hi p.1 _ _ fun H2 e2 => ⟨Evl.Ex.trans p.1 e2, e2 _ _ p.2⟩
end
/-! ## _law_alike: of the same data at the same depth it says True -/
def sp_alike : Nat → Sp
  | 0 => fun _ _ _ _ => False
  | n + 1 => fun vs H Q _ => ∃ x y d, vs = [x, y] ∧ Dq H x d ∧ Dq H y d ∧ okD (n + 1) d = true ∧ ∀ H', Ex H H' → Q (.bl true) H'
theorem len_alike : ∀ n vs H Q E, sp_alike n vs H Q E → vs.length = 2
  | 0, _, _, _, _, h => nomatch h
  | _ + 1, _, _, _, _, ⟨_, _, _, rfl, _⟩ => rfl
theorem ap_alike {n : Nat} {H : Hp} {Q : VK} {E : XK} {x y : V} {d : PyData} (h1 : Dq H x d) (h2 : Dq H y d) (ok : okD (n + 1) d = true) (k : ∀ H', Ex H H' → Q (.bl true) H') : sp_alike (n + 1) [x, y] H Q E := ⟨x, y, d, rfl, h1, h2, ok, k⟩
end EB
namespace EB
open PySem PySem.Spec L2 StX ClX
/-! ## the law itself -/
def sp_law (K : PySem.W.Frag) : Sp := fun vs H Q _ => ∃ (a : Addr) (ns : List Int), vs = [.ref a] ∧ SqL K H a (ns.map V.int) ∧ ns.length ≤ 63 ∧ ∀ H', Q (.bl true) H'
theorem len_law {K} : ∀ vs H Q E, sp_law K vs H Q E → vs.length = 1 := by rintro _ _ _ _ ⟨_, _, rfl, _⟩; rfl
section
variable {K : PySem.W.Frag} {σ : St} {H : Hp} {Q : VK} {E : XK}
theorem ap__law_mix {a : Addr} {ns : List Int} {s : Int} (h1 : SqL K H a (ns.map V.int)) (h2 : ns.length ≤ 63) (h3 : 0 ≤ s) (k : ∀ h c H', H h = none → H c = none → Ex H H' → Src H' h c → Q (.ref h) H') : sp__law_mix K [.ref a, .int s] H Q E := ⟨a, ns, s, rfl, h1, h2, h3, k⟩
theorem ap__law_trades {h c : Addr} {m l : Int} (s : Src H h c) (m1 : 1 ≤ m) (m3 : m ≤ 3) (l1 : 1 ≤ l) (l2 : l ≤ 12) (k : ∀ p ts H', H p = none → SrcUp h c H H' → Trs H' p ts → LawTr m l ts → Q (.ref p) H') : sp__law_trades K [.ref h, .int m, .int l] H Q E :=
  ⟨h, c, m, l, rfl, s, m1, m3, l1, l2, k⟩
theorem ap_Offer_pooled {o : Addr} {ts : List Tr} {ns : List Int} {vs : List V} (ev : vs = ns.map V.int) (h : OfferAt K H o ts) (ok : OfferOk ts) (hl : ns.length ≤ 100) (h0 : ∀ n ∈ ns, 0 ≤ n) (hs : ns.sum ≤ 1000000000000000000)
    (k : ∀ H', Ex H H' → Q (.int (drk ts ns.sum - drks ts ns)) H') : sp_Offer_pooled K (.ref o :: vs) H Q E := ⟨o, ts, ns, by rw [ev], h, ok, hl, h0, hs, k⟩
theorem w_gUnl {g : TGs} {P : St → Hp → Prop} {a : Addr} {xs : List V} {n : Nat} (h : SqL K H a xs) (hl : xs.length = n) (q : g xs σ H P) : gUnl K n g (.ref a) σ H P := ⟨a, xs, rfl, h, hl, q⟩
/-- an instance at o, asked for a call or a method -/
theorem OfferAt.isC {o : Addr} {ts : List Tr} {B : Prop} (h : OfferAt K H o ts) (q : B) : ((∃ dx vs, SlX.Slt H o (He.ga K "Offer") dx vs) ∨ ∃ dx fs, H o = some (.ins (He.ga K "Offer") dx fs)) ∧ B := by
  obtain ⟨dx, a, h1, _⟩ := h
  exact w_isC h1 q
theorem OfferAt.meth {o : Addr} {ts : List Tr} {m : Str} {P : Prop} (h : OfferAt K H o ts) (hm : (m == "parts") = false) (q : P) : ∃ a' dx' fs', V.ref o = .ref a' ∧ H a' = some (.ins (He.ga K "Offer") dx' fs') ∧ fs'.lookup m = none ∧ P := by
  obtain ⟨dx, a, h1, _⟩ := h
  refine w_methR2 h1 ?_ q
  show (match m == "parts" with | true => some (V.ref a) | false => List.lookup m []) = none
  rw [hm]
  rfl
theorem OfferAt.upB {H H' : Hp} {l o : Addr} {x : HO} {ts : List Tr} (h : OfferAt K H o ts) (hl : H l = some x) (nt : ∀ zs, x ≠ .tup zs) (ni : ∀ a b c, x ≠ .ins a b c) (e : ExB l H H') : OfferAt K H' o ts := by
  obtain ⟨dx, a, h1, h2⟩ := h
  exact ⟨dx, a, e _ _ (ne_of h1 hl fun z => ni _ _ _ z.symm) h1, h2.upB hl nt e⟩
theorem OfferAt.upE {H H' : Hp} {o : Addr} {ts : List Tr} (h : OfferAt K H o ts) (e : Ex H H') : OfferAt K H' o ts := h.up e
theorem Trs.upE {H H' : Hp} {a : Addr} {ts : List Tr} (h : Trs H a ts) (e : Ex H H') : Trs H' a ts := h.up e
theorem OfferAt.andEx {o : Addr} {ts : List Tr} {H' : Hp} (e : Ex H H') (h : OfferAt K H o ts) : OfferAt K H' o ts := h.up e
/-- what an offer gives is walked with its trades: call -/
theorem w_offer {o : Addr} {ts : List Tr} {n : Int} (h : OfferAt K H o ts) (ok : OfferOk ts) (h1 : 0 ≤ n) (h2 : n ≤ 1000000000000000000) (k : ∀ H', Ex H H' → Q (.int (drk ts n)) H') :
    ((∃ dx vs, SlX.Slt H o (He.ga K "Offer") dx vs) ∨ ∃ dx fs, H o = some (.ins (He.ga K "Offer") dx fs)) ∧ sp_Offer_call K (V.ref o :: [.int n]) H Q E := h.isC (ap_Offer_call h ok h1 h2 k)
theorem Src.apart {H0 : Hp} {h c p : Addr} (s : Src H0 h c) (n : H0 p = none) : p ≠ h ∧ p ≠ c := by
  obtain ⟨⟨o1, q1⟩, o2, q2⟩ := s.there
  refine ⟨fun z => ?_, fun z => ?_⟩
  · rw [z, q1] at n
    cases n
  · rw [z, q2] at n
    cases n
theorem SrcUp.updD {H0 H7 : Hp} {h c D : Addr} {o : HO} (s : Src H0 h c) (hD : H0 D = none) (u : SrcUp h c H0 H7) : SrcUp h c H0 (upd H7 D o) := by
  obtain ⟨⟨o1, q1⟩, o2, q2⟩ := s.there
  have dh : h ≠ D := fun z => by
    rw [← z, q1] at hD
    cases hD
  have dc : c ≠ D := fun z => by
    rw [← z, q2] at hD
    cases hD
  obtain ⟨M, N, ns, a1, a2, a3⟩ := u.src.ex
  refine ⟨⟨M, N, ns, by rw [upd_ne dh]; exact a1, by rw [upd_ne dc]; exact a2, a3⟩, fun a x ah ac hx => ?_⟩
  have ad : a ≠ D := ne_of_none hx hD
  rw [upd_ne ad]
  exact u.keep a x ah ac hx
/-- [.. for k in range(n)], each element a number that is drawn -/
theorem w_lcDraws {g : TG} {te : TE} {ts : TA} {vs : List Nat} {h c : Addr} {n : Nat} (P : Int → Prop) (hn : n ≤ 1000) (s : Src H h c) (ht : ∀ R : List V → Hp → Prop, R [.int (n : Int)] H → ts σ H R)
    (hb : ∀ (i : Nat) H1, i < n → SrcUp h c H H1 → ∀ R : VK, (∀ v H2, P v → SrcUp h c H1 H2 → R (.int v) H2) → g (.int i) (wipe σ vs) H1 fun σ2 H2 => wipe σ2 vs = wipe σ vs ∧ te σ2 H2 R)
    (q : ∀ D H2 (acc : List Int), H D = none → acc.length = n → (∀ x ∈ acc, P x) → H2 D = some (.lst (acc.map V.int)) → SrcUp h c H H2 → Q (.ref D) H2) : tLc (iRng1 ts) g tYes te vs σ H Q := by
  refine w_lcR (n := n) (fun D i H' => ∃ acc : List Int, acc.length = i ∧ (∀ x ∈ acc, P x) ∧ H' D = some (.lst (acc.map V.int)) ∧ SrcUp h c H H') hn ht (fun D hD => ⟨[], rfl, by simp, upd_same, SrcUp.of s (Evl.Ex.new hD)⟩) (fun D hD j H1 hj z => ?_) fun D hD H2 ⟨acc, a1, a2, a3, a4⟩ => q D H2 acc hD a1 a2 a3 a4
  obtain ⟨acc, al, ab, hacc, u⟩ := z
  obtain ⟨⟨o1, q1⟩, o2, q2⟩ := s.there
  have dh : D ≠ h := fun z => by
    rw [z, q1] at hD
    cases hD
  have dc : D ≠ c := fun z => by
    rw [z, q2] at hD
    cases hD
  refine hb j H1 hj u _ fun v H2 pv u2 => ?_
  have h2 := u2.keep D _ dh dc hacc
  refine ⟨_, h2, ?_, acc ++ [v], by simp [al], fun x hx => ?_, by rw [upd_same, List.map_append]; rfl, (u.trans u2).updD s hD⟩
  · rw [List.length_map, al]
    exact Nat.lt_of_lt_of_le hj (Nat.le_trans hn (by decide))
  · rcases List.mem_append.mp hx with hx | hx
    · exact ab x hx
    · rw [List.mem_singleton.mp hx]
      exact pv
end
end EB
namespace EB
open PySem PySem.Spec L2 StX ClX
/-! ## periods, pieces that are left -/
def sp_steady_begin (_ : PySem.W.Frag) : Sp := fun vs H Q _ => ∃ (a : Addr) (ts : List Tr), vs = [.ref a] ∧ Trs H a ts ∧ Fair ts ∧ 1 ≤ ts.length ∧ ∀ s H', IsStd ts s → Ex H H' → Q (.int s) H'
theorem len_steady_begin {K} : ∀ vs H Q E, sp_steady_begin K vs H Q E → vs.length = 1 := by rintro _ _ _ _ ⟨_, _, rfl, _⟩; rfl
theorem ap_steady_begin {K : PySem.W.Frag} {H : Hp} {Q : VK} {E : XK} {a : Addr} {ts : List Tr} (h : Trs H a ts) (f : Fair ts) (l : 1 ≤ ts.length) (k : ∀ s H', IsStd ts s → Ex H H' → Q (.int s) H') : sp_steady_begin K [.ref a] H Q E := ⟨a, ts, rfl, h, f, l, k⟩
def sp_Offer_period (K : PySem.W.Frag) : Sp := fun vs H Q _ => ∃ (o : Addr) (ts : List Tr), vs = [.ref o] ∧ OfferAt K H o ts ∧ OfferOk ts ∧ ∀ p H', H p = none → Ex H H' → H' p = some (.tup [.int (nd ts), .int (perd ts)]) → Q (.ref p) H'
theorem len_Offer_period {K} : ∀ vs H Q E, sp_Offer_period K vs H Q E → vs.length = 1 := by rintro _ _ _ _ ⟨_, _, rfl, _⟩; rfl
theorem ap_Offer_period {K : PySem.W.Frag} {H : Hp} {Q : VK} {E : XK} {o : Addr} {ts : List Tr} (h : OfferAt K H o ts) (ok : OfferOk ts) (k : ∀ p H', H p = none → Ex H H' → H' p = some (.tup [.int (nd ts), .int (perd ts)]) → Q (.ref p) H') : sp_Offer_period K [.ref o] H Q E := ⟨o, ts, rfl, h, ok, k⟩
def sp_Offer_steady_from (K : PySem.W.Frag) : Sp := fun vs H Q _ => ∃ (o : Addr) (ts : List Tr), vs = [.ref o] ∧ OfferAt K H o ts ∧ OfferOk ts ∧ ∀ s H', IsStd ts s → Ex H H' → Q (.int s) H'
theorem len_Offer_steady_from {K} : ∀ vs H Q E, sp_Offer_steady_from K vs H Q E → vs.length = 1 := by rintro _ _ _ _ ⟨_, _, rfl, _⟩; rfl
theorem ap_Offer_steady_from {K : PySem.W.Frag} {H : Hp} {Q : VK} {E : XK} {o : Addr} {ts : List Tr} (h : OfferAt K H o ts) (ok : OfferOk ts) (k : ∀ s H', IsStd ts s → Ex H H' → Q (.int s) H') : sp_Offer_steady_from K [.ref o] H Q E := ⟨o, ts, rfl, h, ok, k⟩
/-- a property read at an offer -/
theorem OfferAt.prop {K : PySem.W.Frag} {H : Hp} {o : Addr} {ts : List Tr} {P : Addr → Prop} (h : OfferAt K H o ts) (q : P o) : ∃ a dx fs, V.ref o = .ref a ∧ H a = some (.ins (He.ga K "Offer") dx fs) ∧ P a := by
  obtain ⟨dx, a, h1, _⟩ := h
  exact ⟨o, dx, _, rfl, h1, q⟩
theorem w_tProp {σ : St} {H : Hp} {Q : VK} {C : Addr} {sp : Sp} {E : XK} {ta : TE} (q : ta σ H fun x H1 => ∃ a dx fs, x = .ref a ∧ H1 a = some (.ins C dx fs) ∧ sp [.ref a] H1 Q E) : tProp C sp [] E ta σ H Q := q
def rMn2 : List V → Hp → VK → Prop := fun xs H Q => ∃ i j, xs = [.int i, .int j] ∧ Q (.int (if j < i then j else i)) H
theorem c_mn2 {X : Cx} (hc : X.calm = true) : CallR X (.builtin "min") rMn2 := call_min2 hc
theorem w_mn2 {H : Hp} {Q : VK} {i j : Int} (q : Q (.int (if j < i then j else i)) H) : rMn2 [.int i, .int j] H Q := ⟨i, j, rfl, q⟩
/-- what is counted of each kind -/
def kindsOf (ts : List Tr) (f : Tr → Int) : List (Str × Int) := ts.map fun t => (t.1, f t)
noncomputable def made (ts : List Tr) (n : Int) : List (Str × Int) := kindsOf ts fun t => t.2.1 * drk ts n / t.2.2
noncomputable def left (ts : List Tr) (n : Int) : List (Str × Int) := kindsOf ts fun t => t.2.1 * drk ts n % t.2.2
def sp_Offer_trades_made (K : PySem.W.Frag) : Sp := fun vs H Q _ => ∃ (o : Addr) (ts : List Tr) (n : Int), vs = [.ref o, .int n] ∧ OfferAt K H o ts ∧ OfferOk ts ∧ 0 ≤ n ∧ n ≤ 1000000000000000000 ∧ ∀ p H', H p = none → Ex H H' → H' p = some (.dK (dKv (made ts n))) → Q (.ref p) H'
theorem len_Offer_trades_made {K} : ∀ vs H Q E, sp_Offer_trades_made K vs H Q E → vs.length = 2 := by rintro _ _ _ _ ⟨_, _, _, rfl, _⟩; rfl
theorem ap_Offer_trades_made {K : PySem.W.Frag} {H : Hp} {Q : VK} {E : XK} {o : Addr} {ts : List Tr} {n : Int} (h : OfferAt K H o ts) (ok : OfferOk ts) (h1 : 0 ≤ n) (h2 : n ≤ 1000000000000000000) (k : ∀ p H', H p = none → Ex H H' → H' p = some (.dK (dKv (made ts n))) → Q (.ref p) H') : sp_Offer_trades_made K [.ref o, .int n] H Q E := ⟨o, ts, n, rfl, h, ok, h1, h2, k⟩
def sp_Offer_left_over (K : PySem.W.Frag) : Sp := fun vs H Q _ => ∃ (o : Addr) (ts : List Tr) (n : Int), vs = [.ref o, .int n] ∧ OfferAt K H o ts ∧ OfferOk ts ∧ 0 ≤ n ∧ n ≤ 1000000000000000000 ∧ ∀ p H', H p = none → Ex H H' → H' p = some (.dK (dKv (left ts n))) → Q (.ref p) H'
theorem len_Offer_left_over {K} : ∀ vs H Q E, sp_Offer_left_over K vs H Q E → vs.length = 2 := by rintro _ _ _ _ ⟨_, _, _, rfl, _⟩; rfl
theorem ap_Offer_left_over {K : PySem.W.Frag} {H : Hp} {Q : VK} {E : XK} {o : Addr} {ts : List Tr} {n : Int} (h : OfferAt K H o ts) (ok : OfferOk ts) (h1 : 0 ≤ n) (h2 : n ≤ 1000000000000000000) (k : ∀ p H', H p = none → Ex H H' → H' p = some (.dK (dKv (left ts n))) → Q (.ref p) H') : sp_Offer_left_over K [.ref o, .int n] H Q E := ⟨o, ts, n, rfl, h, ok, h1, h2, k⟩
/-! ### {k: v for target in t} -/
section
variable {K : PySem.W.Frag} {σ : St} {H : Hp} {Q : VK} {g : TG} {tk tv tl : TE} {vs : List Nat} {a : Addr} {xs : List V}
theorem putK_new {kvs : List (Key × V)} {k : Key} {v : V} (h : ∀ p ∈ kvs, p.1 ≠ k) : putK kvs k v = kvs ++ [(k, v)] := by
  unfold putK
  rw [if_neg]
  intro e
  obtain ⟨p, hp, e2⟩ := List.any_eq_true.mp e
  exact h p hp (of_decide_eq_true e2)
def dcTT (K : PySem.W.Frag) (g : TG) (tt : TT) (tk tv : TE) (vs : List Nat) (σ : St) (Q : VK) : VK := fun x H1 => ∃ a, x = .ref a ∧ (∃ xs, SqT K H1 a xs) ∧ ∀ D, H1 D = none → ∃ W : Nat → Nat → Hp → Prop, (∃ m, W 0 m (upd H1 D (.dK []))) ∧ ∀ i m H, W i m H →
  ((Itt K a).stop i H ∧ Q (.ref D) H) ∨ ((Itt K a).go i H ∧ ∃ Nx : Hp → Prop, (∀ H', Nx H' → ∃ m', m' < m ∧ W (i + 1) m' H') ∧ ∀ x H', (Itt K a).yld i H x H' → g x (wipe σ vs) H' fun σ2 H2 => wipe σ2 vs = wipe σ vs ∧ tt σ2 H2 fun b H3 =>
    if b = true then tk σ2 H3 fun y H4 => tv σ2 H4 fun z H5 => ∃ kvs k, y = kV k ∧ H5 D = some (.dK kvs) ∧ kvs.length < sizeLine ∧ Nx (upd H5 D (.dK (putK kvs k z))) else Nx H3)
theorem w_dcTs {tt : TT} (q : tl σ H (dcTT K g tt tk tv vs σ Q)) : tDc (iTup K tl) g tt tk tv vs σ H Q := q
/-- over a tuple, the keys distinct texts, the values numbers -/
theorem w_dcTa (kvs : List (Str × Int)) (nd : (kvs.map (·.1)).Nodup) (hx : SqT K H a xs) (hz : xs.length ≤ 1000) (hy : kvs.length = xs.length)
    (hb : ∀ (i : Nat) x p, xs[i]? = some x → kvs[i]? = some p → ∀ H1, Ex H H1 → ∀ R : V → V → Hp → Prop, (∀ H2, Ex H1 H2 → R (.str p.1) (.int p.2) H2) → g x (wipe σ vs) H1 fun σ2 H2 => wipe σ2 vs = wipe σ vs ∧ tk σ2 H2 fun y H3 => tv σ2 H3 fun z H4 => R y z H4)
    (q : ∀ p H2, H p = none → Ex H H2 → H2 p = some (.dK (dKv kvs)) → Q (.ref p) H2) : dcTT K g tYes tk tv vs σ Q (.ref a) H := by
  refine ⟨a, rfl, ⟨_, hx⟩, fun D hD => ?_⟩
  refine dc_tup (K := K) (a := a) (xs := xs) (fun i H' => Ex H H' ∧ H' D = some (.dK (dKv (kvs.take i)))) ⟨Evl.Ex.new hD, by simpa [dKv] using upd_same⟩ (fun i H' _ ⟨e, _⟩ => ex_sqT e hx) ?_ ?_
  · rintro i x H' hi ⟨e, hd⟩
    have lt := (List.getElem?_eq_some_iff.mp hi).1
    have hyi : kvs[i]? = some kvs[i] := List.getElem?_eq_getElem (by omega)
    refine hb i x kvs[i] hi hyi H' e (fun y z H5 => ∃ kvs' k, y = kV k ∧ H5 D = some (.dK kvs') ∧ kvs'.length < sizeLine ∧ Ex H (upd H5 D (.dK (putK kvs' k z))) ∧ (upd H5 D (.dK (putK kvs' k z))) D = some (.dK (dKv (kvs.take (i + 1))))) fun H2 e2 => ?_
    refine ⟨_, .inr kvs[i].1, rfl, e2 D _ hd, ?_, ExB.ex (Evl.Ex.trans e e2) hD ExB.upd, ?_⟩
    · unfold dKv
      rw [List.length_map, List.length_take]
      exact Nat.lt_of_le_of_lt (Nat.min_le_right _ _) (Nat.lt_of_le_of_lt (by omega : kvs.length ≤ 1000) (by decide))
    · have nw : ∀ p ∈ dKv (kvs.take i), p.1 ≠ Sum.inr kvs[i].1 := by
        intro p hp z
        obtain ⟨r, hr, rfl⟩ := List.mem_map.mp hp
        have e1 : kvs.map (·.1) = (kvs.take i).map (·.1) ++ (kvs.drop i).map (·.1) := by rw [← List.map_append, List.take_append_drop]
        rw [e1, List.nodup_append] at nd
        refine nd.2.2 r.1 (List.mem_map.mpr ⟨r, hr, rfl⟩) r.1 ?_ rfl
        refine List.mem_map.mpr ⟨kvs[i], ?_, (Sum.inr.inj z).symm⟩
        rw [List.mem_iff_getElem?]
        exact ⟨0, by rw [List.getElem?_drop]; simpa using hyi⟩
      rw [upd_same, putK_new nw, List.take_succ, hyi]
      unfold dKv
      rw [List.map_append]
      rfl
  · rintro H' ⟨e, hd⟩
    rw [← hy, List.take_length] at hd
    exact q D H' hD e hd
end
/-- what is counted of each kind may be compared -/
theorem okD_kinds {ts : List Tr} {f : Tr → Int} (ok : OfferOk ts) (so : ∀ t ∈ ts, PyData.strOk t.1 = true) (n : Nat) : okD (n + 3) (dicD (kindsOf ts f)) = true := by
  have e : ((kindsOf ts f).map fun p => (PyData.str p.1, PyData.int p.2)).map (fun p => keyS p.1) = ts.map (·.1) := by
    unfold kindsOf
    rw [List.map_map, List.map_map]
    rfl
  have l3 := ok.fair.1.1
  refine Bool.and_eq_true_iff.mpr ⟨decide_eq_true (by omega), Bool.and_eq_true_iff.mpr ⟨decide_eq_true ?_, Bool.and_eq_true_iff.mpr ⟨decide_eq_true ?_, List.all_eq_true.mpr fun p hp => ?_⟩⟩⟩
  · unfold kindsOf
    rw [List.length_map, List.length_map]
    omega
  · rw [e]
    exact ok.nodup
  · obtain ⟨q, hq, rfl⟩ := List.mem_map.mp hp
    unfold kindsOf at hq
    obtain ⟨t, ht, rfl⟩ := List.mem_map.mp hq
    exact so t ht
theorem left_many {ts : List Tr} (f : Fair ts) {n : Int} (hn : 0 ≤ n) (s : Std ts n) (k : Nat) : left ts (n + k * nd ts) = left ts n := by
  unfold left kindsOf
  refine List.map_congr_left fun t ht => ?_
  rw [std_many f hn s k]
  obtain ⟨c, hc⟩ := perd_fit f.1.2 t ht
  have e : t.2.1 * (drk ts n + k * perd ts) = t.2.1 * drk ts n + k * c * t.2.2 := by
    rw [Int.mul_add, ← Int.mul_assoc, Int.mul_comm t.2.1 (k : Int), Int.mul_assoc, hc, ← Int.mul_assoc, Int.mul_right_comm, Int.mul_comm (k : Int)]
  show (t.1, t.2.1 * (drk ts n + k * perd ts) % t.2.2) = (t.1, t.2.1 * drk ts n % t.2.2)
  rw [e, Int.add_mul_emod_self_right]
end EB
namespace EB
open PySem PySem.Spec L2 StX ClX PyProof.Rows
set_option maxHeartbeats 2000000
/-! ## a class in a variable; classmethods; what is true of an instance -/
section
variable {X : Cx} {CX : CXT} {k : Nat} {C f g : Addr} {sp : Sp} {E : XK} {x : PySem.Str} {np pos : Pos} {e : Expr} {es : List Expr} {tf te : TE} {t : TA}
def tMakeV (C : Addr) (sp : Sp) (E : XK) (tf : TE) (t : TA) : TE := fun σ H Q => tf σ H fun c H1 => c = .ref C ∧ tMakeR C sp E t σ H1 Q
theorem pe_makeV (M : Mk X.K C f) (F : FnR X.prog X.w X.K X.mg X.base CX k f sp) (hr : Room (k + 1) X.A) (hx : Passes CX X E) (hf : PE X (.Name x np) tf) (ha : PA X (e :: es) t)
    (he : starEach (e :: es) X.env = (false, eval e X.env) :: starEach es X.env := by rfl) (hpl : (backTo pos (starEach es X.env)).any (·.1) = false := by rfl) : PE X (.Call (.Name x np) (e :: es) [] pos) (tMakeV C sp E tf t) := by
  constructor
  intro pins s σ H Q I h
  refine wpAny_Call_Name_kw (thn (hf.run pins s σ H _ I h) fun u s1 z => ?_)
  obtain ⟨c, H1, I1, rc, rfl, q1⟩ := z
  obtain rfl : u = Value.ref C := rc
  refine PySem.W.callWith_K (h₀ := X.base) I1.ok.mod.kin M.kp (thn (ha.run pos pins s1 σ H1 _ I1 q1) fun us s2 z => ?_) he hpl
  obtain ⟨vs, H2, I2, r, q⟩ := z
  exact ⟨I2.kIn, run_makeR M F hr hx I2 r q⟩
/-- an instance as a test -/
def tTruO (C : Addr) (sp : Sp) (E : XK) (te : TE) : TT := fun σ H R => te σ H fun x H1 => ∃ a, x = .ref a ∧ (∃ dx fs, H1 a = some (.ins C dx fs)) ∧ sp [.ref a] H1 (fun r H' => ∃ b, r = .bl b ∧ R b H') E
theorem truthy_own {pins : List (Addr × Obj)} {σ : L2.St} {H : Hp} {s : Shared} {Q : Bool → Hp → Prop} {R : Bool → Shared → Prop} {a : Addr} (c : OwnM X.K C "__bool__" g) (F : FnR X.prog X.w X.K X.mg X.base CX k g sp) (hr : Room k X.A) (hx : Passes CX X E)
    (I : Inv X pins σ H s) (hi : ∃ dx fs, H a = some (.ins C dx fs)) (h : sp [.ref a] H (fun r H' => ∃ b, r = .bl b ∧ Q b H') E) (fin : ∀ b s' H', Inv X pins σ H' s' → Q b H' → R b s') : wpAny (model X.prog X.w) X.A (truthy (.ref a)) R X.xe s := by
  obtain ⟨ox, od, J, _⟩ := insC_at (X := X) I (.inr hi)
  unfold truthy
  refine wpAny_bind (m := callSpecial? (.ref a) (Str.ofString "__bool__")) (PySem.W.special_fn I.kIn J c.here (beq_iff_eq.mp c.isf) (wpAny_mono (run_own (us := [.ref a]) (vs := [.ref a]) F hr hx I (.cons rfl .nil) h) (fun r s' z => ?_) fun _ _ z => z))
  obtain ⟨y, H', I', ry, b, rfl, q⟩ := z
  cases ry
  exact wpAny_pure (fin b s' H' I' q)
theorem pt_own (he : PE X e te) (c : OwnM X.K C "__bool__" g) (F : FnR X.prog X.w X.K X.mg X.base CX k g sp) (hr : Room k X.A) (hx : Passes CX X E) (hw : ∀ whole, isTrue e X.env whole = (do let v ← whole; standAt e.pos; holding [v] (truthy v)) := by intro _; rfl) : PT X e (tTruO C sp E te) := by
  constructor
  intro pins s σ H Q I h
  refine isTrue_plain (thn (he.run pins s σ H _ I h) fun v s1 z => ?_) (hw _)
  obtain ⟨x, H1, I1, r1, a, rfl, hi, q⟩ := z
  cases r1
  exact truthy_own c F hr hx I1 hi q fun b s' H' I' z => ⟨H', I', z⟩
end
/-! ## x *= y -/
def ipM : TIp := fun x y H Q => ∃ i j, x = .int i ∧ y = .int j ∧ CMul i j ∧ Q (.int (i * j)) H
theorem ip_mul {X : Cx} : PIp X .Mult ipM := by
  intro pins s σ H x y v u Q I r1 r2 h
  obtain ⟨i, j, rfl, rfl, c, q⟩ := h
  obtain ⟨t, rfl⟩ := r1
  obtain ⟨t', rfl⟩ := r2
  exact imul_int ⟨.int _, H, I.tok _, ⟨_, rfl⟩, q⟩ c.ok
theorem w_ipM {i j : Int} {Q : VK} {H : Hp} (c : CMul i j) (q : Q (.int (i * j)) H) : ipM (.int i) (.int j) H Q := ⟨i, j, rfl, rfl, c, q⟩
/-! ## f() -/
theorem pe_callR0 {X : Cx} {CX : CXT} {k : Nat} {f : Addr} {sp : Sp} {E : XK} {x : PySem.Str} {p pos : Pos} (F : FnR X.prog X.w X.K X.mg X.base CX k f sp) (hr : Room k X.A) (hk : PySem.W.keepIn X.K (.ref f) = true) (hg : Gl X x) (hm : X.mg x = some (.ref f)) (hx : Passes CX X E) (nodb : (x == ("__debug__" : Str)) = false := by decide) :
    PE X (.Call (.Name x p) [] [] pos) (tCallR sp E tNil) := by
  constructor
  intro pins s σ H Q I h
  exact wpAny_Call_Name_kw (ld_glob I hg hm (PySem.W.callWith_K0 I.kIn hk (wpAny_call (run_fnR (us := []) (vs := []) F hr hx I .nil h))) nodb)
end EB
namespace EB
open PySem PySem.Spec PyProof.Rows L2
set_option maxHeartbeats 2000000
/-! ## a generator's if and for -/
section
variable {X : Cx}
def tGIf (c : TT) (ta tb : TGn) : TGn := fun D ys σ H => c σ H fun b H1 => if b = true then ta D ys σ H1 else tb D ys σ H1
theorem gs_if {test : Expr} {body orelse : List Stmt} {pos : Pos} {tc : TT} {ta tb : TGn} (hc : PT X test tc) (ha : GSs X body ta) (hb : GSs X orelse tb) : GS X (.If test body orelse pos) (tGIf tc ta tb) := by
  constructor
  intro A S ip R n ys s₀ c fs K J gd lv s σ H D g hn k hI ht
  obtain ⟨acc, cc, r, I⟩ := hI
  rw [exec_If]
  refine seg_at ?_
  show Seg _ A R _ n s₀ c ((isTrue test X.env (eval test X.env) >>= fun b => if b = true then execs body X.env else execs orelse X.env).wrap K J gd lv) fs s
  rw [Sem.bind_eq_wrap', Sem.wrap_wrap]
  refine seg_wrap ?_
  rw [g.over]
  refine wpAny_mono (hc.run _ s σ H _ I ht) (fun b s' hb' => ?_) fun x s' hx => k.exc n s₀ x s' hx
  obtain ⟨H2, I2, q2⟩ := hb'
  cases b with
  | true => exact ha.run A S ip R n ys s₀ c fs K J gd lv s' σ H2 D g hn k ⟨acc, cc, r, I2⟩ q2
  | false => exact hb.run A S ip R n ys s₀ c fs K J gd lv s' σ H2 D g hn k ⟨acc, cc, r, I2⟩ q2
end
section
variable {prog : Program} {w : World} {A : Around} {R : GenEnd} {Y : Protocol} {n : Nat} {s₀ : Shared} {fs : List Frame} {s : Shared} {env : Env} {target : Expr} {it : Value} {body : List Stmt}
/-- what a turn does with an exception -/
def forGone (env : Env) (x : Value) : Sem PySem.Fin := (do noteFrame x env; theTreesLotGoes x : Sem Unit).wrap (fun _ => .raise x) .raise id id
/-- what a turn does with how its body ended -/
def forWent (target : Expr) (it : Value) (body : List Stmt) (env : Env) (f : Flow) : Sem PySem.Fin := match f with
  | .next | .cont => .pure (.again (.forLoop target it body [] env))
  | .brk => .pure (.done .next)
  | .ret v => .pure (.done (.ret v))
theorem seg_forTurn (h : wpAny (model prog w) (A.over (.forLoop target it body [] env) fs) (pyNext it) (fun r s' => match r with
      | none => Seg (model prog w) A R Y n s₀ (.forLoop target it body [] env) (.pure (.again (.block [] env))) fs s'
      | some v => wpAny (model prog w) (A.over (.forLoop target it body [] env) fs) (letOwnedTupleGo target it v) (fun _ s1 => wpAny (model prog w) (A.over (.forLoop target it body [] env) fs) (assign target env v)
          (fun _ s2 => Seg (model prog w) A R Y n s₀ (.forLoop target it body [] env) ((execs body env).wrap (forWent target it body env) (forGone env) id id) fs s2) (fun x s2 => Seg (model prog w) A R Y n s₀ (.forLoop target it body [] env) (forGone env x) fs s2) s1)
          (fun x s1 => Seg (model prog w) A R Y n s₀ (.forLoop target it body [] env) (forGone env x) fs s1) s')
      (fun x s' => Seg (model prog w) A R Y n s₀ (.forLoop target it body [] env) (forGone env x) fs s') s) :
    Seg (model prog w) A R Y n s₀ (.forLoop target it body [] env) ((model prog w).den (.forLoop target it body [] env)) fs s := by
  have gone : ∀ {x : Value} {s' : Shared}, Seg (model prog w) A R Y n s₀ (.forLoop target it body [] env) (forGone env x) fs s' → Seg (model prog w) A R Y n s₀ (.forLoop target it body [] env) ((do noteFrame x env; theTreesLotGoes x : Sem Unit).bind fun _ => .raise x) fs s' := fun {x s'} hx => by
    rw [Sem.bind_eq_wrap]
    exact hx
  show Seg _ A R Y n s₀ _ ((forTurn target it body [] env).onRaise (fun x => do noteFrame x env; theTreesLotGoes x)) fs s
  simp only [forTurn]
  rw [Sem.onRaise_eq_wrap]
  refine seg_at ?_
  show Seg _ A R Y n s₀ _ (Sem.wrap Sem.pure _ id id (((pyNext it).onRaise _) >>= _)) fs s
  rw [Sem.bind_eq_wrap', Sem.wrap_wrap]
  refine seg_wrap (wpAny_onRaise (wpAny_mono h (fun r s' hr => ?_) fun x s' hx => wpAny_standAt (gone hx)))
  cases r with
  | none => exact hr
  | some v =>
    show Seg _ A R Y n s₀ _ (Sem.wrap _ _ _ _ (letOwnedTupleGo target it v >>= fun _ => assign target env v >>= fun _ => execs body env >>= _)) fs s'
    rw [Sem.bind_eq_wrap', Sem.wrap_wrap]
    refine seg_wrap (wpAny_mono hr (fun _ s1 h1 => ?_) fun x s1 hx => gone hx)
    rw [Sem.bind_eq_wrap', Sem.wrap_wrap]
    refine seg_wrap (wpAny_mono h1 (fun _ s2 h2 => ?_) fun x s2 hx => gone hx)
    rw [Sem.bind_eq_wrap', Sem.wrap_wrap]
    rw [Sem.wrap_congr (execs body env) _ _ (K' := forWent target it body env) (H' := forGone env) (fun f => by cases f <;> rfl) (fun e => by first | exact Sem.bind_eq_wrap _ _ | (show (do noteFrame e env; theTreesLotGoes e : Sem Unit).bind (fun _ => .raise e) = _; rw [Sem.bind_eq_wrap]; rfl))]
    exact h2
end
section
variable {X : Cx}
def tGFor (wi : TI) (g : TG) (tb : TGn) : TGn := fun D ys σ H => wi σ H fun J H1 => ∃ W : Nat → Nat → List V → L2.St → Hp → Prop, (∃ m, W 0 m ys σ H1) ∧ ∀ i m ys σ H, W i m ys σ H →
  (J.stop i H ∧ D.nx ys σ H) ∨ (J.go i H ∧ ∃ N : List V → L2.St → Hp → Prop, (∀ ys' σ' H', N ys' σ' H' → ∃ m', m' < m ∧ W (i + 1) m' ys' σ' H') ∧ ∀ x H', J.yld i H x H' → g x σ H' fun σ2 H2 => tb { D with nx := N, ct := N, bk := D.nx } ys σ2 H2)
theorem gs_for {tg iter : Expr} {body : List Stmt} {wi : TI} {g : TG} {tb : TGn} {pos : Pos} (hp : PassesOwn (model X.prog X.w) X.A X.env X.xe) (hcalm : X.calm = true) (hi : PI X tg iter wi) (hg : PG X tg g) (hb : GSs X body tb)
    (hs : ∀ x, foldedSetIterable iter X.env x = pure x := by intro _; rfl) : GS X (.For tg iter body [] pos) (tGFor wi g tb) := by
  constructor
  intro A S ip R n ys s₀ c fs K J gd lv s σ H D gc hn k hI ht
  obtain ⟨acc, cc, r, I⟩ := hI
  rw [exec_For]
  refine seg_at ?_
  show Seg _ A R _ n s₀ c ((eval iter X.env >>= fun v => foldedSetIterable iter X.env v >>= fun x => standAt iter.pos >>= fun _ => holding [x] (pyIter x) >>= fun it => runOwn (.forLoop tg it body [] X.env) X.env).wrap K J gd lv) fs s
  rw [Sem.bind_eq_wrap', Sem.wrap_wrap]
  refine seg_wrap ?_
  rw [gc.over]
  refine wpAny_mono (hi.run _ s σ H _ I ht) (fun v s1 h1 => ?_) fun x s' hx => k.exc n s₀ x s' hx
  rw [hs v]
  refine seg_at ?_
  show Seg _ A R _ n s₀ c ((holding [v] (pyIter v) >>= fun it => runOwn (.forLoop tg it body [] X.env) X.env).wrap K J gd lv) fs s1
  rw [Sem.bind_eq_wrap', Sem.wrap_wrap]
  refine seg_wrap (wpAny_holding ?_)
  rw [gc.over]
  refine wpAny_mono h1 (fun itv s2 h2 => ?_) fun x s' hx => k.exc n s₀ x s' hx
  obtain ⟨it, fp, tn, Jt, H2, rfl, I2, T, st2, f2, W, ⟨m0, w0⟩, turn⟩ := h2
  have stat : ∀ {acc' : Array Value} {c' : Nat} {H' : Hp}, (∀ b ∈ fp, H' b = none) → ∀ b ∈ fp, FpOk X ((S, lstObj acc' c') :: ip) H' b := fun {acc' c' H'} hn b hb => by
    obtain ⟨_, z2, z3, z4, z5, z6⟩ := f2 b hb
    refine ⟨hn b hb, z2, z3, z4, z5, fun q hq => ?_⟩
    rcases List.mem_append.mp hq with hq | hq
    · exact z6 q (List.mem_append_left _ hq)
    · rcases List.mem_cons.mp hq with hq | hq
      · rw [hq]
        exact z6 (S, lstObj acc cc) (List.mem_append_right _ List.mem_cons_self)
      · exact z6 q (List.mem_append_right _ (List.mem_cons_of_mem _ hq))
  have offS : ∀ b ∈ fp, b ≠ S := fun b hb z => by
    obtain ⟨_, _, _, _, _, z6⟩ := f2 b hb
    exact z6 (S, lstObj acc cc) (List.mem_append_right _ List.mem_cons_self) z.symm
  refine seg_call fun p => ?_
  have gl := fun (kk : Result → Sem PySem.Fin) => gc_loop (k := kk) (c' := .forLoop tg (.ref it) body [] X.env) (l := lv []) (kp := []) (p := p) gc rfl rfl
  have loop : ∀ (m i n : Nat) (ys : List V) (s₀ s : Shared) (σ : L2.St) (H : Hp), n + ys.length = sizeLine → W i m ys σ H → GI X S ip ys σ H s → tn i s.heap → (∀ b ∈ fp, H b = none) →
      Seg (model X.prog X.w) A R (GY X S) n s₀ (.forLoop tg (.ref it) body [] X.env) ((model X.prog X.w).den (.forLoop tg (.ref it) body [] X.env))
        (.ret (fun r => ((match r with | .ok f => (.pure f : Sem Flow) | .error e => .raise e).onRaise (cameBack X.env)).wrap K J gd lv) none (gd false) (lv []) c p [] :: fs) s := by
    intro m
    induction m using Nat.strongRecOn with
    | ind m ih =>
      intro i n ys s₀ s σ H hn w hI st fr
      have ee : ∀ (n : Nat) (s₀ : Shared) (x : Value) (s' : Shared), X.xe x s' → Seg (model X.prog X.w) A R (GY X S) n s₀ (.forLoop tg (.ref it) body [] X.env) (forGone X.env x)
          (.ret (fun r => ((match r with | .ok f => (.pure f : Sem Flow) | .error e => .raise e).onRaise (cameBack X.env)).wrap K J gd lv) none (gd false) (lv []) c p [] :: fs) s' := fun n s₀ x s' hx => by
        refine seg_wrap ?_
        rw [(gl _).over]
        refine wpAny_bind (wpAny_mono (hp x s' hx) (fun _ s'' hcb => wpAny_theTreesLotGoes (seg_leaf (.error x) (seg_cameBack gc k hcb))) fun y s'' hcb => seg_leaf (.error y) (seg_cameBack gc k hcb))
      refine seg_forTurn ?_
      rw [(gl _).over]
      obtain ⟨acc, cc, r, I⟩ := hI
      rcases turn i m ys σ H w with ⟨stop, qn⟩ | ⟨go, N, hN, step⟩
      · refine wpAny_mono (T.done X rfl rfl rfl hcalm i _ s σ H X.xe I (stat fr) st stop) (fun rr s4 hr => ?_) fun x s' hx => ee n s₀ x s' hx
        obtain ⟨rfl, I4⟩ := hr
        exact seg_again rfl (seg_leaf (.ok .next) (k.ok n ys s₀ s4 .next hn ⟨σ, H, ⟨acc, cc, r, I4⟩, qn⟩))
      · refine wpAny_mono (T.item X rfl rfl rfl hcalm i _ s σ H X.xe I (stat fr) st go) (fun rr s4 hr => ?_) fun x s' hx => ee n s₀ x s' hx
        obtain ⟨u, rfl, h4⟩ := hr
        refine wpAny_mono h4 (fun _ s5 h5 => ?_) fun x s' hx => ee n s₀ x s' hx
        obtain ⟨x, H5, I5, r5, y5, st5, fr5⟩ := h5
        have I5' := I5.pinned (stat fr5) (T.obj _ _ st5)
        refine wpAny_mono (hg.run _ s5 σ H5 x u _ I5' r5 (step x H5 y5)) (fun _ s6 h6 => ?_) fun x s' hx => ee n s₀ x s' hx
        obtain ⟨σ6, H6, I6, q6⟩ := h6
        have gi : ∀ {ys' : List V} {σ7 : L2.St} {H7 : Hp} {s7 : Shared}, GI X S (ip ++ pinsAt fp s5.heap) ys' σ7 H7 s7 → GI X S ip ys' σ7 H7 s7 := fun ⟨a, b, r', I'⟩ => ⟨a, b, r', (show L2.Inv X (((S, lstObj a b) :: ip) ++ pinsAt fp s5.heap) _ _ _ from I').unpinned⟩
        have at5 : ∀ {ys' : List V} {σ7 : L2.St} {H7 : Hp} {s7 : Shared}, GI X S (ip ++ pinsAt fp s5.heap) ys' σ7 H7 s7 → tn (i + 1) s7.heap ∧ ∀ b ∈ fp, H7 b = none := fun ⟨a, b, r', I'⟩ => by
          refine ⟨T.keep _ _ _ st5 fun d hd o e => (I'.pin (d, o) ?_).1, fun d hd => ?_⟩
          · exact List.mem_append_right _ (List.mem_cons_of_mem _ (List.mem_append_right _ (mem_pinsAt hd e)))
          · obtain ⟨o, e, _⟩ := T.obj _ _ st5 d hd
            exact (I'.pin (d, o) (List.mem_append_right _ (List.mem_cons_of_mem _ (List.mem_append_right _ (mem_pinsAt hd e))))).2.1
        have gc' : GC X S (ip ++ pinsAt fp s5.heap) A (.forLoop tg (.ref it) body [] X.env) (.ret (fun r => ((match r with | .ok f => (.pure f : Sem Flow) | .error e => .raise e).onRaise (cameBack X.env)).wrap K J gd lv) none (gd false) (lv []) c p [] :: fs) id :=
          { gl _ with ip := fun q hq => (List.mem_append.mp hq).elim (fun z => gc.ip q z) fun z => offS q.1 (of_pinsAt z).1 }
        have I6' : L2.Inv X ((S, lstObj acc cc) :: (ip ++ pinsAt fp s5.heap)) σ6 H6 s6 := I6
        refine hb.run A S (ip ++ pinsAt fp s5.heap) R n ys s₀ _ _ _ _ id id s6 σ6 H6 { D with nx := N, ct := N, bk := D.nx } gc' hn ⟨fun n' ys' s₀' s7 f hn' hs => ?_, fun n' s₀' x s7 hx => ee n' s₀' x s7 hx⟩ ⟨acc, cc, r, I6'⟩ q6
        cases f with
        | next =>
          obtain ⟨σ7, H7, I7, n7⟩ := hs
          obtain ⟨m', hm, w7⟩ := hN ys' σ7 H7 n7
          exact seg_again rfl (ih m' hm (i + 1) n' ys' s₀' s7 σ7 H7 hn' w7 (gi I7) (at5 I7).1 (at5 I7).2)
        | cont =>
          obtain ⟨σ7, H7, I7, n7⟩ := hs
          obtain ⟨m', hm, w7⟩ := hN ys' σ7 H7 n7
          exact seg_again rfl (ih m' hm (i + 1) n' ys' s₀' s7 σ7 H7 hn' w7 (gi I7) (at5 I7).1 (at5 I7).2)
        | brk =>
          obtain ⟨σ7, H7, I7, n7⟩ := hs
          exact seg_leaf (.ok .next) (k.ok n' ys' s₀' s7 .next hn' ⟨σ7, H7, gi I7, n7⟩)
        | ret v =>
          obtain ⟨x7, σ7, H7, I7, r7, n7⟩ := hs
          exact seg_leaf (.ok (.ret v)) (k.ok n' ys' s₀' s7 (.ret v) hn' ⟨x7, σ7, H7, gi I7, r7, n7⟩)
  exact loop m0 0 n ys s₀ s2 σ H2 hn w0 ⟨acc, cc, r, I2⟩ st2 fun b hb => (f2 b hb).1
end
end EB
namespace EB
open PySem PySem.Spec L2 StX ClX PyProof.Rows
set_option maxHeartbeats 2000000
/-! ## bool(o), o an instance with its own __bool__ -/
section
variable {X : Cx} {CX : CXT} {k : Nat} {C g : Addr} {sp : Sp} {E : XK} {A : Around}
/-- g called by values, further in -/
theorem run_in {pins : List (Addr × Obj)} {σ : L2.St} {H : Hp} {s : Shared} {Q : VK} {vs : List V} {us : List Value} (F : FnR X.prog X.w X.K X.mg X.base CX k g sp) (hr : Room k A) (hA : A.frames = some X.stack) (hx : Passes CX X E) (I : Inv X pins σ H s) (r : Vals vs us) (h : sp vs H Q E) :
    wpAny (model X.prog X.w) A (call (.ref g) us) (EP X pins σ Q) X.xe s := by
  have e0 := I.env0
  refine wpAny_call (codeAny_mono (F A X.stack s H us vs Q E hr ⟨hA, e0.mod, e0.bs, e0.bsz, e0.funs, e0.frf, e0.hok, e0.bare⟩ r h) fun r s' hq => ?_)
  cases r with
  | error e => exact hx pins σ H s e s' I hq
  | ok fl =>
    cases fl with
    | ret u => exact I.after hq
    | next => exact False.elim hq
    | brk => exact False.elim hq
    | cont => exact False.elim hq
theorem truthy_in {pins : List (Addr × Obj)} {σ : L2.St} {H : Hp} {s : Shared} {Q : Bool → Hp → Prop} {R : Bool → Shared → Prop} {a : Addr} (c : OwnM X.K C "__bool__" g) (F : FnR X.prog X.w X.K X.mg X.base CX k g sp) (hr : Room k A) (hA : A.frames = some X.stack) (hx : Passes CX X E)
    (I : Inv X pins σ H s) (hi : ∃ dx fs, H a = some (.ins C dx fs)) (h : sp [.ref a] H (fun r H' => ∃ b, r = .bl b ∧ Q b H') E) (fin : ∀ b s' H', Inv X pins σ H' s' → Q b H' → R b s') : wpAny (model X.prog X.w) A (truthy (.ref a)) R X.xe s := by
  obtain ⟨ox, od, J, _⟩ := insC_at (X := X) I (.inr hi)
  unfold truthy
  refine wpAny_bind (m := callSpecial? (.ref a) (Str.ofString "__bool__")) (PySem.W.special_fn I.kIn J c.here (beq_iff_eq.mp c.isf) (wpAny_mono (run_in (us := [.ref a]) (vs := [.ref a]) F hr hA hx I (.cons rfl .nil) h) (fun r s' z => ?_) fun _ _ z => z))
  obtain ⟨y, H', I', ry, b, rfl, q⟩ := z
  cases ry
  exact wpAny_pure (fin b s' H' I' q)
theorem call_boolO {pins : List (Addr × Obj)} {σ : L2.St} {H : Hp} {s : Shared} {Q : VK} {a : Addr} (c : OwnM X.K C "__bool__" g) (F : FnR X.prog X.w X.K X.mg X.base CX k g sp) (hr : Room k A.in1.in1) (hA : A.frames = some X.stack) (hx : Passes CX X E)
    (I : Inv X pins σ H s) (hi : ∃ dx fs, H a = some (.ins C dx fs)) (h : sp [.ref a] H (fun r H' => ∃ b, r = .bl b ∧ Q (.bl b) H') E) : wpAny (model X.prog X.w) A (call (.type "bool") [.ref a]) (EP X pins σ Q) X.xe s := by
  refine callType_codes (T := "bool") (Bi := Builtin.«object.__init__») (Q₁ := fun r s₁ => ∃ b, r = .bool b ∧ EP X pins σ Q r s₁) PySem.F.called_bool (PySem.F.typeCall_bool_1 _) PySem.F.entry_object_init ?_ ?_
  · refine codeAny_of_tree ?_
    show wpAny _ A.in1.in1 (do checkBuiltinCall "bool.__new__" ⟨[.type "bool", .ref a], []⟩; again (.builtin "bool.__new__" ⟨[.type "bool", .ref a], []⟩)) _ _ s
    refine wpAny_bind (wpAny_of_eq (PySem.F.newCall_bool_1 _) (wpAny_pure ⟨plainId_quiet PySem.F.called_bool.plain _, codeAny_builtin PySem.F.entry_bool_new ?_⟩))
    rw [Around.under_plainId PySem.F.called_bool.plain _]
    unfold Builtin.«bool.__new__»
    have f1 := PySem.F.conv_sub_bool
    repeat (any_goals (first | assumption | (with_reducible refine truthy_in c F hr hA hx I hi h ?_) | wp_step))
    exact fun b s' H' I' q => wpAny_pure ⟨b, rfl, .bl b, H', I', rfl, q⟩
  · rintro obj s₁ ⟨b, rfl, hq⟩
    exact ⟨rfl, PySem.F.args_object_init_2 _ _, object_init_meets PySem.F.called_bool.init.lookup PySem.F.called_bool.made (by decide) _ _ A.in1 _ s₁ ⟨rfl, rfl, hq⟩⟩
def tBoolO (C : Addr) (sp : Sp) (E : XK) (te : TE) : TE := fun σ H Q => te σ H fun x H1 => ∃ a, x = .ref a ∧ (∃ dx fs, H1 a = some (.ins C dx fs)) ∧ sp [.ref a] H1 (fun r H' => ∃ b, r = .bl b ∧ Q (.bl b) H') E
theorem pe_boolO {e : Expr} {te : TE} {p pos : Pos} (he : PE X e te) (c : OwnM X.K C "__bool__" g) (F : FnR X.prog X.w X.K X.mg X.base CX k g sp) (hr : Room k X.A.in1.in1) (hx : Passes CX X E) (hg : Gl X "bool") (hm : X.mg "bool" = none)
    (hv : bootBuiltins "bool" = some (.type "bool") := by rfl) (hs : starEach [e] X.env = (false, eval e X.env) :: starEach [] X.env := by rfl) : PE X (.Call (.Name "bool" p) [e] [] pos) (tBoolO C sp E te) := by
  refine ⟨fun pins s σ H Q I hq => wpAny_Call_Name_kw (ld_blt I hg hm hv (PyProof.Rows.callWith_type1 ?_ hs rfl))⟩
  rw [hs] ; show wpAny _ _ (spliced ((false, eval e X.env) :: backTo pos (starEach [] X.env))) _ _ s
  refine Calls.spliced_cons (thn (he.run pins s σ H _ I hq) fun v s1 z => ?_)
  obtain ⟨x, H1, I1, r1, a, rfl, hi, q⟩ := z
  cases r1
  exact Calls.spliced_nil (call_boolO c F hr I1.env0.frames hx I1 hi q)
end
end EB
namespace EB
open PySem PySem.Spec L2 StX ClX
/-! ## the fewest bottles; numbers that come about -/
def sp_fewest (_ : PySem.W.Frag) : Sp := fun vs H Q _ => ∃ (a : Addr) (ts : List Tr) (d : Int), vs = [.ref a, .int d] ∧ Trs H a ts ∧ Fair ts ∧ 1 ≤ ts.length ∧ 0 ≤ d ∧ ∀ F H', IsFew ts d F → Ex H H' → Q (.int F) H'
theorem len_fewest {K} : ∀ vs H Q E, sp_fewest K vs H Q E → vs.length = 2 := by rintro _ _ _ _ ⟨_, _, _, rfl, _⟩; rfl
theorem ap_fewest {K : PySem.W.Frag} {H : Hp} {Q : VK} {E : XK} {a : Addr} {ts : List Tr} {d : Int} (h : Trs H a ts) (f : Fair ts) (l : 1 ≤ ts.length) (d0 : 0 ≤ d) (k : ∀ F H', IsFew ts d F → Ex H H' → Q (.int F) H') : sp_fewest K [.ref a, .int d] H Q E := ⟨a, ts, d, rfl, h, f, l, d0, k⟩
def sp_Offer_fewest_bottles (K : PySem.W.Frag) : Sp := fun vs H Q _ => ∃ (o : Addr) (ts : List Tr) (d : Int), vs = [.ref o, .int d] ∧ OfferAt K H o ts ∧ OfferOk ts ∧ 0 ≤ d ∧ d ≤ 1000000000000000000 ∧ ∀ F H', IsFew ts d F → Ex H H' → Q (.int F) H'
theorem len_Offer_fewest_bottles {K} : ∀ vs H Q E, sp_Offer_fewest_bottles K vs H Q E → vs.length = 2 := by rintro _ _ _ _ ⟨_, _, _, rfl, _⟩; rfl
theorem ap_Offer_fewest_bottles {K : PySem.W.Frag} {H : Hp} {Q : VK} {E : XK} {o : Addr} {ts : List Tr} {d : Int} (h : OfferAt K H o ts) (ok : OfferOk ts) (d0 : 0 ≤ d) (d1 : d ≤ 1000000000000000000) (k : ∀ F H', IsFew ts d F → Ex H H' → Q (.int F) H') : sp_Offer_fewest_bottles K [.ref o, .int d] H Q E := ⟨o, ts, d, rfl, h, ok, d0, d1, k⟩
def sp_Offer_contains (K : PySem.W.Frag) : Sp := fun vs H Q _ => ∃ (o : Addr) (ts : List Tr) (d : Int), vs = [.ref o, .int d] ∧ OfferAt K H o ts ∧ OfferOk ts ∧ 0 ≤ d ∧ ∀ (b : Bool) H', (b = true ↔ Com ts d) → Ex H H' → Q (.bl b) H'
theorem len_Offer_contains {K} : ∀ vs H Q E, sp_Offer_contains K vs H Q E → vs.length = 2 := by rintro _ _ _ _ ⟨_, _, _, rfl, _⟩; rfl
/-- d in o -/
theorem w_inOffer {K : PySem.W.Frag} {H : Hp} {Q : VK} {E : XK} {o : Addr} {ts : List Tr} {d : Int} (h : OfferAt K H o ts) (ok : OfferOk ts) (d0 : 0 ≤ d) (k : ∀ (b : Bool) H', (b = true ↔ Com ts d) → Ex H H' → Q (.bl b) H') : rInO (He.ga K "Offer") (sp_Offer_contains K) E false (.int d) (.ref o) H Q := by
  obtain ⟨dx, a, h1, hT⟩ := id h
  refine ⟨o, rfl, ⟨dx, _, h1⟩, o, ts, d, rfl, h, ok, d0, fun b H' e x => ⟨b, rfl, ?_⟩⟩
  rw [Bool.bne_false]
  exact k b H' e x
theorem w_notInOffer {K : PySem.W.Frag} {H : Hp} {Q : VK} {E : XK} {o : Addr} {ts : List Tr} {d : Int} (h : OfferAt K H o ts) (ok : OfferOk ts) (d0 : 0 ≤ d) (k : ∀ (b : Bool) H', (b = true ↔ Com ts d) → Ex H H' → Q (.bl (!b)) H') : rInO (He.ga K "Offer") (sp_Offer_contains K) E true (.int d) (.ref o) H Q := by
  obtain ⟨dx, a, h1, hT⟩ := id h
  refine ⟨o, rfl, ⟨dx, _, h1⟩, o, ts, d, rfl, h, ok, d0, fun b H' e x => ⟨b, rfl, ?_⟩⟩
  rw [Bool.bne_true]
  exact k b H' e x
end EB
namespace EB
open PySem PySem.Spec L2 StX ClX
set_option maxHeartbeats 1000000
/-! ## rounds -/
theorem passE0 {X : Cx} : Passes (L2.CX X.prog X.w) X E0 := by
  rintro pins σ H s e s' I ⟨a, B, H', cls, d, ea, fl, hok, ub, na, os, ag, he⟩
  exact he.elim
theorem noStop0 {K : PySem.W.Frag} : NoStop K E0 := fun _ _ _ z => z.elim
/-- the bottles of each round from the drinks so far and the full bottles on: as long as there are any -/
inductive Rounds (ts : List Tr) (n : Int) : Int → Int → List Int → Prop
  | nil {d : Int} : Rounds ts n d 0 []
  | cons {d f : Int} {fs : List Int} : 0 < f → Rounds ts n (d + f) (bo ts (d + f) - bo ts d) fs → Rounds ts n d f (f :: fs)
theorem Rounds.unique {ts : List Tr} {n : Int} : ∀ {d f : Int} {xs ys : List Int}, Rounds ts n d f xs → Rounds ts n d f ys → xs = ys
  | _, _, _, _, .nil, .nil => rfl
  | _, _, _, _, .nil, .cons h _ => absurd h (by decide)
  | _, _, _, _, .cons h _, .nil => absurd h (by decide)
  | _, _, _, _, .cons _ a, .cons _ b => by rw [a.unique b]
theorem Rounds.same {ts us : List Tr} {n : Int} (h : ∀ d, bo us d = bo ts d) : ∀ {d f : Int} {xs : List Int}, Rounds us n d f xs → Rounds ts n d f xs
  | _, _, _, .nil => .nil
  | _, _, _, .cons p r => .cons p (by
    have q := r.same h
    rw [h, h] at q
    exact q)
def sp_Offer_rounds (K : PySem.W.Frag) : SpG := fun vs H Q _ => ∃ (o : Addr) (ts : List Tr) (n : Int), vs = [.ref o, .int n] ∧ OfferAt K H o ts ∧ OfferOk ts ∧ 0 ≤ n ∧ n ≤ 1000000000000000000 ∧
  ∀ fs H', Rounds ts n 0 n fs → fs.length ≤ 1000 → Ex H H' → Q (fs.map V.int) H'
theorem len_Offer_rounds {K} : ∀ vs H Q E, sp_Offer_rounds K vs H Q E → vs.length = 2 := by rintro _ _ _ _ ⟨_, _, _, rfl, _⟩; rfl
theorem ap_Offer_rounds {K : PySem.W.Frag} {H : Hp} {Q : List V → Hp → Prop} {E : XK} {o : Addr} {ts : List Tr} {n : Int} (h : OfferAt K H o ts) (ok : OfferOk ts) (h1 : 0 ≤ n) (h2 : n ≤ 1000000000000000000) (k : ∀ fs H', Rounds ts n 0 n fs → fs.length ≤ 1000 → Ex H H' → Q (fs.map V.int) H') : sp_Offer_rounds K [.ref o, .int n] H Q E :=
  ⟨o, ts, n, rfl, h, ok, h1, h2, k⟩
end EB
namespace EB
open PySem PySem.Spec L2 StX ClX
set_option maxHeartbeats 1000000
section
variable {K : PySem.W.Frag} {σ : St} {H : Hp} {Q : VK} {E : XK} {a b : Addr} {xs ys : List V}
theorem w_listG {C : Addr} {m : Str} {sp : SpG} {ta : TE} {t : TA} (q : ta σ H fun x H1 => ∃ a dx fs, x = .ref a ∧ H1 a = some (.ins C dx fs) ∧ fs.lookup m = none ∧ t σ H1 fun vs H2 => sp (x :: (vs ++ [])) H2 (fun out H3 => ∀ p, H3 p = none → Q (.ref p) (upd H3 p (.lst out))) E) :
    tListG (tMethG C m sp [] E ta t) σ H Q := q
theorem w_revTv {i : Nat} (h : σ[i]? = some (some (.ref a))) (hs : SqT K H a xs) (k : ∀ p H2, H p = none → Ex H H2 → H2 p = some (.tup xs.reverse) → Q (.ref p) H2) : tRevT K (tVar i) σ H Q := ⟨_, h, a, xs, rfl, hs, w_new1 k⟩
/-- t + u, whatever they hold -/
theorem w_catAny (h1 : H a = some (.tup xs)) (h2 : H b = some (.tup ys)) (z : xs.length + ys.length ≤ 100000) (k : ∀ r H2, Ex H H2 → H2 r = some (.tup (xs ++ ys)) → Q (.ref r) H2) : rCatA K (.ref a) (.ref b) H Q := by
  refine ⟨a, b, xs, ys, rfl, rfl, Evl.st_of h1, Evl.st_of h2, Nat.le_trans z (by decide), fun e => ?_, fun _ e => ?_, fun _ _ p hp => k p _ (Evl.Ex.new hp) upd_same⟩
  · refine k b H (Evl.Ex.refl _) ?_
    rw [e]
    exact h2
  · refine k a H (Evl.Ex.refl _) ?_
    rw [e, List.append_nil]
    exact h1
/-- t[lo:hi], whatever it holds -/
theorem w_slAny {lo hi : Option Int} (h1 : H a = some (.tup xs)) (k : ∀ r H2, Ex H H2 → H2 r = some (.tup (cutV xs lo hi)) → Q (.ref r) H2) : rSlA K (.ref a) lo hi H Q := by
  refine ⟨a, xs, rfl, Evl.st_of h1, fun e => ?_, fun _ p hp => k p _ (Evl.Ex.new hp) upd_same⟩
  refine k a H (Evl.Ex.refl _) ?_
  unfold cutV
  rw [e.1, e.2, List.drop_zero, Nat.sub_zero, List.take_length]
  exact h1
theorem cut_to {k : Nat} (hk : k ≤ xs.length) : cutV xs none (some (k : Int)) = xs.take k := by
  unfold cutV
  rw [HT.sIx_nat, Nat.min_eq_left hk]
  show (xs.drop 0).take (k - 0) = xs.take k
  rw [List.drop_zero, Nat.sub_zero]
theorem cut_from {k : Nat} (hk : k ≤ xs.length) : cutV xs (some (k : Int)) none = xs.drop k := by
  unfold cutV
  rw [HT.sIx_nat, Nat.min_eq_left hk]
  show (xs.drop k).take (xs.length - k) = xs.drop k
  exact List.take_of_length_le (by rw [List.length_drop]; exact Nat.le_refl _)
end
end EB
namespace EB
open PySem PySem.Spec L2 StX ClX
set_option maxHeartbeats 1000000
/-! ## the same offer in other words -/
structure Alt (ts us : List Tr) : Prop where
  ok : OfferOk us
  bo : ∀ d, bo us d = bo ts d
  per : perd us = perd ts
theorem Alt.nd {ts us : List Tr} (a : Alt ts us) : nd us = nd ts := by
  unfold EB.nd
  rw [a.per, a.bo]
theorem alt_fair {ts us : List Tr} (f : Fair ts) (l : us.length ≤ 3) (g : ∀ t ∈ us, Good t) (h : ∀ d, bo us d = bo ts d) : Fair us := ⟨⟨l, g⟩, by rw [h]; exact f.2⟩
theorem alt_rev {ts : List Tr} (ok : OfferOk ts) : Alt ts ts.reverse := by
  have f := ok.fair
  have g : ∀ t ∈ ts.reverse, Good t := fun t ht => f.1.2 t (List.mem_reverse.mp ht)
  refine ⟨⟨alt_fair f (by rw [List.length_reverse]; exact f.1.1) g fun d => bo_rev d, by rw [List.length_reverse]; exact ok.one, fun t ht => ok.kinds t (List.mem_reverse.mp ht), ?_⟩, fun d => bo_rev d, same_perd f.1.2 g fun d => ?_⟩
  · rw [List.map_reverse]
    exact (List.reverse_perm _).nodup_iff.mpr ok.nodup
  · exact ⟨fun h t ht => h t (List.mem_reverse.mpr ht), fun h t ht => h t (List.mem_reverse.mp ht)⟩
theorem alt_dbl {ts : List Tr} {m : Int} (lt : LawTr m 6 ts) : Alt ts (ts.map dbl) := by
  have ok := lt.ok
  have f := ok.fair
  have g : ∀ t ∈ ts.map dbl, Good t := fun t ht => by
    obtain ⟨u, hu, rfl⟩ := List.mem_map.mp ht
    obtain ⟨a, b, c, d⟩ := f.1.2 u hu
    obtain ⟨e, f⟩ := lt.small u hu
    exact ⟨by show 0 ≤ 2 * u.2.1; omega, by show 2 * u.2.1 ≤ 12; omega, by show 1 ≤ 2 * u.2.2; omega, by show 2 * u.2.2 ≤ 12; omega⟩
  refine ⟨⟨alt_fair f (by rw [List.length_map]; exact f.1.1) g fun d => bo_dbl d, by rw [List.length_map]; exact ok.one, fun t ht => ?_, ?_⟩, fun d => bo_dbl d, same_perd f.1.2 g fun d => ?_⟩
  · obtain ⟨u, hu, rfl⟩ := List.mem_map.mp ht
    exact ok.kinds u hu
  · rw [List.map_map]
    exact ok.nodup
  · constructor
    · intro h t ht
      have q : (2 * t.2.2) ∣ (2 * t.2.1 * d) := h (dbl t) (List.mem_map.mpr ⟨t, ht, rfl⟩)
      rw [Int.mul_assoc] at q
      exact Int.dvd_of_mul_dvd_mul_left (by decide) q
    · intro h t ht
      obtain ⟨u, hu, rfl⟩ := List.mem_map.mp ht
      show (2 * u.2.2) ∣ (2 * u.2.1 * d)
      rw [Int.mul_assoc]
      exact Int.mul_dvd_mul_left 2 (h u hu)
def lab (n : Int) : Tr := ("label", 0, n)
theorem alt_more {ts : List Tr} {k n : Int} (lt : LawTr 2 k ts) (n1 : 1 ≤ n) (n2 : n ≤ 12) : Alt ts (ts ++ [lab n]) := by
  have ok := lt.ok
  have f := ok.fair
  have l2 := lt.len
  have g : ∀ t ∈ ts ++ [lab n], Good t := fun t ht => by
    rcases List.mem_append.mp ht with h | h
    · exact f.1.2 t h
    · rw [List.mem_singleton.mp h]
      exact ⟨Int.le_refl 0, (by decide : (0 : Int) ≤ 12), n1, n2⟩
  refine ⟨⟨alt_fair f (by rw [List.length_append, List.length_singleton]; omega) g fun d => bo_more, by rw [List.length_append, List.length_singleton]; omega, fun t ht => ?_, ?_⟩, fun d => bo_more, same_perd f.1.2 g fun d => ?_⟩
  · rcases List.mem_append.mp ht with h | h
    · exact ok.kinds t h
    · rw [List.mem_singleton.mp h]
      exact ⟨(by decide +kernel : isTK "label" = true), (by decide +kernel : ("label" : Str).length ≤ 8)⟩
  · rw [List.map_append, lt.kinds]
    have : ts.length = 0 ∨ ts.length = 1 ∨ ts.length = 2 := by omega
    show (lawKinds.take ts.length ++ [("label" : Str)]).Nodup
    rcases this with h | h | h <;> rw [h] <;> decide +kernel
  · constructor
    · exact fun h t ht => h t (List.mem_append_left _ ht)
    · intro h t ht
      rcases List.mem_append.mp ht with q | q
      · exact h t q
      · rw [List.mem_singleton.mp q]
        show n ∣ 0 * d
        rw [Int.zero_mul]
        exact Int.dvd_zero n
theorem okD_ints {fs : List Int} (h : fs.length ≤ 1000) (n : Nat) : okD (n + 2) (.list (fs.map PyData.int)) = true := by
  refine Bool.and_eq_true_iff.mpr ⟨decide_eq_true (by rw [List.length_map]; exact h), List.all_eq_true.mpr fun x hx => ?_⟩
  obtain ⟨i, _, rfl⟩ := List.mem_map.mp hx
  rfl
theorem dq_ints {H : Hp} : ∀ {fs : List Int}, DqAll H (fs.map V.int) (fs.map PyData.int)
  | [] => .nil
  | _ :: _ => .cons (.int _) dq_ints
end EB
namespace EB
open PySem PySem.Spec L2 StX ClX
theorem Src.upB {H H' : Hp} {h c l : Addr} (s : Src H h c) (nh : l ≠ h) (nc : l ≠ c) (e : ExB l H H') : Src H' h c := by
  obtain ⟨m, k, ns, h1, h2, r⟩ := s.ex
  exact ⟨m, k, ns, e _ _ nh.symm h1, e _ _ nc.symm h2, r⟩
/-- an offer of these trades or of the same in other words -/
def AltAt (K : PySem.W.Frag) (ts : List Tr) (H : Hp) (x : V) : Prop := ∃ o us, x = .ref o ∧ OfferAt K H o us ∧ Alt ts us
end EB
namespace EB
open PySem PySem.Spec L2 StX ClX
set_option maxHeartbeats 1000000
theorem pairedSnoc {α β : Type} {F : α → β → Prop} : ∀ {xs : List α} {ys : List β} {x : α} {y : β}, Paired F xs ys → F x y → Paired F (xs ++ [x]) (ys ++ [y])
  | _, _, _, _, .nil, h => .cons h .nil
  | _, _, _, _, .cons a r, h => .cons a (pairedSnoc r h)
theorem pairedRev {α β : Type} {F : α → β → Prop} : ∀ {xs : List α} {ys : List β}, Paired F xs ys → Paired F xs.reverse ys.reverse
  | _, _, .nil => .nil
  | _, _, .cons a r => by
    rw [List.reverse_cons, List.reverse_cons]
    exact pairedSnoc (pairedRev r) a
/-- [trade for target in t]: new trades, one for each -/
theorem w_lcTrs {K : PySem.W.Frag} {σ : St} {H : Hp} {Q : VK} {g : TG} {te : TE} {vs : List Nat} {a : Addr} {xs : List V} (us : List Tr) (hx : SqT K H a xs) (hz : xs.length ≤ 1000) (hy : us.length = xs.length)
    (hb : ∀ (i : Nat) x t, xs[i]? = some x → us[i]? = some t → ∀ H1, Ex H H1 → ∀ R : VK, (∀ v H2, TrAt H2 v t → Ex H1 H2 → R v H2) → g x (wipe σ vs) H1 fun σ2 H2 => wipe σ2 vs = wipe σ vs ∧ te σ2 H2 R)
    (q : ∀ p H2 zs, H p = none → Ex H H2 → H2 p = some (.lst zs) → Paired (TrAt H2) zs us → Q (.ref p) H2) : lcTT K g tYes te vs σ Q (.ref a) H := by
  refine ⟨a, rfl, ⟨_, hx⟩, fun D hD => ?_⟩
  refine lc_tup (K := K) (a := a) (xs := xs) (fun i H' => ∃ zs, Ex H H' ∧ H' D = some (.lst zs) ∧ Paired (TrAt H') zs (us.take i)) ⟨[], Evl.Ex.new hD, upd_same, by rw [List.take_zero]; exact .nil⟩ (fun i H' _ ⟨_, e, _⟩ => ex_sqT e hx) ?_ ?_
  · rintro i x H' hi ⟨zs, e, hd, hp⟩
    have lt := (List.getElem?_eq_some_iff.mp hi).1
    have hui : us[i]? = some us[i] := List.getElem?_eq_getElem (by omega)
    refine hb i x us[i] hi hui H' e _ fun v H2 tv e2 => ?_
    have hd2 := e2 D _ hd
    have lz := pairedLen hp
    rw [List.length_take] at lz
    refine ⟨zs, hd2, Nat.lt_of_le_of_lt (show zs.length ≤ 1000 by omega) (by decide), zs ++ [v], ExB.ex (Evl.Ex.trans e e2) hD ExB.upd, upd_same, ?_⟩
    rw [List.take_succ, hui]
    exact pairedSnoc (trsUpB hd2 (fun _ z => nomatch z) ExB.upd (trsUp e2 hp)) (tv.upB hd2 (fun _ z => nomatch z) ExB.upd)
  · rintro H' ⟨zs, e, hd, hp⟩
    rw [← hy, List.take_length] at hp
    exact q D H' zs hD e hd hp
end EB
namespace EB
open PySem PySem.Spec L2 StX ClX
/-- one piece less of a kind, if there is one -/
def sml (t : Tr) : Tr := (t.1, if t.2.1 - 1 > 0 then t.2.1 - 1 else 0, t.2.2)
theorem bo_app {xs ys : List Tr} {d : Int} : bo (xs ++ ys) d = bo xs d + bo ys d := by
  unfold bo
  rw [List.map_append, List.sum_append]
theorem split_at {ts : List Tr} {k : Nat} {t : Tr} (h : ts[k]? = some t) : ts = ts.take k ++ [t] ++ ts.drop (k + 1) := by
  obtain ⟨l, e⟩ := List.getElem?_eq_some_iff.mp h
  rw [List.append_assoc, ← e, List.singleton_append, List.getElem_cons_drop, List.take_append_drop]
theorem less_ok {ts : List Tr} {k : Nat} {t : Tr} (ok : OfferOk ts) (h : ts[k]? = some t) : OfferOk (ts.take k ++ [sml t] ++ ts.drop (k + 1)) ∧ ∀ d, 0 ≤ d → bo (ts.take k ++ [sml t] ++ ts.drop (k + 1)) d ≤ bo ts d := by
  have f := ok.fair
  have sp := split_at h
  have gt := f.1.2 t (List.mem_of_getElem? h)
  obtain ⟨g1, g2, g3, g4⟩ := gt
  have le : ∀ d, 0 ≤ d → bo (ts.take k ++ [sml t] ++ ts.drop (k + 1)) d ≤ bo ts d := fun d d0 => by
    have e : bo ts d = bo (ts.take k ++ [t] ++ ts.drop (k + 1)) d := by rw [← sp]
    rw [e, bo_app, bo_app, bo_app, bo_app]
    have one : bo [sml t] d ≤ bo [t] d := by
      rw [bo_cons, bo_cons]
      refine Int.add_le_add_right (Int.ediv_le_ediv (show 0 < t.2.2 by omega) (Int.mul_le_mul_of_nonneg_right ?_ d0)) _
      show (if t.2.1 - 1 > 0 then t.2.1 - 1 else 0) ≤ t.2.1
      split <;> omega
    omega
  have mem : ∀ u ∈ ts.take k ++ [sml t] ++ ts.drop (k + 1), u = sml t ∨ u ∈ ts := fun u hu => by
    rcases List.mem_append.mp hu with hu | hu
    · rcases List.mem_append.mp hu with hu | hu
      · exact .inr (List.mem_of_mem_take hu)
      · exact .inl (List.mem_singleton.mp hu)
    · exact .inr (List.mem_of_mem_drop hu)
  have len : (ts.take k ++ [sml t] ++ ts.drop (k + 1)).length = ts.length := by
    have := congrArg List.length sp
    simp only [List.length_append, List.length_singleton] at this ⊢
    omega
  have kd : (ts.take k ++ [sml t] ++ ts.drop (k + 1)).map (·.1) = ts.map (·.1) := by
    have e := congrArg (List.map (·.1)) sp
    rw [e]
    simp only [List.map_append]
    rfl
  have w := le 27720 (by decide)
  have w2 := f.2
  refine ⟨⟨⟨⟨by rw [len]; exact f.1.1, fun u hu => ?_⟩, by omega⟩, by rw [len]; exact ok.one, fun u hu => ?_, by rw [kd]; exact ok.nodup⟩, le⟩
  · rcases mem u hu with rfl | hu
    · refine ⟨?_, ?_, g3, g4⟩
      · show 0 ≤ (if t.2.1 - 1 > 0 then t.2.1 - 1 else 0)
        split <;> omega
      · show (if t.2.1 - 1 > 0 then t.2.1 - 1 else 0) ≤ 12
        split <;> omega
    · exact f.1.2 u hu
  · rcases mem u hu with rfl | hu
    · exact ok.kinds t (List.mem_of_getElem? h)
    · exact ok.kinds u hu
end EB
namespace EB
open PySem PySem.Spec L2 StX ClX
theorem pairedApp {α β : Type} {F : α → β → Prop} : ∀ {xs zs : List α} {ys ws : List β}, Paired F xs ys → Paired F zs ws → Paired F (xs ++ zs) (ys ++ ws)
  | _, _, _, _, .nil, h => h
  | _, _, _, _, .cons a r, h => .cons a (pairedApp r h)
theorem pairedTake {α β : Type} {F : α → β → Prop} : ∀ (n : Nat) {xs : List α} {ys : List β}, Paired F xs ys → Paired F (xs.take n) (ys.take n)
  | 0, _, _, _ => .nil
  | _ + 1, _, _, .nil => .nil
  | n + 1, _, _, .cons a r => .cons a (pairedTake n r)
theorem pairedDrop {α β : Type} {F : α → β → Prop} : ∀ (n : Nat) {xs : List α} {ys : List β}, Paired F xs ys → Paired F (xs.drop n) (ys.drop n)
  | 0, _, _, h => h
  | _ + 1, _, _, .nil => .nil
  | n + 1, _, _, .cons _ r => pairedDrop n r
end EB
namespace EB
open PySem PySem.Spec L2 StX ClX
set_option maxHeartbeats 1000000
/-! ## lists of numbers, compared -/
theorem noDics_ints : ∀ ys : List Int, noDics (ys.map PyData.int) = true
  | [] => rfl
  | _ :: ys => by
    show (true && noDics (ys.map PyData.int)) = true
    rw [noDics_ints ys]
    rfl
theorem eqv_ints : ∀ ys zs : List Int, PyData.eqvAll (ys.map PyData.int) (zs.map PyData.int) = decide (ys = zs)
  | [], [] => rfl
  | [], _ :: _ => rfl
  | _ :: _, [] => rfl
  | y :: ys, z :: zs => by
    have ih := eqv_ints ys zs
    rw [List.map_cons, List.map_cons]
    show (PyData.eqv (.int y) (.int z) && PyData.eqvAll (ys.map PyData.int) (zs.map PyData.int)) = _
    rw [ih]
    by_cases h : y = z
    · subst h
      by_cases g : ys = zs
      · simp [g, PyData.eqv]
      · simp [g, PyData.eqv]
    · simp [h, PyData.eqv]
section
variable {K : PySem.W.Frag} {H : Hp} {Q : VK} {a b : Addr} {ys zs : List Int}
theorem dqI : ∀ {fs : List Int}, DqAll H (fs.map V.int) (fs.map PyData.int)
  | [] => .nil
  | _ :: _ => .cons (.int _) dqI
theorem shapedI (l : ys.length ≤ 1000) : SeqAt.shaped (.list (ys.map PyData.int)) = true := by
  refine okD_shaped (n := 2) ?_ (noDics_ints ys) (by decide)
  refine Bool.and_eq_true_iff.mpr ⟨decide_eq_true (by rw [List.length_map]; exact l), List.all_eq_true.mpr fun x hx => ?_⟩
  obtain ⟨i, _, rfl⟩ := List.mem_map.mp hx
  rfl
theorem w_eqInts (ys zs : List Int) (h1 : H a = some (.lst (ys.map V.int))) (h2 : H b = some (.lst (zs.map V.int))) (l1 : ys.length ≤ 1000) (l2 : zs.length ≤ 1000) (q : Q (.bl (decide (ys = zs))) H) : rEqD K (.ref a) (.ref b) H Q := by
  refine w_eqD (d := .list (ys.map PyData.int)) (e := .list (zs.map PyData.int)) (Dq.dp _ _ (noDics_ints ys) (.lst h1 dqI)) (Dq.dp _ _ (noDics_ints zs) (.lst h2 dqI)) (shapedI l1) (shapedI l2) ?_
  show Q (.bl (PyData.eqvAll _ _)) H
  rw [eqv_ints]
  exact q
theorem w_neInts (ys zs : List Int) (h1 : H a = some (.lst (ys.map V.int))) (h2 : H b = some (.lst (zs.map V.int))) (l1 : ys.length ≤ 1000) (l2 : zs.length ≤ 1000) (q : Q (.bl (!decide (ys = zs))) H) : rNeD K (.ref a) (.ref b) H Q := by
  refine w_neD (d := .list (ys.map PyData.int)) (e := .list (zs.map PyData.int)) (Dq.dp _ _ (noDics_ints ys) (.lst h1 dqI)) (Dq.dp _ _ (noDics_ints zs) (.lst h2 dqI)) (shapedI l1) (shapedI l2) ?_
  show Q (.bl (!PyData.eqvAll _ _)) H
  rw [eqv_ints]
  exact q
/-- two roads to one place, where C holds -/
theorem w_joinC {A : Prop} {P : Hp → Prop} (C : Hp → Prop) (main : (∀ H', C H' → P H') → A) (fin : ∀ H', C H' → P H') : A := main fin
end
/-- all but a place that is new is kept -/
theorem SrcUp.exB {H0 H7 H8 : Hp} {h c D : Addr} (s : Src H0 h c) (hD : H0 D = none) (u : SrcUp h c H0 H7) (e : ExB D H7 H8) : SrcUp h c H0 H8 := by
  obtain ⟨nh, nc⟩ := s.apart hD
  obtain ⟨m, k, ns, a1, a2, a3⟩ := u.src.ex
  exact ⟨⟨m, k, ns, e _ _ nh.symm a1, e _ _ nc.symm a2, a3⟩, fun a x ah ac hx => e a x (ne_of_none hx hD) (u.keep a x ah ac hx)⟩
section
variable {K : PySem.W.Frag} {σ : St} {H : Hp} {Q : VK} {g : TG} {te : TE} {ts : TA} {vs : List Nat}
/-- [e for k in range(n)], its elements told -/
theorem w_lcRa {n : Nat} (y : Nat → V) (hn : n ≤ 100000) (ht : ∀ R : List V → Hp → Prop, R [.int (n : Int)] H → ts σ H R)
    (hb : ∀ (i : Nat) H1, i < n → Ex H H1 → ∀ R : VK, (∀ H2, Ex H1 H2 → R (y i) H2) → g (.int i) (wipe σ vs) H1 fun σ2 H2 => wipe σ2 vs = wipe σ vs ∧ te σ2 H2 R)
    (q : ∀ p H2, H p = none → Ex H H2 → H2 p = some (.lst ((List.range n).map y)) → Q (.ref p) H2) : tLc (iRng1 ts) g tYes te vs σ H Q := by
  refine ht _ ⟨n, rfl, by omega, by omega, fun D hD => ?_⟩
  have e0 : ((n : Int)).toNat = n := by omega
  rw [e0]
  refine lc_range (lo := 0) (n := n) (fun i H' => Ex H H' ∧ H' D = some (.lst ((List.range i).map y))) ⟨Evl.Ex.new hD, upd_same⟩ (fun i H1 hi p => ?_) (fun H2 p => q D H2 hD p.1 p.2)
  have e : (0 : Int) + (i : Int) = i := Int.zero_add _
  rw [e]
  refine hb i H1 hi p.1 _ fun H2 e2 => ?_
  refine ⟨_, e2 D _ p.2, ?_, ExB.ex (Evl.Ex.trans p.1 e2) hD ExB.upd, ?_⟩
  · rw [List.length_map, List.length_range]
    exact Nat.lt_of_lt_of_le hi (Nat.le_trans hn (by decide))
  · rw [upd_same, List.range_succ, List.map_append]
    rfl
end
end EB
namespace EB
open PySem PySem.Spec L2 StX ClX
set_option maxHeartbeats 1000000
/-! ## numbers that do not come about -/
section
variable {ts : List Tr} {d : Int}
open Classical in
noncomputable def few (ts : List Tr) (d : Int) : Int := if h : ∃ F, IsFew ts d F then h.choose else 0
theorem few_eq {F : Int} (h : IsFew ts d F) : few ts d = F := by
  have ex : ∃ F, IsFew ts d F := ⟨F, h⟩
  unfold few
  rw [dif_pos ex]
  exact ex.choose_spec.unique h
theorem few_spec (f : Fair ts) (h1 : 1 ≤ ts.length) (h : 0 ≤ d) : IsFew ts d (few ts d) := by
  obtain ⟨F, hF⟩ := few_ex f h1 h
  rw [few_eq hF]
  exact hF
/-- how many numbers up to d do not come about -/
noncomputable def mis (ts : List Tr) (d : Int) : Int := d + 1 - few ts (d + 1)
theorem few_zero (f : Fair ts) : few ts 0 = 0 := few_eq ⟨Int.le_refl _, by rw [drk_zero f]; exact Int.le_refl _, fun n n0 n1 => by omega⟩
theorem mis_none (f : Fair ts) : mis ts (-1) = 0 := by
  unfold mis
  rw [show (-1 : Int) + 1 = 0 by decide, few_zero f]
  decide
theorem mis_com (f : Fair ts) (h1 : 1 ≤ ts.length) (h : 0 ≤ d) (c : Com ts d) : mis ts d = mis ts (d - 1) := by
  have F := few_spec f h1 h
  have e := (com_few f F).mpr c
  have lt := drk_lt f F.pos (b := few ts d + 1) (by omega)
  have G : few ts (d + 1) = few ts d + 1 := few_eq ⟨by have := F.pos; omega, by omega, fun n n0 n1 => by
    have := drk_mono f n0 (b := few ts d) (by omega)
    omega⟩
  unfold mis
  rw [G, Int.sub_add_cancel]
  omega
theorem mis_not (f : Fair ts) (h1 : 1 ≤ ts.length) (h : 0 ≤ d) (c : ¬ Com ts d) : mis ts d = mis ts (d - 1) + 1 := by
  have F := few_spec f h1 h
  have ne : drk ts (few ts d) ≠ d := fun e => c ((com_few f F).mp e)
  have en := F.enough
  have G : few ts (d + 1) = few ts d := few_eq ⟨F.pos, by omega, fun n n0 n1 => by
    have := F.least n n0 n1
    omega⟩
  unfold mis
  rw [G, Int.sub_add_cancel]
  omega
theorem mis_step (f : Fair ts) (h1 : 1 ≤ ts.length) (h : 0 ≤ d) : mis ts (d - 1) ≤ mis ts d ∧ mis ts d ≤ mis ts (d - 1) + 1 := by
  by_cases c : Com ts d
  · have := mis_com f h1 h c
    omega
  · have := mis_not f h1 h c
    omega
theorem mis_mono (f : Fair ts) (h1 : 1 ≤ ts.length) {a b : Int} (ha : -1 ≤ a) (h : a ≤ b) : mis ts a ≤ mis ts b := by
  have go : ∀ k : Nat, mis ts a ≤ mis ts (a + k) := by
    intro k
    induction k with
    | zero => simp
    | succ k ih =>
      have := (mis_step f h1 (d := a + (k + 1 : Nat)) (by omega)).1
      rw [show a + ((k + 1 : Nat) : Int) - 1 = a + k by omega] at this
      omega
  have := go (b - a).toNat
  rw [show a + ((b - a).toNat : Int) = b by omega] at this
  exact this
/-- the least number up to which so many do not come about -/
structure IsNth (ts : List Tr) (k N : Int) : Prop where
  pos : 0 ≤ N
  enough : k ≤ mis ts N
  least : ∀ e, 0 ≤ e → e < N → mis ts e < k
theorem IsNth.unique {k N M : Int} (a : IsNth ts k N) (b : IsNth ts k M) : N = M := by
  rcases Int.lt_trichotomy N M with l | l | l
  · have := b.least N a.pos l
    have := a.enough
    omega
  · exact l
  · have := a.least M b.pos l
    have := b.enough
    omega
/-- exactly so many; it is one of them -/
theorem IsNth.exact {k N : Int} (f : Fair ts) (h1 : 1 ≤ ts.length) (hk : 1 ≤ k) (a : IsNth ts k N) : mis ts N = k ∧ ¬ Com ts N := by
  have p := a.pos
  have e := a.enough
  have lt : mis ts (N - 1) < k := by
    by_cases z : N = 0
    · subst z
      rw [show (0 : Int) - 1 = -1 by decide, mis_none f]
      omega
    · exact a.least (N - 1) (by omega) (by omega)
  have st := mis_step f h1 p
  refine ⟨by omega, fun c => ?_⟩
  have := mis_com f h1 p c
  omega
/-- a missing number is the one with its count -/
theorem nth_of (f : Fair ts) (h1 : 1 ≤ ts.length) (h : 0 ≤ d) (c : ¬ Com ts d) : IsNth ts (mis ts d) d := by
  refine ⟨h, Int.le_refl _, fun e e0 e1 => ?_⟩
  have := mis_not f h1 h c
  have := mis_mono f h1 (a := e) (b := d - 1) (by omega) (by omega)
  omega
/-- a bottle leaves something -/
def gives (ts : List Tr) : Bool := ts.any fun t => decide (0 < t.2.1)
theorem bo_perd : ∀ {us : List Tr} {p : Int}, 0 < p → (∀ t ∈ us, Good t) → (∀ t ∈ us, t.2.2 ∣ t.2.1 * p) → gives us = true → p ≤ 12 * bo us p
  | [], _, _, _, _, h => by cases h
  | t :: us, p, hp, g, dv, h => by
    obtain ⟨g1, g2, g3, g4⟩ := g t List.mem_cons_self
    obtain ⟨q, hq⟩ := dv t List.mem_cons_self
    have e : t.2.1 * p / t.2.2 = q := by rw [hq, Int.mul_ediv_cancel_left _ (by omega)]
    have rest := bo_nonneg (fun u hu => g u (List.mem_cons_of_mem _ hu)) (d := p) (by omega)
    rw [bo_cons, e]
    have q0 : 0 ≤ q := by
      have : 0 ≤ t.2.1 * p := Int.mul_nonneg g1 (by omega)
      rw [hq] at this
      by_cases z : 0 ≤ q
      · exact z
      · have := Int.mul_neg_of_pos_of_neg (show 0 < t.2.2 by omega) (show q < 0 by omega)
        omega
    by_cases z : 0 < t.2.1
    · have a1 : 1 * p ≤ t.2.1 * p := Int.mul_le_mul_of_nonneg_right (by omega) (by omega)
      have a2 : t.2.2 * q ≤ 12 * q := Int.mul_le_mul_of_nonneg_right g4 q0
      omega
    · have hr : gives us = true := by
        unfold gives at h ⊢
        rw [List.any_cons, decide_eq_false z, Bool.false_or] at h
        exact h
      have := bo_perd hp (fun u hu => g u (List.mem_cons_of_mem _ hu)) (fun u hu => dv u (List.mem_cons_of_mem _ hu)) hr
      omega
theorem mis_big (f : Fair ts) (h1 : 1 ≤ ts.length) (g : gives ts = true) (h : 0 ≤ d) : d - 46 ≤ 12 * mis ts d := by
  have p := perd_pos f.1.2
  have b := bo_perd p f.1.2 (perd_fit f.1.2) g
  have n12 : 12 * nd ts ≤ 11 * perd ts := by
    unfold nd
    omega
  have F := few_spec f h1 (d := d + 1) (by omega)
  have t3 := few0_three f h1 (d := d + 1) (by omega)
  have z := few0_pos f (d := d + 1) (by omega)
  have le : few ts (d + 1) ≤ few0 ts (d + 1) + 3 := by
    by_cases q : few ts (d + 1) ≤ few0 ts (d + 1) + 3
    · exact q
    · have := F.least (few0 ts (d + 1) + 3) (by omega) (by omega)
      omega
  obtain ⟨_, c⟩ := few0_spec f (d + 1)
  have m : (d + 1) * (12 * nd ts) ≤ (d + 1) * (11 * perd ts) := Int.mul_le_mul_of_nonneg_left n12 (by omega)
  have e1 : (d + 1) * (12 * nd ts) = 12 * ((d + 1) * nd ts) := by rw [← Int.mul_assoc, Int.mul_comm (d + 1) 12, Int.mul_assoc]
  have e2 : (d + 1) * (11 * perd ts) = (11 * (d + 1)) * perd ts := by rw [← Int.mul_assoc, Int.mul_comm (d + 1) 11]
  have e3 : (12 * (few0 ts (d + 1) - 1)) * perd ts = 12 * ((few0 ts (d + 1) - 1) * perd ts) := Int.mul_assoc ..
  have lt : (12 * (few0 ts (d + 1) - 1)) * perd ts < (11 * (d + 1)) * perd ts := by omega
  have := Int.lt_of_mul_lt_mul_right lt (by omega)
  unfold mis
  omega
theorem gives_not (f : Fair ts) (g : gives ts = false) (h : 0 ≤ d) : Com ts d := by
  refine ⟨d, h, drk_eq ⟨?_, h, fun e e0 he => ?_⟩⟩
  · have z : ∀ us : List Tr, gives us = false → (∀ t ∈ us, Good t) → ∀ x : Int, bo us x = 0 := by
      intro us
      induction us with
      | nil => exact fun _ _ _ => rfl
      | cons t us ih =>
        intro hg gd x
        unfold gives at hg
        rw [List.any_cons] at hg
        obtain ⟨a, b⟩ := Bool.or_eq_false_iff.mp hg
        have z0 := of_decide_eq_false a
        have g1 := (gd t List.mem_cons_self).1
        have e0 : t.2.1 = 0 := by omega
        rw [bo_cons, ih b (fun u hu => gd u (List.mem_cons_of_mem _ hu)), e0]
        simp
    rw [z ts g f.1.2]
    omega
  · have := bo_nonneg f.1.2 e0
    omega
end
/-! ### promises -/
def sp_Offer_bool (K : PySem.W.Frag) : Sp := fun vs H Q _ => ∃ (o : Addr) (ts : List Tr), vs = [.ref o] ∧ OfferAt K H o ts ∧ OfferOk ts ∧ ∀ H', Ex H H' → Q (.bl (gives ts)) H'
theorem len_Offer_bool {K} : ∀ vs H Q E, sp_Offer_bool K vs H Q E → vs.length = 1 := by rintro _ _ _ _ ⟨_, _, rfl, _⟩; rfl
theorem w_tru {K : PySem.W.Frag} {σ : St} {H : Hp} {R : Bool → Hp → Prop} {E : XK} {o : Addr} {ts : List Tr} {te : TE} (ht : ∀ Q : VK, Q (.ref o) H → te σ H Q) (h : OfferAt K H o ts) (ok : OfferOk ts) (k : ∀ H', Ex H H' → R (gives ts) H') : tTruO (He.ga K "Offer") (sp_Offer_bool K) E te σ H R := by
  obtain ⟨dx, a, h1, hT⟩ := id h
  exact ht _ ⟨o, rfl, ⟨dx, _, h1⟩, o, ts, rfl, h, ok, fun H' e => ⟨_, rfl, k H' e⟩⟩
def sp_Offer_count_up_to (K : PySem.W.Frag) : Sp := fun vs H Q _ => ∃ (o : Addr) (ts : List Tr) (d : Int), vs = [.ref o, .int d] ∧ OfferAt K H o ts ∧ OfferOk ts ∧ 0 ≤ d ∧ ∀ H', Ex H H' → Q (.int (mis ts d)) H'
theorem len_Offer_count_up_to {K} : ∀ vs H Q E, sp_Offer_count_up_to K vs H Q E → vs.length = 2 := by rintro _ _ _ _ ⟨_, _, _, rfl, _⟩; rfl
theorem ap_Offer_count_up_to {K : PySem.W.Frag} {H : Hp} {Q : VK} {E : XK} {o : Addr} {ts : List Tr} {d : Int} (h : OfferAt K H o ts) (ok : OfferOk ts) (d0 : 0 ≤ d) (k : ∀ H', Ex H H' → Q (.int (mis ts d)) H') : sp_Offer_count_up_to K [.ref o, .int d] H Q E := ⟨o, ts, d, rfl, h, ok, d0, k⟩
def sp_Offer_count_missing (K : PySem.W.Frag) : Sp := fun vs H Q _ => ∃ (o : Addr) (ts : List Tr) (d : Int), vs = [.ref o, .int d] ∧ OfferAt K H o ts ∧ OfferOk ts ∧ 0 ≤ d ∧ d ≤ 1000000000000000000 ∧ ∀ H', Ex H H' → Q (.int (mis ts d)) H'
theorem len_Offer_count_missing {K} : ∀ vs H Q E, sp_Offer_count_missing K vs H Q E → vs.length = 2 := by rintro _ _ _ _ ⟨_, _, _, rfl, _⟩; rfl
theorem ap_Offer_count_missing {K : PySem.W.Frag} {H : Hp} {Q : VK} {E : XK} {o : Addr} {ts : List Tr} {d : Int} (h : OfferAt K H o ts) (ok : OfferOk ts) (d0 : 0 ≤ d) (d1 : d ≤ 1000000000000000000) (k : ∀ H', Ex H H' → Q (.int (mis ts d)) H') : sp_Offer_count_missing K [.ref o, .int d] H Q E := ⟨o, ts, d, rfl, h, ok, d0, d1, k⟩
/-- what is told of the missing number with a number -/
def NthV (ts : List Tr) (k : Int) (v : V) : Prop := (v = .non ∧ gives ts = false) ∨ ∃ N, v = .int N ∧ gives ts = true ∧ IsNth ts k N ∧ N ≤ 24 * k + 92
def sp_Offer_nth_missing (K : PySem.W.Frag) : Sp := fun vs H Q _ => ∃ (o : Addr) (ts : List Tr) (k : Int), vs = [.ref o, .int k] ∧ OfferAt K H o ts ∧ OfferOk ts ∧ 1 ≤ k ∧ k ≤ 1000000000000000000 ∧ ∀ v H', NthV ts k v → Ex H H' → Q v H'
theorem len_Offer_nth_missing {K} : ∀ vs H Q E, sp_Offer_nth_missing K vs H Q E → vs.length = 2 := by rintro _ _ _ _ ⟨_, _, _, rfl, _⟩; rfl
theorem ap_Offer_nth_missing {K : PySem.W.Frag} {H : Hp} {Q : VK} {E : XK} {o : Addr} {ts : List Tr} {k : Int} (h : OfferAt K H o ts) (ok : OfferOk ts) (k0 : 1 ≤ k) (k1 : k ≤ 1000000000000000000) (q : ∀ v H', NthV ts k v → Ex H H' → Q v H') : sp_Offer_nth_missing K [.ref o, .int k] H Q E := ⟨o, ts, k, rfl, h, ok, k0, k1, q⟩
end EB
namespace EB
open PySem PySem.Spec L2 StX ClX
set_option maxHeartbeats 1000000
/-! ## the missing numbers of an interval -/
section
variable {ts : List Tr}
open Classical in
noncomputable def missC (ts : List Tr) (a : Int) (i : Nat) : Bool := !decide (Com ts (a + i))
noncomputable def misL (ts : List Tr) (a : Int) (n : Nat) : List Int := ((List.range n).filter (missC ts a)).map fun (i : Nat) => a + i
theorem missC_iff {a : Int} {i : Nat} : missC ts a i = true ↔ ¬ Com ts (a + i) := by
  unfold missC
  simp
theorem misL_succ {a : Int} {n : Nat} : misL ts a (n + 1) = misL ts a n ++ (if missC ts a n = true then [a + n] else []) := by
  unfold misL
  rw [List.range_succ, List.filter_append, List.map_append]
  by_cases h : missC ts a n = true
  · simp [h]
  · simp [h]
theorem misL_com {a : Int} {n : Nat} (c : Com ts (a + n)) : misL ts a (n + 1) = misL ts a n := by
  rw [misL_succ, if_neg fun h => missC_iff.mp h c, List.append_nil]
theorem misL_not {a : Int} {n : Nat} (c : ¬ Com ts (a + n)) : misL ts a (n + 1) = misL ts a n ++ [a + n] := by
  rw [misL_succ, if_pos (missC_iff.mpr c)]
theorem misL_le {a : Int} {n : Nat} : (misL ts a n).length ≤ n := by
  unfold misL
  rw [List.length_map]
  exact Nat.le_trans (List.length_filter_le _ _) (by rw [List.length_range]; exact Nat.le_refl _)
theorem misL_v {a : Int} {n : Nat} : ((List.range n).filter (missC ts a)).map (fun (i : Nat) => V.int (a + i)) = (misL ts a n).map V.int := by
  unfold misL
  rw [List.map_map]
  rfl
theorem misL_len (f : Fair ts) (h1 : 1 ≤ ts.length) {a : Int} (h : 0 ≤ a) : ∀ n : Nat, ((misL ts a n).length : Int) = mis ts (a + n - 1) - mis ts (a - 1)
  | 0 => by simp [misL]
  | n + 1 => by
    have ih := misL_len f h1 h n
    have e : a + ((n + 1 : Nat) : Int) - 1 = a + n := by omega
    rw [e]
    by_cases c : Com ts (a + n)
    · rw [misL_com c, mis_com f h1 (by omega) c]
      exact ih
    · have := mis_not f h1 (d := a + n) (by omega) c
      rw [misL_not c, List.length_append, List.length_singleton]
      omega
theorem misL_mem {a : Int} {n : Nat} {x : Int} (h : x ∈ misL ts a n) : ∃ i : Nat, i < n ∧ x = a + i ∧ ¬ Com ts x := by
  obtain ⟨i, hi, e⟩ := List.mem_map.mp h
  obtain ⟨m, c⟩ := List.mem_filter.mp hi
  exact ⟨i, List.mem_range.mp m, e.symm, by rw [← e]; exact missC_iff.mp c⟩
theorem misL_nth (f : Fair ts) (h1 : 1 ≤ ts.length) : ∀ (n k : Nat) (x : Int), (misL ts 0 n)[k]? = some x → IsNth ts (k + 1) x
  | 0, k, x, h => by simp [misL] at h
  | n + 1, k, x, h => by
    by_cases c : Com ts (0 + (n : Int))
    · rw [misL_com c] at h
      exact misL_nth f h1 n k x h
    · rw [misL_not c] at h
      by_cases l : k < (misL ts 0 n).length
      · rw [List.getElem?_append_left l] at h
        exact misL_nth f h1 n k x h
      · rw [List.getElem?_append_right (by omega)] at h
        have z : k - (misL ts 0 n).length = 0 := by
          cases q : k - (misL ts 0 n).length with
          | zero => rfl
          | succ j => rw [q] at h; simp at h
        rw [z] at h
        have ex : x = 0 + (n : Int) := by simpa using h.symm
        have ln := misL_len f h1 (a := 0) (by decide) n
        rw [show (0 : Int) - 1 = -1 by decide, mis_none f] at ln
        have e := nth_of f h1 (by omega) c
        have mn := mis_not f h1 (d := 0 + (n : Int)) (by omega) c
        rw [ex, show ((k : Int) + 1) = mis ts (0 + (n : Int)) by omega]
        exact e
theorem misL_gives (f : Fair ts) {a : Int} (h : 0 ≤ a) {n : Nat} (g : gives ts = false) : misL ts a n = [] := by
  refine List.eq_nil_iff_forall_not_mem.mpr fun x hx => ?_
  obtain ⟨i, _, e, c⟩ := misL_mem hx
  exact c (gives_not f g (by omega))
theorem few_up (f : Fair ts) (h1 : 1 ≤ ts.length) {d : Int} (h : 0 ≤ d) : (Com ts d → few ts (d + 1) = few ts d + 1) ∧ (¬ Com ts d → few ts (d + 1) = few ts d) := by
  have e : mis ts (d - 1) = d - few ts d := by
    unfold mis
    rw [Int.sub_add_cancel]
  have e2 : mis ts d = d + 1 - few ts (d + 1) := rfl
  refine ⟨fun c => ?_, fun c => ?_⟩
  · have := mis_com f h1 h c
    omega
  · have := mis_not f h1 h c
    omega
end
def sp_Offer_missing (K : PySem.W.Frag) : SpG := fun vs H Q _ => ∃ (o : Addr) (ts : List Tr) (a b : Int), vs = [.ref o, .int a, .int b] ∧ OfferAt K H o ts ∧ OfferOk ts ∧ (0 ≤ a ∧ a ≤ b ∧ b ≤ 1000000000000000000 ∧ b ≤ a + 9999) ∧
  ∀ H', Ex H H' → Q ((misL ts a (b + 1 - a).toNat).map V.int) H'
theorem len_Offer_missing {K} : ∀ vs H Q E, sp_Offer_missing K vs H Q E → vs.length = 3 := by rintro _ _ _ _ ⟨_, _, _, _, rfl, _⟩; rfl
theorem ap_Offer_missing {K : PySem.W.Frag} {H : Hp} {Q : List V → Hp → Prop} {E : XK} {o : Addr} {ts : List Tr} {a b : Int} (h : OfferAt K H o ts) (ok : OfferOk ts) (l : 0 ≤ a ∧ a ≤ b ∧ b ≤ 1000000000000000000 ∧ b ≤ a + 9999) (k : ∀ H', Ex H H' → Q ((misL ts a (b + 1 - a).toNat).map V.int) H') : sp_Offer_missing K [.ref o, .int a, .int b] H Q E :=
  ⟨o, ts, a, b, rfl, h, ok, l, k⟩
theorem w_gIf {c : TT} {ta tb : TGn} {D : GEnds} {ys : List V} {σ : St} {H : Hp} (q : c σ H fun b H1 => if b = true then ta D ys σ H1 else tb D ys σ H1) : tGIf c ta tb D ys σ H := q
theorem w_gForR2 {ts : TA} {g : TG} {tb : TGn} {D : GEnds} {ys : List V} {σ : St} {H : Hp} {lo hi : Int} {n : Nat} (Pv : Nat → List V → St → Hp → Prop) (hl : -1000000000000000000 ≤ lo ∧ lo ≤ 1000000000000000000) (eh : (hi - lo).toNat = n) (hh : -1000000000000000000 ≤ hi ∧ hi ≤ 2000000000000000000)
    (ht : ∀ R : List V → Hp → Prop, R [.int lo, .int hi] H → ts σ H R) (h0 : Pv 0 ys σ H) (hs : ∀ (i : Nat) ys σ' H', i < n → Pv i ys σ' H' → g (.int (lo + i)) σ' H' fun σ2 H2 => tb { D with nx := Pv (i + 1), ct := Pv (i + 1), bk := D.nx } ys σ2 H2) (hd : ∀ ys σ' H', Pv n ys σ' H' → D.nx ys σ' H') : tGFor (iRng2 ts) g tb D ys σ H := by
  refine ht _ ⟨lo, hi, rfl, ⟨by omega, by omega, by omega, by omega⟩, ?_⟩
  rw [eh]
  refine ⟨fun i m ys σ H => m = n - i ∧ i ≤ n ∧ Pv i ys σ H, ⟨n, by simp, Nat.zero_le _, h0⟩, ?_⟩
  rintro i m ys σ H ⟨rfl, hi, p⟩
  by_cases hlt : i < n
  · refine .inr ⟨hlt, Pv (i + 1), fun ys' σ' H' p' => ⟨n - (i + 1), by omega, rfl, hlt, p'⟩, fun x H' y => ?_⟩
    obtain ⟨e, y⟩ := y
    subst e y
    exact hs i ys σ _ hlt p
  · have e : i = n := by omega
    subst e
    exact .inl ⟨Nat.le_refl _, hd ys σ H p⟩
theorem w_boolO {K : PySem.W.Frag} {σ : St} {H : Hp} {Q : VK} {E : XK} {o : Addr} {ts : List Tr} {te : TE} (ht : ∀ Q : VK, Q (.ref o) H → te σ H Q) (h : OfferAt K H o ts) (ok : OfferOk ts) (k : ∀ H', Ex H H' → Q (.bl (gives ts)) H') : tBoolO (He.ga K "Offer") (sp_Offer_bool K) E te σ H Q := by
  obtain ⟨dx, a, h1, hT⟩ := id h
  exact ht _ ⟨o, rfl, ⟨dx, _, h1⟩, o, ts, rfl, h, ok, fun H' e => ⟨_, rfl, k H' e⟩⟩
end EB
/-! the words of the stepping: keys of walk_at -/
open PySem PySem.Spec L2 EB
local macro_rules | `(tactic| walk_at "ex") => `(tactic| first
  | assumption
  | exact Evl.Ex.refl _
  | ((with_reducible apply ex2); (focus (assumption)); (focus (walk_at "ex")))
  | ((with_reducible apply exN); (focus (assumption)); (focus (walk_at "ex"))))
local macro_rules | `(tactic| walk_at "factE") => `(tactic| first
  | assumption
  | with_reducible exact upd_same
  | ((with_reducible apply exE); (focus (assumption)); (focus (walk_at "ex"))))
/-- what is known of an object, carried to the heap at hand -/
local macro_rules | `(tactic| walk_at "fact") => `(tactic| first
  | assumption
  | ((with_reducible apply Evl.st_of); walk_at "factE")
  | ((with_reducible apply Evl.sq_of); walk_at "factE")
  | ((with_reducible apply exT); (focus (assumption)); (focus (walk_at "ex")))
  | ((with_reducible apply exL); (focus (assumption)); (focus (walk_at "ex")))
  | walk_at "factE")
local macro_rules | `(tactic| walk_at "num") => `(tactic| first
  | exact cmul_l (by omega) (by omega)
  | exact cmul_r (by omega) (by omega)
  | exact cdiv (by omega) (by omega)
  | exact cdivW (by omega) (by omega)
  | exact cpow (by omega) (by omega) (by omega) (by omega)
  | omega)
local macro_rules | `(tactic| walk_at "ap") => `(tactic| fail "no promise")
local macro_rules | `(tactic| walk_at "go1") => `(tactic| first
  | ((with_reducible apply w_var); (focus (exact rfl)))
  | with_reducible refine w_c ?_
  | with_reducible refine w_op ?_
  | with_reducible refine w_seq ?_
  | with_reducible refine w_asg ?_
  | ((with_reducible refine w_name ?_); (intro s' hs; dsimp only [List.set] at hs; subst hs))
  | with_reducible refine w_cons ?_
  | with_reducible refine w_nil ?_
  | with_reducible refine w_call ?_
  | with_reducible refine w_CB ?_
  | with_reducible refine w_add ?_
  | with_reducible refine w_sub ?_
  | ((with_reducible apply w_mul); (focus (walk_at "num")))
  | ((with_reducible apply w_fd); (focus (walk_at "num")))
  | ((with_reducible apply w_fdW); (focus (walk_at "num")))
  | ((with_reducible apply w_mod); (focus (omega)))
  | ((with_reducible apply w_pow); (focus (walk_at "num")))
  | with_reducible refine w_lt ?_
  | with_reducible refine w_le ?_
  | with_reducible refine w_gt ?_
  | with_reducible refine w_ge ?_
  | with_reducible refine w_eqI ?_
  | with_reducible refine w_neI ?_
  | with_reducible refine w_eqS ?_
  | with_reducible refine w_neS ?_
  | with_reducible refine w_eqB ?_
  | with_reducible refine w_neB ?_
  | with_reducible refine w_isN ?_
  | with_reducible refine w_notN ?_
  | with_reducible refine w_test ?_
  | with_reducible refine w_tB ?_
  | with_reducible refine w_exb ?_
  | with_reducible refine w_and ?_
  | with_reducible refine w_or ?_
  | with_reducible refine w_not ?_
  | with_reducible refine w_andV ?_
  | with_reducible refine w_orV ?_
  | with_reducible refine w_notV ?_
  | with_reducible refine w_chain ?_
  | with_reducible refine w_if ?_
  | with_reducible refine w_next ?_
  | with_reducible refine w_ret ?_
  | with_reducible refine w_drop ?_
  | with_reducible refine w_ifS ?_
  | with_reducible refine w_parP ?_
  | ((with_reducible refine w_par2 ?_); dsimp only [List.set])
  | with_reducible refine w_parP3 ?_
  | ((with_reducible refine w_par23 ?_); dsimp only [List.set])
  | with_reducible refine w_un ?_
  | with_reducible refine w_rU ?_
  | ((with_reducible apply w_aug); (focus (exact rfl)))
  | ((with_reducible refine w_ip ?_); dsimp only [List.set])
  | with_reducible refine w_int ?_
  | with_reducible refine w_intB ?_
  | with_reducible refine w_mx2 ?_
  | with_reducible refine w_mn2 ?_
  | with_reducible refine w_tProp ?_
  | with_reducible refine w_dcTs ?_
  | ((with_reducible apply w_gTup); (focus (walk_at "fact")); (focus (exact rfl)))
  | with_reducible refine w_gCons ?_
  | with_reducible refine w_gNil ?_
  | ((with_reducible apply w_t); (focus (first | exact rfl | assumption)))
  | ((with_reducible apply w_f); (focus (first | exact rfl | assumption)))
  | with_reducible refine w_callR ?_
  | with_reducible refine w_CO ?_
  | with_reducible refine w_exref ?_
  | ((with_reducible apply w_isC); (focus (walk_at "fact")))
  | with_reducible refine w_makeR ?_
  | with_reducible refine w_methR ?_
  | ((with_reducible apply w_methR2); (focus (walk_at "fact")); (focus (exact rfl)))
  | with_reducible refine w_tFld ?_
  | ((with_reducible apply w_fld2); (focus (walk_at "fact")); (focus (assumption)); (focus (assumption)); (focus (exact rfl)))
  | ((with_reducible apply w_CVal); (focus (assumption)); (focus (assumption)))
  | with_reducible refine w_sFld ?_
  | with_reducible refine w_tSl ?_
  | with_reducible refine w_noPart ?_
  | with_reducible refine w_part ?_
  | with_reducible refine w_exint ?_
  | with_reducible refine w_lcTs ?_
  | with_reducible refine w_lcLs ?_
  | with_reducible refine w_foTs ?_
  | with_reducible refine w_foLs ?_
  | with_reducible refine w_BM ?_
  | ((with_reducible apply w_BML); (focus (walk_at "fact")))
  | with_reducible refine w_gSub ?_
  | with_reducible refine w_wCmp ?_
  | ((with_reducible refine w_wNmE ?_); dsimp only [List.set])
  | with_reducible refine w_inS ?_
  | with_reducible refine w_lst ?_
  | with_reducible refine w_tup ?_
  | ((with_reducible apply w_short); (focus (first | decide | (simp; done))); (intro p' H' hn' he' hp'))
  | ((with_reducible apply w_sFld2); (focus (walk_at "fact")); (focus (assumption)); (focus (assumption)); (focus (first | decide | (simp; done))); (intro H' he' hp'))
  | ((with_reducible apply w_catL); (focus (walk_at "fact")); (focus (walk_at "fact")); (focus (first | decide | (simp; omega))); (intro p' H' hn' he' hp'))
  | ((with_reducible apply w_tupL); (focus (walk_at "fact")); (intro p' H' hn' he' hp'))
  | ((with_reducible apply w_tupT); (focus (walk_at "fact")))
  | ((with_reducible apply w_listL); (focus (walk_at "fact")); (intro p' H' hn' he' hp'))
  | ((with_reducible apply w_listT); (focus (walk_at "fact")); (intro p' H' hn' he' hp'))
  | ((with_reducible apply w_ixL); (focus (walk_at "fact")); (focus (exact rfl)))
  | ((with_reducible apply w_ixT); (focus (walk_at "fact")); (focus (exact rfl)))
  | ((with_reducible apply w_setL); (focus (walk_at "fact")); (focus (exact rfl)); (intro H' he' hp'))
  | ((with_reducible apply w_append); (focus (walk_at "fact")); (focus (first | assumption | decide | (simp; omega))); (intro H' he' hp'))
  | ((with_reducible apply w_lenT); (focus (walk_at "fact")))
  | ((with_reducible apply w_lenL); (focus (walk_at "fact")))
  | walk_at "ap")
local macro_rules | `(tactic| walk_at "go") => `(tactic| repeat walk_at "go1")
/-! the same with the package's own calls -/
local macro_rules | `(tactic| walk_at "offer") => `(tactic| first
  | assumption
  | ((with_reducible apply OfferAt.upE); (focus (assumption)); (focus (walk_at "ex"))))
local macro_rules | `(tactic| walk_at "trs") => `(tactic| first
  | assumption
  | ((with_reducible apply Trs.upE); (focus (assumption)); (focus (walk_at "ex"))))
local macro_rules | `(tactic| walk_at "own1") => `(tactic| first
  | ((with_reducible apply w_offer); (focus (walk_at "offer")); (focus (assumption)); (focus (omega)); (focus (omega)); (intro H' e'))
  | ((with_reducible apply OfferAt.meth); (focus (walk_at "offer")); (focus (exact rfl)))
  | ((with_reducible apply OfferAt.prop); (focus (walk_at "offer"))))
local macro_rules | `(tactic| walk_at "own2") => `(tactic| with_reducible refine w_listG ?_)
local macro_rules | `(tactic| walk_at "own3") => `(tactic| repeat first | walk_at "go1" | walk_at "own1" | walk_at "own2")
local macro_rules | `(tactic| walk_at "own") => `(tactic| repeat first | walk_at "go1" | walk_at "own1")
local macro_rules | `(tactic| walk_at "dq") => `(tactic| first
  | with_reducible apply Dq.int
  | with_reducible apply Dq.str
  | with_reducible apply Dq.bl
  | with_reducible apply Dq.non
  | ((with_reducible apply Dq.lst); (focus (walk_at "factE")); (focus (walk_at "dqs")))
  | ((with_reducible apply Dq.tup); (focus (walk_at "factE")); (focus (walk_at "dqs"))))
local macro_rules | `(tactic| walk_at "dqs") => `(tactic| first
  | with_reducible apply DqAll.nil
  | ((with_reducible apply DqAll.cons); (focus (walk_at "dq")); (focus (walk_at "dqs"))))
namespace EB
open PySem PySem.Spec L2 StX ClX
def t_common_divisor (K : PySem.W.Frag) : TS := (tSeq (tWhile (tTest (tOp rNe (tVar 1) (tC (.int 0)))) (tPar 0 1 (tCons (tVar 1) (tCons (tOp rModI (tCB (rInt) (tCons (tVar 0) tNil)) (tCB (rInt) (tCons (tVar 1) tNil))) tNil))))
    (tRet (tVar 0)))
abbrev N_common_divisor : List Str := ["one", "other"]
theorem st_common_divisor {x0 x1 : V} : start N_common_divisor [x0, x1] = [some x0, some x1] := rfl
def t_common_multiple (K : PySem.W.Frag) : TS := (tRet (tOp rMulI (tOp rFdI (tVar 0) (tCallR (sp_common_divisor K) E0 (tCons (tVar 0) (tCons (tVar 1) tNil)))) (tVar 1)))
abbrev N_common_multiple : List Str := ["one", "other"]
theorem st_common_multiple {x0 x1 : V} : start N_common_multiple [x0, x1] = [some x0, some x1] := rfl
def t_bought (K : PySem.W.Frag) : TS := (tRet (tCB (rSum K) (tCons (tLc (iTup K (tVar 0)) (gTup K 3 (gCons (gName 2) (gCons (gName 3) (gCons (gName 4) gNil)))) tYes (tOp rFdI (tOp rMulI (tVar 3) (tVar 1)) (tVar 4)) [2, 3, 4]) tNil)))
abbrev N_bought : List Str := ["trades", "drinks", "kind", "left", "needed"]
theorem st_bought {x0 x1 : V} : start N_bought [x0, x1] = [some x0, some x1, none, none, none] := rfl
def t_least_point (K : PySem.W.Frag) : TS := (tSeq (tWhileW (wCmp rNe (wNm (wE (tOp rAddI (tVar 1) (tCallR (sp_bought K) E0 (tCons (tVar 0) (tCons (tVar 2) tNil))))) 3) (tVar 2)) (tAsg (tVar 3) (gName 2)) tNext)
    (tRet (tVar 2)))
abbrev N_least_point : List Str := ["trades", "bottles", "drinks", "following"]
theorem st_least_point {x0 x1 x2 : V} : start N_least_point [x0, x1, x2] = [some x0, some x1, some x2, none] := rfl
def t_needed_multiple (K : PySem.W.Frag) : TS := (tSeq (tAsg (tC (.int 1)) (gName 1))
    (tSeq (tFor (iTup K (tVar 0)) (gTup K 3 (gCons (gName 2) (gCons (gName 3) (gCons (gName 4) gNil)))) (tAsg (tCallR (sp_common_multiple K) E0 (tCons (tVar 1) (tCons (tVar 4) tNil))) (gName 1)))
    (tRet (tVar 1))))
abbrev N_needed_multiple : List Str := ["trades", "found", "kind", "left", "needed"]
theorem st_needed_multiple {x0 : V} : start N_needed_multiple [x0] = [some x0, none, none, none, none] := rfl
def t_period_of (K : PySem.W.Frag) : TS := (tSeq (tAsg (tC (.int 1)) (gName 1))
    (tSeq (tFor (iTup K (tVar 0)) (gTup K 3 (gCons (gName 2) (gCons (gName 3) (gCons (gName 4) gNil)))) (tAsg (tCallR (sp_common_multiple K) E0 (tCons (tVar 1) (tCons (tOp rFdI (tVar 4) (tCallR (sp_common_divisor K) E0 (tCons (tVar 3) (tCons (tVar 4) tNil)))) tNil))) (gName 1)))
    (tRet (tTup (clA (tCons (tOp rSubI (tVar 1) (tCallR (sp_bought K) E0 (tCons (tVar 0) (tCons (tVar 1) tNil)))) (tCons (tVar 1) tNil)))))))
abbrev N_period_of : List Str := ["trades", "drinks", "kind", "left", "needed"]
theorem st_period_of {x0 : V} : start N_period_of [x0] = [some x0, none, none, none, none] := rfl
def t_total (K : PySem.W.Frag) : TS := (tSeq (tAsg (tCallR (sp_period_of K) E0 (tCons (tVar 0) tNil)) (gTup K 2 (gCons (gName 2) (gCons (gName 3) gNil))))
    (tSeq (tAsg (tOp rFdI (tOp rMulI (tOp rSubI (tVar 1) (tC (.int 3))) (tVar 3)) (tVar 2)) (gName 4))
    (tRet (tCallR (sp_least_point K) E0 (tCons (tVar 0) (tCons (tVar 1) (tCons (tIf (tTest (tOp rGtI (tVar 4) (tVar 1))) (tVar 4) (tVar 1)) tNil)))))))
abbrev N_total : List Str := ["trades", "bottles", "need", "drinks", "start"]
theorem st_total {x0 x1 : V} : start N_total [x0, x1] = [some x0, some x1, none, none, none] := rfl
def t_is_kind (K : PySem.W.Frag) : TS := (tRet (tAndV (tChain rLeI rLeI (tC (.int 1)) (tCB (rLen K) (tCons (tVar 0) tNil)) (tC (.int (8)))) (tCB (rAll K) (tCons (tLc (iStr (tVar 0)) (gName 1) tYes (tOp rInS (tVar 1) (tC (.str "abcdefghijklmnopqrstuvwxyz"))) [1]) tNil))))
abbrev N_is_kind : List Str := ["kind", "letter"]
theorem st_is_kind {x0 : V} : start N_is_kind [x0] = [some x0, none] := rfl
def t_is_trade_kind (K : PySem.W.Frag) : TS := (tRet (tAndV (tCallR (sp_is_kind K) E0 (tCons (tVar 0) tNil)) (tOp rNe (tVar 0) (tC (.str "drink")))))
abbrev N_is_trade_kind : List Str := ["kind"]
theorem st_is_trade_kind {x0 : V} : start N_is_trade_kind [x0] = [some x0] := rfl
def t_is_trade (K : PySem.W.Frag) : TS := (tSeq (tAsg (tVar 0) (gTup K 3 (gCons (gName 1) (gCons (gName 2) (gCons (gName 3) gNil)))))
    (tRet (tAndV (tCallR (sp_is_trade_kind K) E0 (tCons (tVar 1) tNil)) (tAndV (tChain rLeI rLeI (tC (.int 0)) (tVar 2) (tCVal K (tC (.ref (He.ga K "Offer"))) "MAX_NEEDED")) (tChain rLeI rLeI (tC (.int 1)) (tVar 3) (tCVal K (tC (.ref (He.ga K "Offer"))) "MAX_NEEDED"))))))
abbrev N_is_trade : List Str := ["trade", "kind", "left", "needed"]
theorem st_is_trade {x0 : V} : start N_is_trade [x0] = [some x0, none, none, none] := rfl
def t_validate_number (K : PySem.W.Frag) : TS := (tIfS (tNot (tTest (tChain rLeI rLeI (tVar 1) (tVar 0) (tVar 2)))) tNever tNext)
abbrev N_validate_number : List Str := ["number", "smallest", "largest"]
theorem st_validate_number {x0 x1 x2 : V} : start N_validate_number [x0, x1, x2] = [some x0, some x1, some x2] := rfl
def t_Offer_init (K : PySem.W.Frag) : TS := (tSeq (tIfS (tTest (tOp (rEqD K) (tVar 1) (tTup (clA tNil)))) tNever tNext)
    (tSeq (tFor (iEnumT K (tCons (tVar 1) tNil)) (gTup K 2 (gCons (gName 2) (gCons (gName 3) gNil))) (tSeq (tAsg (tLc (iTup K (tSl (rSlA K) (tVar 1) tNoPart (tPart (tVar 2)))) (gTup K 3 (gCons (gName 6) (gCons (gName 7) (gCons (gName 8) gNil)))) tYes (tVar 6) [6, 7, 8]) (gName 4))
    (tIfS (tOr (tTest (tOp rEq (tVar 2) (tCVal K (tC (.ref (He.ga K "Offer"))) "MAX_TRADES"))) (tOr (tNot (tB (tCallR (sp_is_trade K) E0 (tCons (tVar 3) tNil)))) (tTest (tOp (rIn K false) (tOp (rIxT K) (tVar 3) (tC (.int 0))) (tVar 4))))) tNever tNext)))
    (tSeq (tAsg (tCallR (sp_needed_multiple K) E0 (tCons (tVar 1) tNil)) (gName 5))
    (tSeq (tIfS (tTest (tOp rGtI (tOp rMulI (tC (.int 10)) (tCallR (sp_bought K) E0 (tCons (tVar 1) (tCons (tVar 5) tNil)))) (tOp rMulI (tC (.int 9)) (tVar 5)))) tNever tNext)
    (sFld K (tVar 0) (tVar 1) "parts")))))
abbrev N_Offer_init : List Str := ["self", "trades", "index", "trade", "earlier", "whole", "kind", "left", "needed"]
theorem st_Offer_init {x0 x1 : V} : start N_Offer_init [x0, x1] = [some x0, some x1, none, none, none, none, none, none, none] := rfl
def t_Offer_call (K : PySem.W.Frag) : TS := (tSeq (tDrop (tCallR (sp_validate_number K) E0 (tCons (tVar 1) (tCons (tC (.int 0)) (tCons (tC (.int (1000000000000000000))) tNil)))))
    (tRet (tCallR (sp_total K) E0 (tCons (tFld K (tVar 0) "parts") (tCons (tVar 1) tNil)))))
abbrev N_Offer_call : List Str := ["self", "bottles"]
theorem st_Offer_call {x0 x1 : V} : start N_Offer_call [x0, x1] = [some x0, some x1] := rfl
def t_fewest (K : PySem.W.Frag) : TS := (tSeq (tAsg (tCallR (sp_period_of K) E0 (tCons (tVar 0) tNil)) (gTup K 2 (gCons (gName 2) (gCons (gName 3) gNil))))
    (tSeq (tAsg (tOp rSubI (tC (.int 0)) (tOp rFdI (tCB (rInt) (tCons (tOp rSubI (tC (.int 0)) (tOp rMulI (tCB (rInt) (tCons (tVar 1) tNil)) (tVar 2))) tNil)) (tVar 3))) (gName 4))
    (tSeq (tFor (iTup K (tTup (clA (tCons (tVar 4) (tCons (tOp rAddI (tVar 4) (tC (.int 1))) (tCons (tOp rAddI (tVar 4) (tC (.int 2))) tNil)))))) (gName 5) (tIfS (tTest (tOp rGeI (tCallR (sp_total K) E0 (tCons (tVar 0) (tCons (tVar 5) tNil))) (tCB (rInt) (tCons (tVar 1) tNil)))) (tRet (tVar 5)) tNext))
    (tRet (tOp rAddI (tVar 4) (tC (.int 3)))))))
abbrev N_fewest : List Str := ["trades", "drinks", "need", "given", "least", "bottles"]
theorem st_fewest {x0 x1 : V} : start N_fewest [x0, x1] = [some x0, some x1, none, none, none, none] := rfl
def t_Offer_missing (K : PySem.W.Frag) : TGn := (tGThen (tPlain (tDrop (tCallR (sp_validate_number K) E0 (tCons (tVar 1) (tCons (tC (.int 0)) (tCons (tC (.int (1000000000000000000))) tNil))))))
    (tGThen (tPlain (tAsg (tOp rSubI (tOp rAddI (tVar 1) (tC (.int (10000)))) (tC (.int 1))) (gName 3)))
    (tGThen (tPlain (tDrop (tCallR (sp_validate_number K) E0 (tCons (tVar 2) (tCons (tVar 1) (tCons (tIf (tTest (tOp rLtI (tVar 3) (tC (.int (1000000000000000000))))) (tVar 3) (tC (.int (1000000000000000000)))) tNil))))))
    (tGThen (tPlain (tAsg (tCallR (sp_fewest K) E0 (tCons (tFld K (tVar 0) "parts") (tCons (tVar 1) tNil))) (gName 4)))
    (tGThen (tGFor (iRng2 (tCons (tVar 1) (tCons (tOp rAddI (tVar 2) (tC (.int 1))) tNil))) (gName 5) (tGThen (tGIf (tTest (tOp rEq (tCallR (sp_total K) E0 (tCons (tFld K (tVar 0) "parts") (tCons (tVar 4) tNil))) (tVar 5))) (tGThen (tPlain (tAug 4 (tC (.int 1)) (ipI fun i j => i + j)))
    tG0) (tGThen (tGYield (tVar 5))
    tG0))
    tG0))
    tG0)))))
abbrev N_Offer_missing : List Str := ["self", "first", "last", "reach", "bottles", "drinks"]
theorem st_Offer_missing {x0 x1 x2 : V} : start N_Offer_missing [x0, x1, x2] = [some x0, some x1, some x2, none, none, none] := rfl
def t_Offer_bool (K : PySem.W.Frag) : TS := (tRet (tCB (rAny K) (tCons (tLc (iTup K (tFld K (tVar 0) "parts")) (gTup K 3 (gCons (gName 1) (gCons (gName 2) (gCons (gName 3) gNil)))) tYes (tOp rGtI (tVar 2) (tC (.int 0))) [1, 2, 3]) tNil)))
abbrev N_Offer_bool : List Str := ["self", "kind", "left", "needed"]
theorem st_Offer_bool {x0 : V} : start N_Offer_bool [x0] = [some x0, none, none, none] := rfl
def t_Offer_contains (K : PySem.W.Frag) : TS := (tRet (tOp rEq (tCallR (sp_total K) E0 (tCons (tFld K (tVar 0) "parts") (tCons (tCallR (sp_fewest K) E0 (tCons (tFld K (tVar 0) "parts") (tCons (tVar 1) tNil))) tNil))) (tVar 1)))
abbrev N_Offer_contains : List Str := ["self", "drinks"]
theorem st_Offer_contains {x0 x1 : V} : start N_Offer_contains [x0, x1] = [some x0, some x1] := rfl
def t_Offer_count_up_to (K : PySem.W.Frag) : TS := (tRet (tOp rSubI (tOp rAddI (tVar 1) (tC (.int 1))) (tCallR (sp_fewest K) E0 (tCons (tFld K (tVar 0) "parts") (tCons (tOp rAddI (tVar 1) (tC (.int 1))) tNil)))))
abbrev N_Offer_count_up_to : List Str := ["self", "last"]
theorem st_Offer_count_up_to {x0 x1 : V} : start N_Offer_count_up_to [x0, x1] = [some x0, some x1] := rfl
def t_Offer_count_missing (K : PySem.W.Frag) : TS := (tSeq (tDrop (tCallR (sp_validate_number K) E0 (tCons (tVar 1) (tCons (tC (.int 0)) (tCons (tC (.int (1000000000000000000))) tNil)))))
    (tRet (tMethR (He.ga K "Offer") "count_up_to" (sp_Offer_count_up_to K) E0 (tVar 0) (tCons (tVar 1) tNil))))
abbrev N_Offer_count_missing : List Str := ["self", "last"]
theorem st_Offer_count_missing {x0 x1 : V} : start N_Offer_count_missing [x0, x1] = [some x0, some x1] := rfl
def t_Offer_nth_missing (K : PySem.W.Frag) : TS := (tSeq (tDrop (tCallR (sp_validate_number K) E0 (tCons (tVar 1) (tCons (tC (.int 1)) (tCons (tC (.int (1000000000000000000))) tNil)))))
    (tSeq (tIfS (tNot (tTruO (He.ga K "Offer") (sp_Offer_bool K) E0 (tVar 0))) (tRet (tC .non)) tNext)
    (tSeq (tAsg (tC (.int 1)) (gName 2))
    (tSeq (tWhile (tTest (tOp rLtI (tMethR (He.ga K "Offer") "count_up_to" (sp_Offer_count_up_to K) E0 (tVar 0) (tCons (tVar 2) tNil)) (tVar 1))) (tAug 2 (tC (.int 2)) ipM))
    (tSeq (tAsg (tC (.int 0)) (gName 3))
    (tSeq (tWhile (tTest (tOp rLtI (tVar 3) (tVar 2))) (tSeq (tAsg (tOp rFdI (tOp rAddI (tVar 3) (tVar 2)) (tC (.int 2))) (gName 4))
    (tIfS (tTest (tOp rGeI (tMethR (He.ga K "Offer") "count_up_to" (sp_Offer_count_up_to K) E0 (tVar 0) (tCons (tVar 4) tNil)) (tVar 1))) (tAsg (tVar 4) (gName 2)) (tAsg (tOp rAddI (tVar 4) (tC (.int 1))) (gName 3)))))
    (tRet (tVar 3))))))))
abbrev N_Offer_nth_missing : List Str := ["self", "number", "high", "low", "middle"]
theorem st_Offer_nth_missing {x0 x1 : V} : start N_Offer_nth_missing [x0, x1] = [some x0, some x1, none, none, none] := rfl
def t__law_mix (K : PySem.W.Frag) : TS := (tSeq (tAsg (tVar 1) (gName 2))
    (tSeq (tFor (iList K (tVar 0)) (gName 3) (tAsg (tOp rModI (tOp rAddI (tOp rAddI (tOp rMulI (tVar 2) (tC (.int 48271))) (tOp rModI (tVar 3) (tC (.int 2147483629)))) (tC (.int 1))) (tC (.int 2147483647))) (gName 2)))
    (tRet (tLst (clA (tCons (tVar 2) (tCons (tCB (rListO K) (tCons (tVar 0) tNil)) (tCons (tC (.int 0)) tNil))))))))
abbrev N__law_mix : List Str := ["_law_script", "_law_seed", "_law_mixed", "_law_cell"]
theorem st__law_mix {x0 x1 : V} : start N__law_mix [x0, x1] = [some x0, some x1, none, none] := rfl
def t__law_next (K : PySem.W.Frag) : TS := (tSeq (tAsg (tOp (rIxL K) (tOp rCat (tOp (rIxL K) (tVar 0) (tC (.int 1))) (tLst (clA (tCons (tC (.int 0)) tNil)))) (tOp rModI (tOp (rIxL K) (tVar 0) (tC (.int 2))) (tCB (rMx2) (tCons (tC (.int 1)) (tCons (tCB (rLen K) (tCons (tOp (rIxL K) (tVar 0) (tC (.int 1))) tNil)) tNil))))) (gName 2))
    (tSeq (tIfS (tTest (tOp rGeI (tVar 2) (tOp rPowI (tC (.int 10)) (tC (.int 18))))) (tSeq (tAsg (tOp rFdW (tVar 2) (tVar 1)) (gSub (tOp (rIxL K) (tVar 0) (tC (.int 1))) (tOp rModI (tOp (rIxL K) (tVar 0) (tC (.int 2))) (tCB (rLen K) (tCons (tOp (rIxL K) (tVar 0) (tC (.int 1))) tNil))) rSetL))
    (tRet (tOp rModI (tVar 2) (tVar 1)))) tNext)
    (tSeq (tAsg (tOp rModI (tOp rAddI (tOp rAddI (tOp rMulI (tOp (rIxL K) (tVar 0) (tC (.int 0))) (tC (.int 48271))) (tOp rMulI (tVar 2) (tC (.int 69621)))) (tC (.int 11))) (tC (.int 2147483647))) (gSub (tVar 0) (tC (.int 0)) rSetL))
    (tSeq (tAsg (tOp rAddI (tOp (rIxL K) (tVar 0) (tC (.int 2))) (tC (.int 1))) (gSub (tVar 0) (tC (.int 2)) rSetL))
    (tRet (tOp rModI (tOp rFdI (tOp (rIxL K) (tVar 0) (tC (.int 0))) (tC (.int 7))) (tVar 1)))))))
abbrev N__law_next : List Str := ["_law_h", "_law_limit", "_law_cell"]
theorem st__law_next {x0 x1 : V} : start N__law_next [x0, x1] = [some x0, some x1, none] := rfl
def t__law_alike (K : PySem.W.Frag) (sr : Sp) : TS := (tSeq (tIfS (tB (tCB (rIsi K) (tCons (tVar 1) (tCons (tC (.ty "dict")) tNil)))) (tRet (tAndV (tCB (rIsi K) (tCons (tVar 0) (tCons (tC (.ty "dict")) tNil))) (tAndV (tCallR sr E0 (tCons (tCB (rListD) (tCons (tVar 0) tNil)) (tCons (tCB (rListD) (tCons (tVar 1) tNil)) tNil))) (tOp (rEqX K) (tVar 0) (tVar 1))))) tNext)
    (tSeq (tIfS (tB (tCB (rIsiT K) (tCons (tVar 1) (tCons (tTup (clA (tCons (tC (.ty "tuple")) (tCons (tC (.ty "list")) tNil)))) tNil)))) (tSeq (tIfS (tOr (tNot (tB (tCB (rIsiT K) (tCons (tVar 0) (tCons (tTup (clA (tCons (tC (.ty "tuple")) (tCons (tC (.ty "list")) tNil)))) tNil))))) (tTest (tOp rNe (tCB (rIsi K) (tCons (tVar 0) (tCons (tC (.ty "list")) tNil))) (tCB (rIsi K) (tCons (tVar 1) (tCons (tC (.ty "list")) tNil)))))) (tRet (tC (.bl false))) tNext)
    (tSeq (tIfS (tTest (tOp rNe (tCB (rLen K) (tCons (tVar 0) tNil)) (tCB (rLen K) (tCons (tVar 1) tNil)))) (tRet (tC (.bl false))) tNext)
    (tRet (tOp (rEqD K) (tLc (iRng1 (tCons (tCB (rLen K) (tCons (tVar 1) tNil)) tNil)) (gName 2) (tNot (tB (tCallR sr E0 (tCons (tOp (rIxA K) (tVar 0) (tVar 2)) (tCons (tOp (rIxA K) (tVar 1) (tVar 2)) tNil))))) (tVar 2) [2]) (tLst (clA tNil)))))) tNext)
    (tSeq (tIfS (tOr (tTest (tOp rIsN (tVar 1) (tC .non))) (tB (tCB (rIsi K) (tCons (tVar 1) (tCons (tC (.ty "str")) tNil))))) (tRet (tAndV (tOp (rEqX K) (tVar 0) (tVar 1)) (tOp rEq (tCB (rIsi K) (tCons (tVar 0) (tCons (tC (.ty "str")) tNil))) (tCB (rIsi K) (tCons (tVar 1) (tCons (tC (.ty "str")) tNil)))))) tNext)
    (tRet (tAndV (tCB (rIsi K) (tCons (tVar 0) (tCons (tC (.ty "int")) tNil))) (tAndV (tOp rEq (tCB (rIsi K) (tCons (tVar 0) (tCons (tC (.ty "bool")) tNil))) (tCB (rIsi K) (tCons (tVar 1) (tCons (tC (.ty "bool")) tNil)))) (tOp (rEqX K) (tVar 0) (tVar 1))))))))
abbrev N__law_alike : List Str := ["_law_found", "_law_due", "_law_k"]
theorem st__law_alike {x0 x1 : V} : start N__law_alike [x0, x1] = [some x0, some x1, none] := rfl
def t__law_trades (K : PySem.W.Frag) : TS := (tSeq (tPar 3 4 (tCons (tLst (clA tNil)) (tCons (tC (.int 0)) tNil)))
    (tSeq (tFor (iList K (tSl (rSlL K) (tLst (clA (tCons (tC (.str "empty")) (tCons (tC (.str "cap")) (tCons (tC (.str "label")) tNil))))) tNoPart (tPart (tOp rAddI (tC (.int 1)) (tCallR (sp__law_next K) E0 (tCons (tVar 0) (tCons (tVar 1) tNil))))))) (gName 5) (tSeq (tAsg (tOp rAddI (tC (.int 1)) (tCallR (sp__law_next K) E0 (tCons (tVar 0) (tCons (tVar 2) tNil)))) (gName 6))
    (tSeq (tAsg (tCallR (sp__law_next K) E0 (tCons (tVar 0) (tCons (tOp rAddI (tVar 6) (tC (.int 1))) tNil))) (gName 7))
    (tSeq (tWhile (tTest (tOp rGtI (tOp rMulI (tC (.int 10)) (tOp rAddI (tOp rMulI (tVar 4) (tVar 6)) (tOp rMulI (tVar 7) (tC (.int 27720))))) (tOp rMulI (tOp rMulI (tC (.int 9)) (tC (.int 27720))) (tVar 6)))) (tAsg (tOp rSubI (tVar 7) (tC (.int 1))) (gName 7)))
    (tSeq (tAsg (tOp rAddI (tVar 4) (tOp rFdI (tOp rMulI (tVar 7) (tC (.int 27720))) (tVar 6))) (gName 4))
    (tDrop (tBM K "list" rAppend (tVar 3) (tCons (tTup (clA (tCons (tVar 5) (tCons (tVar 7) (tCons (tVar 6) tNil))))) tNil))))))))
    (tRet (tCB (rTupO K) (tCons (tVar 3) tNil)))))
abbrev N__law_trades : List Str := ["_law_h", "_law_most", "_law_largest", "_law_found", "_law_worth", "_law_kind", "_law_needed", "_law_left"]
theorem st__law_trades {x0 x1 x2 : V} : start N__law_trades [x0, x1, x2] = [some x0, some x1, some x2, none, none, none, none, none] := rfl
def t__law_offer (K : PySem.W.Frag) : TS := (tSeq (tIfS (tTest (tOp rEq (tCB (rLen K) (tCons (tVar 0) tNil)) (tC (.int 1)))) (tRet (tMakeR (He.ga K "Offer") (sp_Offer_init K) E0 (clA (tCons (tOp (rIxT K) (tVar 0) (tC (.int 0))) tNil)))) tNext)
    (tRet (tIf (tTest (tOp rEq (tCB (rLen K) (tCons (tVar 0) tNil)) (tC (.int 2)))) (tMakeR (He.ga K "Offer") (sp_Offer_init K) E0 (clA (tCons (tOp (rIxT K) (tVar 0) (tC (.int 0))) (tCons (tOp (rIxT K) (tVar 0) (tC (.int 1))) tNil)))) (tMakeR (He.ga K "Offer") (sp_Offer_init K) E0 (clA (tCons (tOp (rIxT K) (tVar 0) (tC (.int 0))) (tCons (tOp (rIxT K) (tVar 0) (tC (.int 1))) (tCons (tOp (rIxT K) (tVar 0) (tC (.int 2))) tNil))))))))
abbrev N__law_offer : List Str := ["_law_trades_here"]
theorem st__law_offer {x0 : V} : start N__law_offer [x0] = [some x0] := rfl
def t_law (K : PySem.W.Frag) : TS := (tSeq (tAsg (tCallR (sp__law_mix K) E0 (tCons (tVar 0) (tCons (tC (.int 8)) tNil))) (gName 1))
    (tSeq (tFor (iRng1 (tCons (tC (.int 3)) tNil)) (gName 2) (tSeq (tAsg (tCallR (sp__law_trades K) E0 (tCons (tVar 1) (tCons (tC (.int 3)) (tCons (tC (.int 12)) tNil)))) (gName 3))
    (tSeq (tAsg (tCallR (sp__law_offer K) E0 (tCons (tVar 3) tNil)) (gName 4))
    (tSeq (tAsg (tCallR (sp__law_next K) E0 (tCons (tVar 1) (tCons (tOp (rIxL K) (tLst (clA (tCons (tC (.int 30)) (tCons (tOp rPowI (tC (.int 10)) (tC (.int 17))) tNil)))) (tCallR (sp__law_next K) E0 (tCons (tVar 1) (tCons (tC (.int 2)) tNil)))) tNil))) (gName 5))
    (tSeq (tAsg (tOp rAddI (tVar 5) (tCallR (sp__law_next K) E0 (tCons (tVar 1) (tCons (tC (.int 60)) tNil)))) (gName 6))
    (tSeq (tAsg (tListG (tMethG (He.ga K "Offer") "missing" (sp_Offer_missing K) [] E0 (tVar 4) (tCons (tVar 5) (tCons (tVar 6) tNil)))) (gName 7))
    (tSeq (tIfS (tNot (tB (tCallR (sp_alike 4) E0 (tCons (tVar 7) (tCons (tLc (iRng2 (tCons (tVar 5) (tCons (tOp rAddI (tVar 6) (tC (.int 1))) tNil))) (gName 12) (tTest (tOp (rInO (He.ga K "Offer") (sp_Offer_contains K) E0 true) (tVar 12) (tVar 4))) (tVar 12) [12]) tNil))))) (tRet (tC (.bl false))) tNext)
    (tSeq (tAsg (tIf (tTest (tOp rGtI (tVar 5) (tC (.int 0)))) (tMethR (He.ga K "Offer") "count_missing" (sp_Offer_count_missing K) E0 (tVar 4) (tCons (tOp rSubI (tVar 5) (tC (.int 1))) tNil)) (tC (.int 0))) (gName 8))
    (tSeq (tIfS (tNot (tB (tCallR (sp_alike 4) E0 (tCons (tMethR (He.ga K "Offer") "count_missing" (sp_Offer_count_missing K) E0 (tVar 4) (tCons (tVar 6) tNil)) (tCons (tOp rAddI (tVar 8) (tCB (rLen K) (tCons (tVar 7) tNil))) tNil))))) (tRet (tC (.bl false))) tNext)
    (tSeq (tAsg (tListG (tMethG (He.ga K "Offer") "missing" (sp_Offer_missing K) [] E0 (tVar 4) (tCons (tC (.int 0)) (tCons (tC (.int 80)) tNil)))) (gName 9))
    (tSeq (tIfS (tNot (tB (tCallR (sp_alike 4) E0 (tCons (tMethR (He.ga K "Offer") "count_missing" (sp_Offer_count_missing K) E0 (tVar 4) (tCons (tC (.int 80)) tNil)) (tCons (tCB (rLen K) (tCons (tVar 9) tNil)) tNil))))) (tRet (tC (.bl false))) tNext)
    (tSeq (tIfS (tTest (tOp (rNeD K) (tLc (iRng1 (tCons (tCB (rLen K) (tCons (tVar 9) tNil)) tNil)) (gName 13) (tTest (tOp rNe (tMethR (He.ga K "Offer") "nth_missing" (sp_Offer_nth_missing K) E0 (tVar 4) (tCons (tOp rAddI (tVar 13) (tC (.int 1))) tNil)) (tOp (rIxL K) (tVar 9) (tVar 13)))) (tVar 13) [13]) (tLst (clA tNil)))) (tRet (tC (.bl false))) tNext)
    (tSeq (tAsg (tOp rAddI (tC (.int 1)) (tCallR (sp__law_next K) E0 (tCons (tVar 1) (tCons (tOp rPowI (tC (.int 10)) (tC (.int 18))) tNil)))) (gName 10))
    (tSeq (tAsg (tMethR (He.ga K "Offer") "nth_missing" (sp_Offer_nth_missing K) E0 (tVar 4) (tCons (tVar 10) tNil)) (gName 11))
    (tIfS (tNot (tB (tBoolO (He.ga K "Offer") (sp_Offer_bool K) E0 (tVar 4)))) (tIfS (tOr (tTest (tOp rNotN (tVar 11) (tC .non))) (tTest (tOp (rNeD K) (tVar 9) (tLst (clA tNil))))) (tRet (tC (.bl false))) tNext) (tIfS (tOr (tTest (tOp (rInO (He.ga K "Offer") (sp_Offer_contains K) E0 false) (tVar 11) (tVar 4))) (tAnd (tTest (tOp rLeI (tVar 11) (tOp rPowI (tC (.int 10)) (tC (.int 18))))) (tTest (tOp rNe (tMethR (He.ga K "Offer") "count_missing" (sp_Offer_count_missing K) E0 (tVar 4) (tCons (tVar 11) tNil)) (tVar 10))))) (tRet (tC (.bl false))) tNext))))))))))))))))
    (tRet (tC (.bl true)))))
abbrev N_law : List Str := ["_law_script", "_law_h", "_law_turn", "_law_trades_here", "_law_offer_here", "_law_first", "_law_last", "_law_found", "_law_before", "_law_small", "_law_number", "_law_nth", "_law_d", "_law_k"]
theorem st_law {x0 : V} : start N_law [x0] = [some x0, none, none, none, none, none, none, none, none, none, none, none, none, none] := rfl
end EB
namespace EB
open PySem PySem.Spec L2 StX ClX
set_option maxHeartbeats 1000000
variable {K : PySem.W.Frag} {H : Hp} {Q : VK} {E : XK} {vs : List V}
/-! ## what the bodies read, against the promises -/
abbrev Dn (Q : VK) : Ends := { nx := fun _ H' => Q .non H', rt := Q }
theorem gcd_step {a b : Int} (ha : 0 ≤ a) (hb : 0 < b) : gcdI b (a % b) = gcdI a b := by
  unfold gcdI
  rw [Int.gcd_comm a b]
  congr 1
  show Int.gcd b (a % b) = Int.gcd b a
  have e : b * (a / b) + a % b = a := Int.mul_ediv_add_emod a b
  conv => rhs; rw [← e]
  rw [Int.gcd_mul_left_add_right]
theorem gcd_zero {a : Int} (ha : 0 ≤ a) : gcdI a 0 = a := by
  unfold gcdI
  rw [Int.gcd_zero_right]
  omega
theorem pure_common_divisor (h : sp_common_divisor K vs H Q E) : t_common_divisor K (Dn Q) (start N_common_divisor vs) H := by
  obtain ⟨a, b, rfl, ha, hb, k⟩ := h
  rw [st_common_divisor]
  unfold t_common_divisor
  walk_at "go"
  refine w_while (fun n σ' H' => ∃ x y : Int, σ' = [some (.int x), some (.int y)] ∧ H' = H ∧ 0 ≤ x ∧ 0 ≤ y ∧ gcdI x y = gcdI a b ∧ n = y.toNat) b.toNat ⟨a, b, rfl, rfl, ha, hb, rfl, rfl⟩ ?_
  rintro n σ' H' ⟨x, y, rfl, rfl, hx, hy, hg, rfl⟩
  walk_at "go"
  refine w_2n (fun hne => w_turn ?_) fun he => ?_
  · walk_at "go"
    have m1 := Int.emod_nonneg x hne
    have m2 := Int.emod_lt_of_pos x (show 0 < y by omega)
    exact ⟨(x % y).toNat, by omega, y, x % y, rfl, rfl, hy, m1, by rw [gcd_step hx (by omega)]; exact hg, rfl⟩
  · subst he
    walk_at "go"
    rw [gcd_zero hx] at hg
    rw [hg]
    exact k _ (Evl.Ex.refl _)
theorem pure_common_multiple (h : sp_common_multiple K vs H Q E) : t_common_multiple K (Dn Q) (start N_common_multiple vs) H := by
  obtain ⟨a, b, rfl, ha, hb, hb2, k⟩ := h
  have gp := gcdI_pos (a := a) hb
  have gl := gcdI_le (a := a) hb
  rw [st_common_multiple]
  unfold t_common_multiple
  walk_at "go"
  refine ap_common_divisor (by omega) (by omega) fun H1 e1 => ?_
  walk_at "go"
  exact k _ e1
theorem pure_bought (h : sp_bought K vs H Q E) : t_bought K (Dn Q) (start N_bought vs) H := by
  obtain ⟨a, ts, d, rfl, ⟨xs, hx, hp⟩, g, k⟩ := h
  rw [st_bought]
  unfold t_bought
  walk_at "go"
  have hlen : xs.length ≤ 1000 := by
    rw [pairedLen hp]
    have := g.1
    omega
  refine w_lcTa ((ts.map fun t => t.2.1 * d / t.2.2).map V.int) (Evl.st_of hx) hlen (by simp [pairedLen hp]) ?_ ?_
  · intro i x y hi hy H1 e1 R q
    obtain ⟨t, ht, z⟩ := pairedGet hp hi
    obtain ⟨p, rfl, h1⟩ := z
    obtain ⟨g1, g2, g3, g4⟩ := g.2 t (List.mem_of_getElem? ht)
    have ey : y = .int (t.2.1 * d / t.2.2) := by
      rw [List.getElem?_map, List.getElem?_map, ht] at hy
      exact (Option.some.inj hy).symm
    subst ey
    dsimp only [wipe, List.set]
    walk_at "go"
    refine ⟨rfl, ?_⟩
    walk_at "go"
    exact q _ (Evl.Ex.refl _)
  · intro p H2 hn e2 h2
    walk_at "go"
    refine w_sum (Evl.sq_of h2) ?_
    exact k _ e2
theorem pure_least_point (h : sp_least_point K vs H Q E) : t_least_point K (Dn Q) (start N_least_point vs) H := by
  obtain ⟨a, ts, n, x, rfl, hT, g, hp, ⟨B, hB1, hB2⟩, k⟩ := h
  rw [st_least_point]
  unfold t_least_point
  walk_at "go"
  refine w_whileW (fun m σ' H' => ∃ (y : Int) (o : Option V), σ' = [some (.ref a), some (.int n), some (.int y), o] ∧ Ex H H' ∧ x ≤ y ∧ y ≤ B ∧ y ≤ n + bo ts y ∧ (∀ e, x ≤ e → n + bo ts e ≤ e → y ≤ e) ∧ m = (B - y).toNat) (B - x).toNat
    ⟨x, none, rfl, Evl.Ex.refl _, Int.le_refl _, hB1, hp, fun e he _ => he, rfl⟩ ?_
  rintro m σ' H' ⟨y, o, rfl, e1, h1, h2, h3, h4, rfl⟩
  walk_at "go"
  refine ap_bought (hT.up e1) g fun H2 e2 => ?_
  walk_at "go"
  refine w_2n (fun hne => w_turn ?_) fun he => ?_
  · walk_at "go"
    have m1 := bo_mono g.2 h3
    have m2 : n + bo ts y ≤ B := by
      have := bo_mono g.2 h2
      omega
    exact ⟨(B - (n + bo ts y)).toNat, by omega, n + bo ts y, _, rfl, Evl.Ex.trans e1 e2, by omega, m2, by omega, fun e he hq => by
      have := bo_mono g.2 (h4 e he hq)
      omega, rfl⟩
  · walk_at "go"
    exact k y H2 h1 he h4 (Evl.Ex.trans e1 e2)
theorem take_snoc {α : Type} {xs : List α} {i : Nat} {x : α} (h : xs[i]? = some x) : xs.take (i + 1) = xs.take i ++ [x] := by
  rw [List.take_succ, h]
  rfl
/-- a fold of multiples so far -/
theorem fold_pos (f : Tr → Int) {ts : List Tr} (hf : ∀ t ∈ ts, 0 < f t) (i : Nat) : 0 < (ts.take i).foldl (fun y t => lcmI y (f t)) 1 := (fold_lcm f (ts.take i) 1 (fun t h => hf t (List.mem_of_mem_take h)) (by decide)).1
theorem pure_needed_multiple (h : sp_needed_multiple K vs H Q E) : t_needed_multiple K (Dn Q) (start N_needed_multiple vs) H := by
  obtain ⟨a, ts, rfl, ⟨xs, hx, hp⟩, g, k⟩ := h
  rw [st_needed_multiple]
  unfold t_needed_multiple
  walk_at "go"
  refine w_foTt (fun i σ' H' => ∃ o2 o3 o4 : Option V, σ' = [some (.ref a), some (.int ((ts.take i).foldl (fun y t => lcmI y t.2.2) 1)), o2, o3, o4] ∧ Ex H H') (Evl.st_of hx) ⟨_, _, _, rfl, Evl.Ex.refl _⟩ (fun i σ' H' _ ⟨_, _, _, _, e⟩ => exT (Evl.st_of hx) e) ?_ ?_
  · rintro i x σ' H' hi ⟨o2, o3, o4, rfl, e⟩
    obtain ⟨t, ht, p, rfl, h1⟩ := pairedGet hp hi
    obtain ⟨g1, g2, g3, g4⟩ := g.2 t (List.mem_of_getElem? ht)
    walk_at "go"
    have fp := fold_pos (fun t => t.2.2) (fun t h => by have := (g.2 t h).2.2.1; omega) i
    refine ap_common_multiple fp (by omega) (by omega) fun H2 e2 => ?_
    walk_at "go"
    rw [take_snoc ht, List.foldl_append]
    exact ⟨_, _, _, rfl, Evl.Ex.trans e e2⟩
  · rintro σ' H' ⟨o2, o3, o4, rfl, e⟩
    walk_at "go"
    rw [pairedLen hp, List.take_length]
    exact k _ e
theorem pure_period_of (h : sp_period_of K vs H Q E) : t_period_of K (Dn Q) (start N_period_of vs) H := by
  obtain ⟨a, ts, rfl, ⟨xs, hx, hp⟩, g, k⟩ := h
  rw [st_period_of]
  unfold t_period_of
  walk_at "go"
  refine w_foTt (fun i σ' H' => ∃ o2 o3 o4 : Option V, σ' = [some (.ref a), some (.int ((ts.take i).foldl (fun y t => lcmI y (pc t)) 1)), o2, o3, o4] ∧ Ex H H') (Evl.st_of hx) ⟨_, _, _, rfl, Evl.Ex.refl _⟩ (fun i σ' H' _ ⟨_, _, _, _, e⟩ => exT (Evl.st_of hx) e) ?_ ?_
  · rintro i x σ' H' hi ⟨o2, o3, o4, rfl, e⟩
    obtain ⟨t, ht, p, rfl, h1⟩ := pairedGet hp hi
    have gt := g.2 t (List.mem_of_getElem? ht)
    obtain ⟨g1, g2, g3, g4⟩ := id gt
    walk_at "go"
    refine ap_common_divisor g1 (by omega) fun H2 e2 => ?_
    have gp := gcdI_pos (a := t.2.1) (b := t.2.2) (by omega)
    have gl := gcdI_le (a := t.2.1) (b := t.2.2) (by omega)
    walk_at "go"
    have fp := fold_pos pc (fun t h => pc_pos (g.2 t h)) i
    have pp := pc_pos gt
    have pl : pc t ≤ 12 := by
      have := Int.le_of_dvd (show 0 < t.2.2 by omega) (pc_dvd (t := t))
      omega
    refine ap_common_multiple fp pp (by show pc t < 1000000; omega) fun H3 e3 => ?_
    walk_at "go"
    rw [take_snoc ht, List.foldl_append]
    exact ⟨_, _, _, rfl, Evl.Ex.trans e (Evl.Ex.trans e2 e3)⟩
  · rintro σ' H' ⟨o2, o3, o4, rfl, e⟩
    have ep : (ts.take xs.length).foldl (fun y t => lcmI y (pc t)) 1 = perd ts := by
      rw [pairedLen hp, List.take_length]
      rfl
    rw [ep]
    walk_at "go"
    refine ap_bought (Trs.up e ⟨xs, hx, hp⟩) g fun H2 e2 => ?_
    walk_at "go"
    rename_i p H3 n3 e3 h3
    exact k _ _ (Evl.fresh_back (Evl.Ex.trans e e2) n3) (Evl.Ex.trans e (Evl.Ex.trans e2 e3)) h3
theorem pure_total (h : sp_total K vs H Q E) : t_total K (Dn Q) (start N_total vs) H := by
  obtain ⟨a, ts, n, rfl, hT, f, h1, hn, k⟩ := h
  rw [st_total]
  unfold t_total
  walk_at "go"
  refine ap_period_of hT f.1 fun p H1 hp e1 h2 => ?_
  have np := nd_pos f
  have nl := nd_le f
  have pp := perd_pos f.1.2
  have pl := perd_le f.1.2
  walk_at "go"
  have s1 := st0_up f h1 (n := n)
  have s2 : ∀ e, n + bo ts e ≤ e → st0 ts n ≤ e := fun e he => st0_le f h1 he
  have B0 := bo_tenth f (d := 10 * n) (by omega)
  have bn := bo_nonneg f.1.2 hn
  show if decide (n < st0 ts n) = true then _ else _
  refine w_2 (fun c => ?_) fun c => ?_
  · walk_at "go"
    refine ⟨a, ts, n, st0 ts n, rfl, hT.up e1, f.1, s1, ⟨10 * n, s2 _ (by omega), by omega⟩, fun D H2 d1 d2 d3 e2 => ?_⟩
    have it : IsTot ts n D := ⟨d2, by omega, fun e he hq => d3 e (s2 e hq) hq⟩
    rw [← drk_eq it]
    exact k _ (Evl.Ex.trans e1 e2)
  · walk_at "go"
    refine ⟨a, ts, n, n, rfl, hT.up e1, f.1, by omega, ⟨10 * n, by omega, by omega⟩, fun D H2 d1 d2 d3 e2 => ?_⟩
    have it : IsTot ts n D := ⟨d2, by omega, fun e he hq => d3 e (by have := bo_nonneg f.1.2 he; omega) hq⟩
    rw [← drk_eq it]
    exact k _ (Evl.Ex.trans e1 e2)
end EB
namespace EB
open PySem PySem.Spec L2 StX ClX
set_option maxHeartbeats 1000000
section
variable {K : PySem.W.Frag} {H : Hp} {Q : VK} {E : XK} {vs : List V}
theorem pure_is_kind (h : sp_is_kind K vs H Q E) : t_is_kind K (Dn Q) (start N_is_kind vs) H := by
  obtain ⟨z, rfl, hz, k⟩ := h
  rw [st_is_kind]
  unfold t_is_kind
  walk_at "go"
  refine w_lenS hz ?_
  walk_at "go"
  refine w_2 (fun c1 => ?_) fun c1 => ?_
  · walk_at "go"
    refine w_2 (fun c2 => ?_) fun c2 => ?_
    · walk_at "go"
      have hs : z.cps.size ≤ 1000 := by
        have : (z.length : Int) = (z.cps.size : Int) := rfl
        omega
      refine w_lcS (fun cc => V.bl (decide (cc ∈ LET.cps.toList))) hs (fun R q => by walk_at "go"; exact q) ?_ ?_
      · intro i cc hi H1 e1 R q
        dsimp only [wipe, List.set]
        walk_at "go"
        refine ⟨rfl, ?_⟩
        walk_at "go"
        exact q _ (Evl.Ex.refl _)
      · intro p H2 hn e2 h2
        walk_at "go"
        rw [show (fun cc => V.bl (decide (cc ∈ LET.cps.toList))) = V.bl ∘ (fun cc => decide (cc ∈ LET.cps.toList)) from rfl, ← List.map_map] at h2
        refine w_all (Evl.sq_of h2) ?_
        have := k H2 e2
        unfold isKind at this
        rw [decide_eq_true c1, decide_eq_true c2] at this
        rw [List.all_map]
        simpa using this
    · have := k H (Evl.Ex.refl _)
      unfold isKind at this
      rw [decide_eq_false c2] at this
      walk_at "go"
      simpa using this
  · have := k H (Evl.Ex.refl _)
    unfold isKind at this
    rw [decide_eq_false c1] at this
    walk_at "go"
    simpa using this
theorem pure_is_trade_kind (h : sp_is_trade_kind K vs H Q E) : t_is_trade_kind K (Dn Q) (start N_is_trade_kind vs) H := by
  obtain ⟨z, rfl, hz, k⟩ := h
  rw [st_is_trade_kind]
  unfold t_is_trade_kind
  walk_at "go"
  refine ⟨z, rfl, hz, fun H1 e1 => ?_⟩
  walk_at "go"
  have := k H1 e1
  unfold isTK at this
  refine w_2b (fun c => ?_) fun c => ?_
  · walk_at "go"
    rw [c] at this
    simpa using this
  · rw [c] at this
    simpa using this
theorem pure_is_trade (O : OfK K) (h : sp_is_trade K vs H Q E) : t_is_trade K (Dn Q) (start N_is_trade vs) H := by
  obtain ⟨p, t, rfl, hp, hz, k⟩ := h
  obtain ⟨_, _, cr, ⟨u, mn⟩, _⟩ := O
  rw [st_is_trade]
  unfold t_is_trade
  walk_at "go"
  refine ⟨t.1, rfl, hz, fun H1 e1 => ?_⟩
  have fin := k H1 e1
  unfold isTr at fin
  walk_at "go"
  refine w_2b (fun c => ?_) fun c => ?_
  · rw [c] at fin
    walk_at "go"
    refine w_2 (fun c1 => ?_) fun c1 => ?_
    · rw [decide_eq_true c1] at fin
      walk_at "go"
      refine w_2 (fun c2 => ?_) fun c2 => ?_
      · rw [decide_eq_true c2] at fin
        walk_at "go"
        refine w_2 (fun c3 => ?_) fun c3 => ?_
        · rw [decide_eq_true c3] at fin
          walk_at "go"
          simpa using fin
        · rw [decide_eq_false c3] at fin
          simpa using fin
      · rw [decide_eq_false c2] at fin
        walk_at "go"
        simpa using fin
    · rw [decide_eq_false c1] at fin
      walk_at "go"
      simpa using fin
  · rw [c] at fin
    simpa using fin
theorem pure_validate_number (h : sp_validate_number K vs H Q E) : t_validate_number K (Dn Q) (start N_validate_number vs) H := by
  obtain ⟨n, lo, hi, rfl, h1, h2, k⟩ := h
  rw [st_validate_number]
  unfold t_validate_number
  walk_at "go"
  refine w_2 (fun c => ?_) fun c => absurd h1 c
  walk_at "go"
  rw [decide_eq_true h2]
  walk_at "go"
  exact k _ (Evl.Ex.refl _)
theorem pure_Offer_call (O : OfK K) (h : sp_Offer_call K vs H Q E) : t_Offer_call K (Dn Q) (start N_Offer_call vs) H := by
  obtain ⟨o, ts, n, rfl, ⟨dx, a, ho, hT⟩, ok, h1, h2, k⟩ := h
  obtain ⟨cls, np, _, _, _⟩ := O
  rw [st_Offer_call]
  unfold t_Offer_call
  walk_at "go"
  refine ap_validate_number h1 (by omega) fun H1 e1 => ?_
  walk_at "go"
  refine ap_total (hT.up e1) ok.fair ok.one h1 fun H2 e2 => ?_
  exact k _ (Evl.Ex.trans e1 e2)
end
end EB
namespace EB
open PySem PySem.Spec L2 StX ClX
set_option maxHeartbeats 1000000
section
variable {K : PySem.W.Frag} {H : Hp} {Q : VK} {E : XK} {vs : List V}
theorem dpTr {H : Hp} {x : V} {t : Tr} (h : TrAt H x t) : Dp K H x (.tuple [.str t.1, .int t.2.1, .int t.2.2]) := by
  obtain ⟨p, rfl, hp⟩ := h
  exact .tup (Evl.st_of hp) (.cons (.str _) (.cons (.int _) (.cons (.int _) .nil)))
def trD (t : Tr) : PyData := .tuple [.str t.1, .int t.2.1, .int t.2.2]
theorem dpTrs {H : Hp} : ∀ {xs : List V} {ts : List Tr}, Paired (TrAt H) xs ts → DpAll K H xs (ts.map trD)
  | _, _, .nil => .nil
  | _, _, .cons a r => .cons (dpTr a) (dpTrs r)
def trsD (ts : List Tr) : PyData := .tuple (ts.map trD)
theorem dpTrsA {a : Addr} {ts : List Tr} (h : Trs H a ts) : Dp K H (.ref a) (trsD ts) := by
  obtain ⟨xs, h1, h2⟩ := h
  exact .tup (Evl.st_of h1) (dpTrs h2)
theorem let_ok : ∀ c ∈ LET.cps.toList, c < 1114112 := by decide +kernel
theorem strOk_kind {z : Str} (h : isTK z = true) : PyData.strOk z = true := by
  unfold isTK isKind at h
  simp only [Bool.and_eq_true] at h
  have h2 := h.1.2
  unfold PyData.strOk
  rw [← Array.all_toList, List.all_eq_true]
  intro c hc
  rw [List.all_eq_true] at h2
  exact decide_eq_true (let_ok c (of_decide_eq_true (h2 c hc)))
theorem canLay_trs {ts : List Tr} (h : ∀ t ∈ ts, PyData.strOk t.1 = true) : PyData.canLayAll0 (ts.map trD) = true := by
  induction ts with
  | nil => rfl
  | cons t ts ih =>
    have a := h t List.mem_cons_self
    have b := ih fun u hu => h u (List.mem_cons_of_mem _ hu)
    simp only [List.map_cons, trD, PyData.canLayAll0, PyData.canLay0, a, Bool.and_self, Bool.true_and]
    exact b
theorem depth_trs (ts : List Tr) : PyData.depthAll (ts.map trD) ≤ 1 := by
  induction ts with
  | nil => exact Nat.zero_le _
  | cons t ts ih =>
    simp only [List.map_cons, trD, PyData.depthAll, PyData.depth]
    exact Nat.max_le.mpr ⟨by decide, ih⟩
theorem shaped_trs {ts : List Tr} (h : ∀ t ∈ ts, isTK t.1 = true) : SeqAt.shaped (trsD ts) = true := by
  unfold SeqAt.shaped trsD
  rw [Bool.and_eq_true]
  refine ⟨?_, decide_eq_true ?_⟩
  · exact canLay_trs fun t ht => strOk_kind (h t ht)
  · show PyData.depthAll (ts.map trD) + 1 ≤ 64
    have := depth_trs ts
    omega
theorem pure_Offer_init (O : OfK K) (h : spi_Offer_init K vs H Q E) : t_Offer_init K (Dn Q) (start N_Offer_init vs) H := by
  obtain ⟨x, dx, a, ts, rfl, hx, hT, ok, k⟩ := h
  obtain ⟨cls, np, cr, _, ⟨u, mt⟩⟩ := O
  obtain ⟨xs, ha, hp⟩ := id hT
  have f := ok.fair
  have len3 := f.1.1
  rw [st_Offer_init]
  unfold t_Offer_init
  walk_at "go"
  rename_i p0 H0 n0 e0 h0
  refine w_eqD (d := trsD ts) (e := .tuple []) (dpTrsA (hT.up e0)) (.tup (Evl.st_of h0) .nil) (shaped_trs fun t ht => (ok.kinds t ht).1) rfl ?_
  have ne : PyData.eqv (trsD ts) (.tuple []) = false := by
    cases ts with
    | nil => exact absurd ok.one (by decide)
    | cons t r => rfl
  rw [ne]
  walk_at "go"
  refine w_forE (fun i σ' H' => ∃ o2 o3 o4 o5 o6 o7 o8 : Option V, σ' = [some (.ref x), some (.ref a), o2, o3, o4, o5, o6, o7, o8] ∧ Ex H0 H') (Evl.st_of (e0 _ _ ha)) (fun R q => by walk_at "go"; exact q) ⟨_, _, _, _, _, _, _, rfl, Evl.Ex.refl _⟩
    (fun i σ' H' _ ⟨_, _, _, _, _, _, _, _, e⟩ => exT (Evl.st_of (e0 _ _ ha)) e) ?_ ?_
  · rintro i y σ' H' T H2 hi ⟨o2, o3, o4, o5, o6, o7, o8, rfl, e⟩ nT eT hT2
    obtain ⟨t, ht, z⟩ := pairedGet hp hi
    have il : i < xs.length := (List.getElem?_eq_some_iff.mp hi).1
    have i3 : (i : Int) < 3 := by
      have := pairedLen hp
      omega
    have eH : Ex H H2 := Evl.Ex.trans e0 (Evl.Ex.trans e eT)
    walk_at "go"
    refine w_slTk (Evl.st_of (eH _ _ ha)) il fun p1 H3 n3 e3 h3 => ?_
    refine w_lcTa ((ts.take i).map fun t => V.str t.1) (Evl.st_of h3) (by rw [List.length_take]; omega) (by rw [List.length_map, List.length_take, List.length_take, pairedLen hp]) ?_ ?_
    · intro j z y hz hy H4 e4 R q
      have hz' : xs[j]? = some z := by
        rw [List.getElem?_take] at hz
        split at hz
        · exact hz
        · cases hz
      obtain ⟨t2, ht2, p2, rfl, hp2⟩ := pairedGet hp hz'
      have ey : y = .str t2.1 := by
        rw [List.getElem?_map, List.getElem?_take, ht2] at hy
        split at hy
        · exact (Option.some.inj hy).symm
        · cases hy
      subst ey
      have eH4 : Ex H H4 := Evl.Ex.trans eH (Evl.Ex.trans e3 e4)
      dsimp only [wipe, List.set]
      walk_at "go"
      refine ⟨rfl, ?_⟩
      walk_at "go"
      exact q _ (Evl.Ex.refl _)
    · intro p4 H4 n4 e4 h4
      have eH4 : Ex H H4 := Evl.Ex.trans eH (Evl.Ex.trans e3 e4)
      obtain ⟨p, rfl, hpt⟩ := z
      obtain ⟨gk, gl⟩ := ok.kinds t (List.mem_of_getElem? ht)
      obtain ⟨g1, g2, g3, g4⟩ := f.1.2 t (List.mem_of_getElem? ht)
      walk_at "go"
      rw [decide_eq_false (show ¬ (i : Int) = 3 by omega)]
      walk_at "go"
      refine ⟨p, t, rfl, eH4 _ _ hpt, Nat.le_trans gl (by decide), fun H5 e5 => ?_⟩
      have tr : isTr t = true := by
        unfold isTr
        rw [gk, decide_eq_true g1, decide_eq_true g2, decide_eq_true g3, decide_eq_true g4]
        rfl
      rw [tr]
      walk_at "go"
      try (refine w_ixT (Evl.st_of (e5 _ _ (eH4 _ _ hpt))) (v := .str t.1) rfl ?_; walk_at "go")
      have h5 : H5 p4 = some (.lst (((ts.take i).map (·.1)).map V.str)) := by
        rw [List.map_map]
        exact e5 _ _ h4
      refine w_isIn (.inl (Evl.sq_of h5)) rfl flat_strs ?_
      rw [inV_str]
      have nm : t.1 ∉ (ts.take i).map (·.1) := by
        have nd := ok.nodup
        intro hm
        have e1 : ts.map (·.1) = (ts.take i).map (·.1) ++ (ts.drop i).map (·.1) := by rw [← List.map_append, List.take_append_drop]
        rw [e1, List.nodup_append] at nd
        refine nd.2.2 t.1 hm t.1 ?_ rfl
        refine List.mem_map.mpr ⟨t, ?_, rfl⟩
        rw [List.mem_iff_getElem?]
        exact ⟨0, by rw [List.getElem?_drop]; simpa using ht⟩
      rw [decide_eq_false nm]
      walk_at "go"
      exact ⟨_, _, _, _, _, _, _, rfl, Evl.Ex.trans e (Evl.Ex.trans eT (Evl.Ex.trans e3 (Evl.Ex.trans e4 e5)))⟩
  · rintro σ' H' ⟨o2, o3, o4, o5, o6, o7, o8, rfl, e⟩
    have eH : Ex H H' := Evl.Ex.trans e0 e
    walk_at "go"
    refine ap_needed_multiple (hT.up eH) f.1 fun H1 e1 => ?_
    walk_at "go"
    refine ap_bought (hT.up (Evl.Ex.trans eH e1)) f.1 fun H2 e2 => ?_
    have np0 := ndm_pos f.1.2
    have b10 := bo_tenth f (d := ndm ts) (by omega)
    walk_at "go"
    rw [decide_eq_false (show ¬ 9 * ndm ts < 10 * bo ts (ndm ts) by omega)]
    walk_at "go"
    rename_i H3 e3 h3
    refine k H3 (fun b o nb hb => e3 b o nb ?_) h3
    exact (Evl.Ex.trans eH (Evl.Ex.trans e1 e2)) b o hb
end
end EB
namespace EB
open PySem PySem.Spec L2 StX ClX
set_option maxHeartbeats 1000000
section
variable {K : PySem.W.Frag} {H : Hp} {Q : VK} {E : XK} {vs : List V}
theorem pure__law_mix (h : sp__law_mix K vs H Q E) : t__law_mix K (Dn Q) (start N__law_mix vs) H := by
  obtain ⟨a, ns, s, rfl, ha, hl, hs, k⟩ := h
  rw [st__law_mix]
  unfold t__law_mix
  walk_at "go"
  refine w_foLt (fun i σ' H' => ∃ (m : Int) (o3 : Option V), σ' = [some (.ref a), some (.int s), some (.int m), o3] ∧ 0 ≤ m ∧ Ex H H') ha ⟨s, _, rfl, hs, Evl.Ex.refl _⟩ (fun i σ' H' _ ⟨_, _, _, _, e⟩ => exL ha e) ?_ ?_
  · rintro i x σ' H' hi ⟨m, o3, rfl, hm, e⟩
    rw [List.getElem?_map] at hi
    obtain ⟨n, hn, rfl⟩ := Option.map_eq_some_iff.mp hi
    walk_at "go"
    exact ⟨_, _, rfl, Int.emod_nonneg _ (by decide), e⟩
  · rintro σ' H' ⟨m, o3, rfl, hm, e⟩
    walk_at "go"
    rename_i c H1 n1 e1 h1 h H2 n2 e2 h2
    have c0 : H c = none := Evl.fresh_back e n1
    have h0 : H h = none := Evl.fresh_back (Evl.Ex.trans e e1) n2
    exact k h c H2 h0 c0 (Evl.Ex.trans e (Evl.Ex.trans e1 e2)) ⟨m, 0, ns, h2, e2 _ _ h1, hl, hm, by decide⟩
theorem pure__law_next (h : sp__law_next K vs H Q E) : t__law_next K (Dn Q) (start N__law_next vs) H := by
  obtain ⟨h, c, n, rfl, s, h1, h2, k⟩ := h
  have nhc := s.ne
  obtain ⟨m, i, ns, ah, ac, hl, hm, hi⟩ := s.ex
  rw [st__law_next]
  unfold t__law_next
  walk_at "go"
  rename_i p1 H1 n1 e1 q1 p2 H2 n2 e2 q2
  rw [List.length_map]
  have eH2 : Ex H H2 := Evl.Ex.trans e1 e2
  have cell : ∃ z : Int, atI (ns.map V.int ++ [.int 0]) (i % if (ns.length : Int) > 1 then (ns.length : Int) else 1) = some (.int z) ∧ (ns.length = 0 → z = 0) := by
    have a0 : 0 ≤ i % (if (ns.length : Int) > 1 then (ns.length : Int) else 1) := Int.emod_nonneg _ (by split <;> omega)
    have a1 : i % (if (ns.length : Int) > 1 then (ns.length : Int) else 1) < (if (ns.length : Int) > 1 then (ns.length : Int) else 1) := Int.emod_lt_of_pos _ (by split <;> omega)
    generalize hj : i % (if (ns.length : Int) > 1 then (ns.length : Int) else 1) = j at a0 a1
    have lt : j.toNat < (ns ++ [0]).length := by
      rw [List.length_append]
      split at a1 <;> simp <;> omega
    have e : ns.map V.int ++ [.int 0] = (ns ++ [0]).map V.int := by simp
    refine ⟨(ns ++ [0])[j.toNat], ?_, fun hz => ?_⟩
    · rw [e]
      refine atI_pos a0 ?_
      rw [List.getElem?_map, List.getElem?_eq_getElem lt]
      rfl
    · have en : ns = [] := List.length_eq_zero_iff.mp hz
      subst en
      have : j.toNat = 0 := by
        simp at lt
        omega
      simp [this]
  obtain ⟨z, hz, z0⟩ := cell
  refine w_ixL (Evl.sq_of q2) hz ?_
  walk_at "go"
  have e18 : (10 : Int) ^ (18 : Int).toNat = 1000000000000000000 := by decide
  rw [e18]
  have ah2 := eH2 _ _ ah
  have ac2 := eH2 _ _ ac
  refine w_2 (fun big => ?_) fun small => ?_
  · have lp : 0 < ns.length := by
      rcases Nat.eq_zero_or_pos ns.length with h0 | h0
      · have := z0 h0
        omega
      · exact h0
    walk_at "go"
    rw [List.length_map]
    have j0 : 0 ≤ i % (ns.length : Int) := Int.emod_nonneg _ (by omega)
    have j1 : i % (ns.length : Int) < (ns.length : Int) := Int.emod_lt_of_pos _ (by omega)
    walk_at "go"
    refine w_setL ac2 (ixN_pos j0 (by rw [List.length_map]; exact j1)) fun H3 e3 h3 => ?_
    walk_at "go"
    refine k _ H3 (Int.emod_nonneg _ (by omega)) (Int.emod_lt_of_pos _ (by omega)) ⟨⟨m, i, ns.set (i % (ns.length : Int)).toNat (z / n), e3 _ _ nhc ah2, ?_, by rw [List.length_set]; exact hl, hm, hi⟩, fun b o n3 n4 hb => e3 b o n4 (eH2 b o hb)⟩
    rw [h3, List.map_set]
  · walk_at "go"
    rename_i H3 e3 h3 H4 e4 h4
    refine k _ H4 (Int.emod_nonneg _ (by omega)) (Int.emod_lt_of_pos _ (by omega)) ⟨⟨_, i + 1, ns, h4, e4 _ _ nhc.symm (e3 _ _ nhc.symm ac2), hl, Int.emod_nonneg _ (by decide), by omega⟩, fun b o n3 n4 hb => e4 b o n3 (e3 b o n3 (eH2 b o hb))⟩
theorem pure__law_offer (h : sp__law_offer K vs H Q E) : t__law_offer K (Dn Q) (start N__law_offer vs) H := by
  obtain ⟨a, ts, rfl, ⟨xs, ha, hp⟩, ok, k⟩ := h
  have l1 := ok.one
  have l3 := ok.fair.1.1
  have el := pairedLen hp
  rw [st__law_offer]
  unfold t__law_offer
  match ts, xs, hp with
  | [], _, _ => exact absurd l1 (by decide)
  | [t], [x], hp =>
    walk_at "go"
    intro o dx H2 n2 e2 h2
    exact ap_make n2 e2 h2 hp ok fun H' e' ho => k o H' n2 e' ho
  | [t, u], [x, y], hp =>
    walk_at "go"
    intro o dx H2 n2 e2 h2
    exact ap_make n2 e2 h2 hp ok fun H' e' ho => k o H' n2 e' ho
  | [t, u, v], [x, y, z], hp =>
    walk_at "go"
    intro o dx H2 n2 e2 h2
    exact ap_make n2 e2 h2 hp ok fun H' e' ho => k o H' n2 e' ho
  | t :: u :: v :: w :: r, _, _ => exact absurd l3 (by simp)
end
end EB
namespace EB
open PySem PySem.Spec L2 StX ClX
set_option maxHeartbeats 1000000
section
variable {K : PySem.W.Frag} {H : Hp} {Q : VK} {E : XK} {vs : List V}
theorem lawKinds_ok : ∀ z ∈ lawKinds, isTK z = true ∧ z.length ≤ 8 := by decide +kernel
theorem lawKinds_nd : lawKinds.Nodup := by decide +kernel
theorem bo_snoc (ts : List Tr) (t : Tr) (d : Int) : bo (ts ++ [t]) d = bo ts d + t.2.1 * d / t.2.2 := by simp [bo]
theorem paired_snoc {α β : Type} {F : α → β → Prop} : ∀ {xs : List α} {ys : List β} {x : α} {y : β}, Paired F xs ys → F x y → Paired F (xs ++ [x]) (ys ++ [y])
  | _, _, _, _, .nil, h => .cons h .nil
  | _, _, _, _, .cons a r, h => .cons a (paired_snoc r h)
theorem paired_imp {α β : Type} {F G : α → β → Prop} (f : ∀ x y, F x y → G x y) : ∀ {xs : List α} {ys : List β}, Paired F xs ys → Paired G xs ys
  | _, _, .nil => .nil
  | _, _, .cons a r => .cons (f _ _ a) (paired_imp f r)
/-- what the drawn trades are, so far -/
structure TrSo (most largest : Int) (ts : List Tr) : Prop where
  good : ∀ t ∈ ts, Good t
  worth : 10 * bo ts 27720 ≤ 9 * 27720
  kinds : ts.map (·.1) = lawKinds.take ts.length
  small : ∀ t ∈ ts, t.2.1 ≤ t.2.2 ∧ t.2.2 ≤ largest
theorem TrSo.law {most largest : Int} {ts : List Tr} (s : TrSo most largest ts) (h1 : 1 ≤ ts.length) (h3 : ts.length ≤ 3) (hm : (ts.length : Int) ≤ most) : LawTr most largest ts := by
  refine ⟨⟨⟨⟨h3, s.good⟩, s.worth⟩, h1, fun t ht => lawKinds_ok t.1 ?_, ?_⟩, s.kinds, hm, s.small⟩
  · have : t.1 ∈ ts.map (·.1) := List.mem_map.mpr ⟨t, ht, rfl⟩
    rw [s.kinds] at this
    exact List.mem_of_mem_take this
  · rw [s.kinds]
    exact List.Sublist.nodup (List.take_sublist _ _) lawKinds_nd
theorem pure__law_trades (h : sp__law_trades K vs H Q E) : t__law_trades K (Dn Q) (start N__law_trades vs) H := by
  obtain ⟨h, c, m, l, rfl, s, m1, m3, l1, l12, k⟩ := h
  rw [st__law_trades]
  unfold t__law_trades
  walk_at "go"
  rename_i fl H1 nf e1 hf p1 H2 n1 e2 h2
  have eH2 : Ex H H2 := Evl.Ex.trans e1 e2
  refine ap__law_next (s.up eH2) m1 (by omega) fun r H3 r0 rm u3 => ?_
  walk_at "go"
  have f1 := (SrcUp.of (s.up e1) e2).trans u3
  have nfl : fl ≠ h ∧ fl ≠ c := by
    obtain ⟨⟨o1, q1⟩, o2, q2⟩ := s.there
    exact ⟨fun z => (by rw [z, q1] at nf; cases nf), fun z => (by rw [z, q2] at nf; cases nf)⟩
  have hp3 : H3 p1 = some (.lst (lawKinds.map V.str)) := by
    have u2 := SrcUp.of (s.up e1) e2
    have q := u2.free (p := p1)
    have np : p1 ≠ h ∧ p1 ≠ c := by
      obtain ⟨⟨o1, q1⟩, o2, q2⟩ := (s.up e1).there
      exact ⟨fun z => (by rw [z, q1] at n1; cases n1), fun z => (by rw [z, q2] at n1; cases n1)⟩
    exact u3.keep p1 _ np.1 np.2 h2
  have ek : (1 : Int) + r = ((1 + r.toNat : Nat) : Int) := by omega
  rw [ek]
  refine w_slLk (Evl.sq_of hp3) fun p H4 n4 e4 h4 => ?_
  have u4 : SrcUp h c H H4 := ((SrcUp.of s eH2).trans u3).andEx e4
  obtain ⟨p0, ph, pc⟩ := (((SrcUp.of s eH2).trans u3).andEx (Evl.Ex.refl _)).free n4
  have hfl4 : H4 fl = some (.lst []) := e4 _ _ (f1.keep fl _ nfl.1 nfl.2 hf)
  have pfl : p ≠ fl := fun z => by
    have := f1.keep fl _ nfl.1 nfl.2 hf
    rw [z, this] at n4
    cases n4
  have klen : ((lawKinds.map V.str).take (1 + r.toNat)).length = 1 + r.toNat := by
    rw [List.length_take]
    show min (1 + r.toNat) 3 = _
    omega
  refine w_foLt (fun i σ' H' => ∃ (ts : List Tr) (xs : List V) (o5 o6 o7 : Option V), σ' = [some (.ref h), some (.int m), some (.int l), some (.ref fl), some (.int (bo ts 27720)), o5, o6, o7] ∧
      ts.length = i ∧ TrSo m l ts ∧ H' fl = some (.lst xs) ∧ Paired (TrAt H') xs ts ∧ SrcUp h c H H' ∧ H' p = some (.lst ((lawKinds.map V.str).take (1 + r.toNat)))) (Evl.sq_of h4)
    ⟨[], [], _, _, _, rfl, rfl, ⟨by simp, by decide, rfl, by simp⟩, hfl4, .nil, u4, h4⟩ (fun i σ' H' _ ⟨_, _, _, _, _, _, _, _, _, _, _, q⟩ => Evl.sq_of q) ?_ ?_
  · rintro i x σ' H' hi ⟨ts, xs, o5, o6, o7, rfl, rfl, so, hfl, hps, u, hp⟩
    have il := (List.getElem?_eq_some_iff.mp hi).1
    rw [klen] at il
    have hi2 : (lawKinds.map V.str)[ts.length]? = some x := by
      rw [List.getElem?_take_of_lt (by omega)] at hi
      exact hi
    rw [List.getElem?_map] at hi2
    obtain ⟨kd, hkd, rfl⟩ := Option.map_eq_some_iff.mp hi2
    walk_at "go"
    refine ap__law_next u.src l1 (by omega) fun r1 H5 r10 r11 u5 => ?_
    walk_at "go"
    refine ap__law_next u5.src (by omega) (by omega) fun r2 H6 r20 r21 u6 => ?_
    have u56 := u5.trans u6
    walk_at "go"
    have wn : 10 * (bo ts 27720 * (1 + r1)) ≤ 249480 * (1 + r1) := by
      have := Int.mul_le_mul_of_nonneg_right (c := 1 + r1) so.worth (by omega)
      rw [Int.mul_assoc] at this
      exact this
    refine w_while (fun n σ' H' => ∃ y : Int, σ' = [some (.ref h), some (.int m), some (.int l), some (.ref fl), some (.int (bo ts 27720)), some (.str kd), some (.int (1 + r1)), some (.int y)] ∧ H' = H6 ∧ 0 ≤ y ∧ y ≤ r2 ∧ n = y.toNat) r2.toNat ⟨r2, rfl, rfl, r20, Int.le_refl _, rfl⟩ ?_
    rintro n σ' H' ⟨y, rfl, rfl, y0, y1, rfl⟩
    walk_at "go"
    refine w_2 (fun big => w_turn ?_) fun small => ?_
    · walk_at "go"
      have : y ≠ 0 := fun z => by
        subst z
        omega
      exact ⟨(y - 1).toNat, by omega, y - 1, rfl, rfl, by omega, by omega, rfl⟩
    · have n12 : 1 + r1 ≤ 12 := by omega
      have n1' : 1 ≤ 1 + r1 := by omega
      have hflH : H' fl = some (.lst xs) := u56.keep fl _ nfl.1 nfl.2 hfl
      have xl : xs.length < 100000 := by
        have := pairedLen hps
        omega
      walk_at "go"
      rename_i q H7 nq e7 hq H8 e8 h8
      have ex : (y * 27720 / (1 + r1)) * (1 + r1) = y * 27720 := by
        refine Int.ediv_mul_cancel ?_
        exact Int.dvd_trans (need_dvd n1' n12) (Int.dvd_mul_left ..)
      have worth2 : 10 * bo (ts ++ [(kd, y, 1 + r1)]) 27720 ≤ 9 * 27720 := by
        rw [bo_snoc]
        show 10 * (bo ts 27720 + y * 27720 / (1 + r1)) ≤ 9 * 27720
        have e9 : 10 * (bo ts 27720 + y * 27720 / (1 + r1)) * (1 + r1) ≤ 9 * 27720 * (1 + r1) := by
          rw [Int.mul_assoc, Int.add_mul, ex]
          omega
        exact Int.le_of_mul_le_mul_right e9 (by omega)
      have qfl : q ≠ fl := fun z => by
        rw [z, hflH] at nq
        cases nq
      have u7 : SrcUp h c H H7 := (u.trans u56).andEx e7
      have u8 : SrcUp h c H H8 := by
        obtain ⟨M, N, ns, a1, a2, a3⟩ := u7.src.ex
        exact ⟨⟨M, N, ns, e8 _ _ nfl.1.symm a1, e8 _ _ nfl.2.symm a2, a3⟩, fun b o b1 b2 hb => e8 b o (ne_of_none hb nf) (u7.keep b o b1 b2 hb)⟩
      refine ⟨ts ++ [(kd, y, 1 + r1)], xs ++ [.ref q], _, _, _, by rw [bo_snoc], by simp, ⟨fun t ht => ?_, worth2, ?_, fun t ht => ?_⟩, h8, ?_, u8, ?_⟩
      · rcases List.mem_append.mp ht with ht | ht
        · exact so.good t ht
        · rw [List.mem_singleton.mp ht]
          exact ⟨y0, by show y ≤ 12; omega, n1', n12⟩
      · rw [List.map_append, so.kinds, List.length_append, List.length_singleton, take_snoc hkd]
        rfl
      · rcases List.mem_append.mp ht with ht | ht
        · exact so.small t ht
        · rw [List.mem_singleton.mp ht]
          exact ⟨by show y ≤ 1 + r1; omega, by show 1 + r1 ≤ l; omega⟩
      · refine paired_snoc (trsUpB (l := fl) (o := .lst xs) (e7 _ _ hflH) (fun _ z => nomatch z) e8 (trsUp e7 (trsUpS u.src u56 hps))) ⟨q, rfl, e8 _ _ qfl hq⟩
      · exact e8 _ _ pfl (e7 _ _ (u56.keep p _ ph pc hp))
  · rintro σ' H' ⟨ts, xs, o5, o6, o7, rfl, tl, so, hfl, hps, u, hp⟩
    rw [klen] at tl
    walk_at "go"
    rename_i q H5 nq e5 hq
    refine k q ts H5 (u.free nq).1 (u.andEx e5) ⟨xs, hq, trsUp e5 hps⟩ (so.law (by omega) (by omega) (by omega))
end
end EB
namespace EB
open PySem PySem.Spec L2 StX ClX
set_option maxHeartbeats 1000000
section
variable {K : PySem.W.Frag} {H : Hp} {Q : VK} {E : XK} {vs : List V}
theorem w_ixAL {a : Addr} {xs : List V} {i : Int} {v : V} (h : SqL K H a xs) (hi : atI xs i = some v) (q : Q v H) : rIxA K (.ref a) (.int i) H Q := .inl (w_ixL h hi q)
theorem w_ixAT {a : Addr} {xs : List V} {i : Int} {v : V} (h : SqT K H a xs) (hi : atI xs i = some v) (q : Q v H) : rIxA K (.ref a) (.int i) H Q := .inr (w_ixT h hi q)
theorem pure_alike {n : Nat} (h : sp_alike (n + 1) vs H Q E) : t__law_alike K (sp_alike n) (Dn Q) (start N__law_alike vs) H := by
  obtain ⟨x, y, d, rfl, hx, hy, ok, k⟩ := h
  rw [st__law_alike]
  unfold t__law_alike
  walk_at "go"
  by_cases isd : ∃ kvs, d = .dict kvs
  · obtain ⟨kvs, rfl⟩ := isd
    obtain ⟨n2, ok⟩ := Bool.and_eq_true_iff.mp ok
    obtain ⟨l1, ok⟩ := Bool.and_eq_true_iff.mp ok
    obtain ⟨nd, sk⟩ := Bool.and_eq_true_iff.mp ok
    have n2 := of_decide_eq_true n2
    have l1 := of_decide_eq_true l1
    have nd := of_decide_eq_true nd
    generalize ed : PyData.dict kvs = D at hx hy
    cases hx with
    | @dic b kv hb =>
      generalize ed2 : dicD kv = D2 at hy
      cases hy with
      | @dic c kv2 hc =>
        have e3 : kvs = kv.map fun p => (PyData.str p.1, PyData.int p.2) := PyData.dict.inj ed
        have e4 : (kv.map fun p => (PyData.str p.1, PyData.int p.2)) = kv2.map fun p => (PyData.str p.1, PyData.int p.2) := PyData.dict.inj ed2
        have e5 : kv = kv2 := List.map_inj_right (f := fun p : Str × Int => (PyData.str p.1, PyData.int p.2)) (fun p q z => by
          obtain ⟨p1, p2⟩ := p
          obtain ⟨q1, q2⟩ := q
          simp only [Prod.mk.injEq, PyData.str.injEq, PyData.int.injEq] at z
          rw [z.1, z.2]) |>.mp e4
        subst e5
        have ek : (kvs.map fun p => keyS p.1) = kv.map (·.1) := by
          rw [e3, List.map_map]
          rfl
        rw [ek] at nd
        have kl : kv.length ≤ 1000 := by
          rw [e3, List.length_map] at l1
          exact l1
        refine w_isi (Dq.ty (.dic hc)) (b := true) rfl ?_
        walk_at "go"
        refine w_isi (Dq.ty (.dic hb)) (b := true) rfl ?_
        walk_at "go"
        refine w_listD hb fun p1 H1 f1 e1 h1 => ?_
        walk_at "go"
        refine w_listD (e1 _ _ hc) fun p2 H2 f2 e2 h2 => ?_
        walk_at "go"
        have sdq : ∀ (H : Hp) (zs : List (Str × Int)), DqAll H (zs.map fun p => V.str p.1) (zs.map fun p => PyData.str p.1) := by
          intro H zs
          induction zs with
          | nil => exact .nil
          | cons z zs ih => exact .cons (.str _) ih
        obtain ⟨m, rfl⟩ : ∃ m, n = m + 2 := ⟨n - 2, by omega⟩
        have okk : okD (m + 2) (.list (kv.map fun p => PyData.str p.1)) = true := by
          refine Bool.and_eq_true_iff.mpr ⟨decide_eq_true (by rw [List.length_map]; exact kl), List.all_eq_true.mpr fun z hz => ?_⟩
          obtain ⟨q, hq, rfl⟩ := List.mem_map.mp hz
          have := List.all_eq_true.mp sk (PyData.str q.1, PyData.int q.2) (by rw [e3]; exact List.mem_map.mpr ⟨q, hq, rfl⟩)
          exact this
        refine ap_alike (.lst (e2 _ _ h1) (sdq _ _)) (.lst h2 (sdq _ _)) okk fun H3 e3' => ?_
        walk_at "go"
        have e13 : Ex H H3 := Evl.Ex.trans e1 (Evl.Ex.trans e2 e3')
        exact w_eqDic (e13 _ _ hb) (e13 _ _ hc) nd (k H3 e13)
      | _ => cases ed2
    | _ => cases ed
  refine w_isi hy.ty (b := false) (by cases d <;> first | rfl | exact absurd ⟨_, rfl⟩ isd) ?_
  walk_at "go"
  rename_i T H1 nT e1 hT
  have hx1 := Dq.up e1 d x hx
  have hy1 := Dq.up e1 d y hy
  cases d with
  | none =>
    cases hx1
    cases hy1
    refine w_isiT hT (Dq.ty (d := .none) (by first | exact .non | exact .bl _ | exact .int _ | exact .str _)) (b1 := false) (b2 := false) (b := false) rfl rfl rfl ?_
    walk_at "go"
    refine w_eqX (d := .none) (n := 1) (Dq.up e1 _ _ hx) (Dq.up e1 _ _ hy) ok (by decide) rfl ?_
    walk_at "go"
    refine w_isi (t := "NoneType") (Dq.ty (d := .none) (by first | exact .non | exact .bl _ | exact .int _ | exact .str _)) (b := false) rfl ?_
    walk_at "go"
    refine w_isi (t := "NoneType") (Dq.ty (d := .none) (by first | exact .non | exact .bl _ | exact .int _ | exact .str _)) (b := false) rfl ?_
    walk_at "go"
    exact k H1 e1
  | bool c =>
    cases hx1
    cases hy1
    refine w_isiT hT (Dq.ty (d := .bool c) (by first | exact .non | exact .bl _ | exact .int _ | exact .str _)) (b1 := false) (b2 := false) (b := false) rfl rfl rfl ?_
    walk_at "go"
    refine w_isi (t := "bool") (Dq.ty (d := .bool c) (by first | exact .non | exact .bl _ | exact .int _ | exact .str _)) (b := false) rfl ?_
    walk_at "go"
    refine w_isi (t := "bool") (Dq.ty (d := .bool c) (by first | exact .non | exact .bl _ | exact .int _ | exact .str _)) (b := true) rfl ?_
    walk_at "go"
    refine w_isi (t := "bool") (Dq.ty (d := .bool c) (by first | exact .non | exact .bl _ | exact .int _ | exact .str _)) (b := true) rfl ?_
    walk_at "go"
    refine w_isi (t := "bool") (Dq.ty (d := .bool c) (by first | exact .non | exact .bl _ | exact .int _ | exact .str _)) (b := true) rfl ?_
    walk_at "go"
    refine w_eqX (d := .bool c) (n := 1) (Dq.up e1 _ _ hx) (Dq.up e1 _ _ hy) ok (by decide) rfl ?_
    exact k H1 e1
  | int c =>
    cases hx1
    cases hy1
    refine w_isiT hT (Dq.ty (d := .int c) (by first | exact .non | exact .bl _ | exact .int _ | exact .str _)) (b1 := false) (b2 := false) (b := false) rfl rfl rfl ?_
    walk_at "go"
    refine w_isi (t := "int") (Dq.ty (d := .int c) (by first | exact .non | exact .bl _ | exact .int _ | exact .str _)) (b := false) rfl ?_
    walk_at "go"
    refine w_isi (t := "int") (Dq.ty (d := .int c) (by first | exact .non | exact .bl _ | exact .int _ | exact .str _)) (b := true) rfl ?_
    walk_at "go"
    refine w_isi (t := "int") (Dq.ty (d := .int c) (by first | exact .non | exact .bl _ | exact .int _ | exact .str _)) (b := false) rfl ?_
    walk_at "go"
    refine w_isi (t := "int") (Dq.ty (d := .int c) (by first | exact .non | exact .bl _ | exact .int _ | exact .str _)) (b := false) rfl ?_
    walk_at "go"
    refine w_eqX (d := .int c) (n := 1) (Dq.up e1 _ _ hx) (Dq.up e1 _ _ hy) ok (by decide) rfl ?_
    exact k H1 e1
  | str c =>
    cases hx1
    cases hy1
    refine w_isiT hT (Dq.ty (d := .str c) (by first | exact .non | exact .bl _ | exact .int _ | exact .str _)) (b1 := false) (b2 := false) (b := false) rfl rfl rfl ?_
    walk_at "go"
    refine w_isi (t := "str") (Dq.ty (d := .str c) (by first | exact .non | exact .bl _ | exact .int _ | exact .str _)) (b := true) rfl ?_
    walk_at "go"
    refine w_eqX (d := .str c) (n := 1) (Dq.up e1 _ _ hx) (Dq.up e1 _ _ hy) ok (by decide) rfl ?_
    walk_at "go"
    refine w_isi (t := "str") (Dq.ty (d := .str c) (by first | exact .non | exact .bl _ | exact .int _ | exact .str _)) (b := true) rfl ?_
    walk_at "go"
    refine w_isi (t := "str") (Dq.ty (d := .str c) (by first | exact .non | exact .bl _ | exact .int _ | exact .str _)) (b := true) rfl ?_
    walk_at "go"
    exact k H1 e1
  | list ds =>
    cases hx1 with
    | @lst a xs _ ha hxs =>
    cases hy1 with
    | @lst b ys _ hb hys =>
    obtain ⟨lk, al⟩ := Bool.and_eq_true_iff.mp ok
    have ds1 := of_decide_eq_true lk
    have lx := hxs.len
    have ly := hys.len
    refine w_isiT hT (Dq.ty (.lst hb hys)) (b1 := false) (b2 := true) (b := true) rfl rfl rfl ?_
    walk_at "go"
    rename_i T2 H2 nT2 e2 hT2
    refine w_isiT hT2 (Dq.ty (.lst (e2 _ _ ha) (DqAll.up e2 _ _ hxs))) (b1 := false) (b2 := true) (b := true) rfl rfl rfl ?_
    walk_at "go"
    refine w_isi (Dq.ty (.lst (e2 _ _ ha) (DqAll.up e2 _ _ hxs))) (b := true) rfl ?_
    walk_at "go"
    refine w_isi (Dq.ty (.lst (e2 _ _ hb) (DqAll.up e2 _ _ hys))) (b := true) rfl ?_
    walk_at "go"
    rw [lx, ly, decide_eq_true (rfl : (ds.length : Int) = ds.length)]
    walk_at "go"
    refine w_lcR0 (n := ds.length) (by omega) (fun R q => ?_) (fun i H3 hi e3 R N q => ?_) fun p H3 n3 e3 h3 => ?_
    · walk_at "go"
      rw [ly]
      exact q
    · obtain ⟨v, hv⟩ : ∃ v, ds[i]? = some v := ⟨ds[i], List.getElem?_eq_getElem hi⟩
      obtain ⟨x', hx', qx⟩ := hxs.get hv
      obtain ⟨y', hy', qy⟩ := hys.get hv
      have e13 : Ex H1 H3 := Evl.Ex.trans e2 e3
      dsimp only [wipe, List.set]
      walk_at "go"
      refine ⟨rfl, ?_⟩
      walk_at "go"
      refine w_ixAL (Evl.sq_of (e13 _ _ ha)) (atI_pos (by omega) hx') ?_
      walk_at "go"
      refine w_ixAL (Evl.sq_of (e13 _ _ hb)) (atI_pos (by omega) hy') ?_
      walk_at "go"
      have okv : okD n v = true := List.all_eq_true.mp al v (List.mem_of_getElem? hv)
      cases n with
      | zero => cases v <;> cases okv
      | succ n =>
        refine ap_alike (Dq.up e13 _ _ qx) (Dq.up e13 _ _ qy) okv fun H4 e4 => ?_
        walk_at "go"
        exact q H4 e4
    · walk_at "go"
      rename_i p2 H4 n4 e4 h4
      refine w_eqD (d := .list []) (e := .list []) (.lst (Evl.sq_of (e4 _ _ h3)) .nil) (.lst (Evl.sq_of h4) .nil) rfl rfl ?_
      exact k H4 (Evl.Ex.trans e1 (Evl.Ex.trans e2 (Evl.Ex.trans e3 e4)))
  | tuple ds =>
    cases hx1 with
    | @tup a xs _ ha hxs =>
    cases hy1 with
    | @tup b ys _ hb hys =>
    obtain ⟨lk, al⟩ := Bool.and_eq_true_iff.mp ok
    have ds1 := of_decide_eq_true lk
    have lx := hxs.len
    have ly := hys.len
    refine w_isiT hT (Dq.ty (.tup hb hys)) (b1 := true) (b2 := false) (b := true) rfl rfl rfl ?_
    walk_at "go"
    rename_i T2 H2 nT2 e2 hT2
    refine w_isiT hT2 (Dq.ty (.tup (e2 _ _ ha) (DqAll.up e2 _ _ hxs))) (b1 := true) (b2 := false) (b := true) rfl rfl rfl ?_
    walk_at "go"
    refine w_isi (Dq.ty (.tup (e2 _ _ ha) (DqAll.up e2 _ _ hxs))) (b := false) rfl ?_
    walk_at "go"
    refine w_isi (Dq.ty (.tup (e2 _ _ hb) (DqAll.up e2 _ _ hys))) (b := false) rfl ?_
    walk_at "go"
    rw [lx, ly, decide_eq_true (rfl : (ds.length : Int) = ds.length)]
    walk_at "go"
    refine w_lcR0 (n := ds.length) (by omega) (fun R q => ?_) (fun i H3 hi e3 R N q => ?_) fun p H3 n3 e3 h3 => ?_
    · walk_at "go"
      rw [ly]
      exact q
    · obtain ⟨v, hv⟩ : ∃ v, ds[i]? = some v := ⟨ds[i], List.getElem?_eq_getElem hi⟩
      obtain ⟨x', hx', qx⟩ := hxs.get hv
      obtain ⟨y', hy', qy⟩ := hys.get hv
      have e13 : Ex H1 H3 := Evl.Ex.trans e2 e3
      dsimp only [wipe, List.set]
      walk_at "go"
      refine ⟨rfl, ?_⟩
      walk_at "go"
      refine w_ixAT (Evl.st_of (e13 _ _ ha)) (atI_pos (by omega) hx') ?_
      walk_at "go"
      refine w_ixAT (Evl.st_of (e13 _ _ hb)) (atI_pos (by omega) hy') ?_
      walk_at "go"
      have okv : okD n v = true := List.all_eq_true.mp al v (List.mem_of_getElem? hv)
      cases n with
      | zero => cases v <;> cases okv
      | succ n =>
        refine ap_alike (Dq.up e13 _ _ qx) (Dq.up e13 _ _ qy) okv fun H4 e4 => ?_
        walk_at "go"
        exact q H4 e4
    · walk_at "go"
      rename_i p2 H4 n4 e4 h4
      refine w_eqD (d := .list []) (e := .list []) (.lst (Evl.sq_of (e4 _ _ h3)) .nil) (.lst (Evl.sq_of h4) .nil) rfl rfl ?_
      exact k H4 (Evl.Ex.trans e1 (Evl.Ex.trans e2 (Evl.Ex.trans e3 e4)))
  | dict _ => exact absurd ⟨_, rfl⟩ isd
end
end EB
namespace EB
open PySem PySem.Spec L2 StX ClX
set_option maxHeartbeats 1000000
section
variable {K : PySem.W.Frag} {H : Hp} {Q : VK} {E : XK} {vs : List V}
theorem pure_fewest (h : sp_fewest K vs H Q E) : t_fewest K (Dn Q) (start N_fewest vs) H := by
  obtain ⟨a, ts, d, rfl, hT, f, l1, d0, k⟩ := h
  rw [st_fewest]
  unfold t_fewest
  walk_at "go"
  refine ap_period_of hT f.1 fun p H1 hp e1 h2 => ?_
  have pp := perd_pos f.1.2
  have pl := perd_small f.1
  have np := nd_pos f
  have nl := nd_small f
  have z := few0_pos f d0
  walk_at "go"
  rename_i q H2 n2 e2 h3
  have ez : 0 - (0 - d * nd ts) / perd ts = few0 ts d := rfl
  rw [ez] at h3 ⊢
  refine w_foTt (fun i σ' H' => ∃ o5 : Option V, σ' = [some (.ref a), some (.int d), some (.int (nd ts)), some (.int (perd ts)), some (.int (few0 ts d)), o5] ∧ Ex H2 H' ∧ ∀ j : Int, 0 ≤ j → j < i → drk ts (few0 ts d + j) < d) (Evl.st_of h3) ⟨_, rfl, Evl.Ex.refl _, fun j j0 j1 => by omega⟩ (fun i σ' H' _ ⟨_, _, e, _⟩ => exT (Evl.st_of h3) e) ?_ ?_
  · rintro i x σ' H' hi ⟨o5, rfl, e, no⟩
    have il : i < 3 := (List.getElem?_eq_some_iff.mp hi).1
    have ex : x = .int (few0 ts d + i) := by
      rcases (by omega : i = 0 ∨ i = 1 ∨ i = 2) with rfl | rfl | rfl
      · rw [Int.natCast_zero, Int.add_zero]
        exact (Option.some.inj hi).symm
      · exact (Option.some.inj hi).symm
      · exact (Option.some.inj hi).symm
    subst ex
    walk_at "go"
    refine ap_total (hT.up (Evl.Ex.trans e1 (Evl.Ex.trans e2 e))) f l1 (by omega) fun H3 e3 => ?_
    walk_at "go"
    refine w_2 (fun en => ?_) fun no' => ?_
    · walk_at "go"
      exact k _ H3 (few_at f d0 (by omega) en fun j j0 j1 => no j j0 (by omega)) (Evl.Ex.trans e1 (Evl.Ex.trans e2 (Evl.Ex.trans e e3)))
    · walk_at "go"
      refine ⟨_, rfl, Evl.Ex.trans e e3, fun j j0 j1 => ?_⟩
      by_cases q : j < i
      · exact no j j0 q
      · obtain rfl : j = i := by omega
        omega
  · rintro σ' H' ⟨o5, rfl, e, no⟩
    walk_at "go"
    exact k _ H' (few_at f d0 (by decide) (few0_three f l1 d0) fun j j0 j1 => no j j0 (by simpa using j1)) (Evl.Ex.trans e1 (Evl.Ex.trans e2 e))
theorem pure_Offer_contains (O : OfK K) (h : sp_Offer_contains K vs H Q E) : t_Offer_contains K (Dn Q) (start N_Offer_contains vs) H := by
  obtain ⟨o, ts, d, rfl, ho, ok, h1, k⟩ := h
  obtain ⟨cls, np, _⟩ := O
  obtain ⟨dx, a, ho1, hT⟩ := ho
  rw [st_Offer_contains]
  unfold t_Offer_contains
  walk_at "go"
  refine ap_fewest hT ok.fair ok.one h1 fun F H1 c e1 => ?_
  walk_at "go"
  refine ap_total (hT.up e1) ok.fair ok.one c.pos fun H2 e2 => ?_
  walk_at "go"
  exact k _ H2 (by rw [decide_eq_true_iff]; exact com_few ok.fair c) (Evl.Ex.trans e1 e2)
end
end EB
namespace EB
open PySem PySem.Spec L2 StX ClX
set_option maxHeartbeats 1000000
section
variable {K : PySem.W.Frag} {H : Hp} {E : XK} {vs : List V}
theorem w_gThen {t u : TGn} {D : GEnds} {ys : List V} {σ : St} {H : Hp} (q : t { D with nx := fun ys' σ' H' => u D ys' σ' H' } ys σ H) : tGThen t u D ys σ H := q
theorem w_plain {t : TS} {D : GEnds} {ys : List V} {σ : St} {H : Hp} (q : t (D.at ys) σ H) : tPlain t D ys σ H := q
theorem w_g0 {D : GEnds} {ys : List V} {σ : St} {H : Hp} (q : D.nx ys σ H) : tG0 D ys σ H := q
theorem w_yield {te : TE} {D : GEnds} {ys : List V} {σ : St} {H : Hp} (l : ys.length < 100000) (q : te σ H fun x H1 => D.nx (ys ++ [x]) σ H1) : tGYield te D ys σ H := ⟨Nat.lt_trans l (by decide), q⟩
theorem w_gWhile {c : TT} {tb : TGn} {D : GEnds} {ys : List V} {σ : St} {H : Hp} (W : Nat → List V → St → Hp → Prop) (m : Nat) (h0 : W m ys σ H)
    (hs : ∀ m ys σ H, W m ys σ H → c σ H fun b H1 => if b = true then ∃ N : List V → St → Hp → Prop, (∀ ys' σ' H', N ys' σ' H' → ∃ m', m' < m ∧ W m' ys' σ' H') ∧ tb { D with nx := N, ct := N, bk := D.nx } ys σ H1 else D.nx ys σ H1) : tGWhile c tb D ys σ H := ⟨W, ⟨m, h0⟩, hs⟩
theorem w_gTurn {W : Nat → List V → St → Hp → Prop} {m : Nat} {tb : TGn} {D : GEnds} {ys : List V} {σ : St} {H : Hp} (q : tb { D with nx := fun ys' σ' H' => ∃ m', m' < m ∧ W m' ys' σ' H', ct := fun ys' σ' H' => ∃ m', m' < m ∧ W m' ys' σ' H', bk := D.nx } ys σ H) :
    ∃ N : List V → St → Hp → Prop, (∀ ys' σ' H', N ys' σ' H' → ∃ m', m' < m ∧ W m' ys' σ' H') ∧ tb { D with nx := N, ct := N, bk := D.nx } ys σ H := ⟨_, fun _ _ _ z => z, q⟩
theorem bo_diff {ts : List Tr} (f : Fair ts) {d D : Int} (h : d ≤ D) : 10 * (bo ts D - bo ts d) ≤ 9 * (D - d) + 30 := by
  have a := bo_le f.1.2 D
  have b := bo_ge f.1.2 d
  have l := f.1.1
  have c : (D - d) * (10 * bo ts 27720) ≤ (D - d) * (9 * 27720) := Int.mul_le_mul_of_nonneg_left f.2 (by omega)
  have e : (D - d) * (10 * bo ts 27720) = 10 * (D * bo ts 27720 - d * bo ts 27720) := by
    rw [← Int.sub_mul, ← Int.mul_assoc, Int.mul_comm (D - d) 10, Int.mul_assoc]
  omega
theorem nine_ten : (10 : Int) ^ 20 * 9 ^ 460 < 10 ^ 460 := by decide +kernel
/-- how near the rounds are to their end -/
structure Near (i : Nat) (x : Int) : Prop where
  early : i ≤ 460 → (x - 30) * 10 ^ i ≤ 10 ^ 20 * 9 ^ i
  late : 460 ≤ i → x + (i - 460 : Nat) ≤ 30
theorem Near.step {i : Nat} {x y : Int} (h : Near i x) (h1 : 10 * y ≤ 9 * x + 30) (h2 : y < x) : Near (i + 1) y := by
  have ev : i + 1 ≤ 460 → (y - 30) * 10 ^ (i + 1) ≤ 10 ^ 20 * 9 ^ (i + 1) := fun l => by
    have a := h.early (by omega)
    have p : (0 : Int) ≤ 10 ^ i := Int.pow_nonneg (by decide)
    have b : (10 * (y - 30)) * 10 ^ i ≤ (9 * (x - 30)) * 10 ^ i := Int.mul_le_mul_of_nonneg_right (by omega) p
    have e1 : (y - 30) * 10 ^ (i + 1) = (10 * (y - 30)) * 10 ^ i := by
      rw [Int.pow_succ, Int.mul_comm ((10 : Int) ^ i), ← Int.mul_assoc, Int.mul_comm (y - 30)]
    have e2 : ∀ c : Int, c * 9 ^ (i + 1) = 9 * (c * 9 ^ i) := fun c => by rw [Int.pow_succ, ← Int.mul_assoc, Int.mul_comm]
    rw [e1, e2 (10 ^ 20)]
    rw [Int.mul_assoc] at b
    rw [Int.mul_assoc] at b
    rw [Int.mul_assoc]
    omega
  refine ⟨ev, fun l => ?_⟩
  by_cases q : 460 ≤ i
  · have := h.late q
    omega
  · have e : i + 1 = 460 := by omega
    have a := ev (by omega)
    rw [e] at a
    have n := nine_ten
    have c : (y - 30) * 10 ^ 460 < 1 * 10 ^ 460 := by
      rw [Int.one_mul]
      exact Int.lt_of_le_of_lt a n
    have := Int.lt_of_mul_lt_mul_right c (Int.pow_nonneg (by decide))
    omega
end
end EB
namespace EB
open PySem PySem.Spec L2 StX ClX
set_option maxHeartbeats 1000000
section
variable {K : PySem.W.Frag} {H : Hp} {Q : VK} {E : XK} {vs : List V}
theorem pure_Offer_bool (O : OfK K) (h : sp_Offer_bool K vs H Q E) : t_Offer_bool K (Dn Q) (start N_Offer_bool vs) H := by
  obtain ⟨o, ts, rfl, ho, ok, k⟩ := h
  obtain ⟨cls, np, _⟩ := O
  obtain ⟨dx, a, ho1, xs, ha, hp⟩ := ho
  have len3 := ok.fair.1.1
  rw [st_Offer_bool]
  unfold t_Offer_bool
  walk_at "go"
  refine w_lcTa ((ts.map fun t => decide (0 < t.2.1)).map V.bl) (Evl.st_of ha) (by rw [pairedLen hp]; omega) (by simp [pairedLen hp]) (fun i x y hi hy H1 e1 R q => ?_) fun p H2 n2 e2 h2 => ?_
  · obtain ⟨t, ht, px, rfl, hx⟩ := pairedGet hp hi
    have ey : y = .bl (decide (0 < t.2.1)) := by
      rw [List.getElem?_map, List.getElem?_map, ht] at hy
      exact (Option.some.inj hy).symm
    subst ey
    dsimp only [wipe, List.set]
    walk_at "go"
    refine ⟨rfl, ?_⟩
    walk_at "go"
    exact q _ (Evl.Ex.refl _)
  · walk_at "go"
    refine w_any (Evl.sq_of h2) ?_
    have := k H2 e2
    unfold gives at this
    rw [List.any_map]
    exact this
theorem pure_Offer_count_up_to (O : OfK K) (h : sp_Offer_count_up_to K vs H Q E) : t_Offer_count_up_to K (Dn Q) (start N_Offer_count_up_to vs) H := by
  obtain ⟨o, ts, d, rfl, ho, ok, d0, k⟩ := h
  obtain ⟨cls, np, _⟩ := O
  obtain ⟨dx, a, ho1, hT⟩ := ho
  rw [st_Offer_count_up_to]
  unfold t_Offer_count_up_to
  walk_at "go"
  refine ap_fewest hT ok.fair ok.one (by omega) fun F H1 hF e1 => ?_
  walk_at "go"
  have := k H1 e1
  unfold mis at this
  rw [few_eq hF] at this
  exact this
theorem pure_Offer_count_missing (h : sp_Offer_count_missing K vs H Q E) : t_Offer_count_missing K (Dn Q) (start N_Offer_count_missing vs) H := by
  obtain ⟨o, ts, d, rfl, ho, ok, d0, d1, k⟩ := h
  rw [st_Offer_count_missing]
  unfold t_Offer_count_missing
  walk_at "own"
  refine ap_validate_number d0 d1 fun H1 e1 => ?_
  walk_at "own"
  exact ap_Offer_count_up_to (ho.up e1) ok d0 fun H2 e2 => k H2 (Evl.Ex.trans e1 e2)
theorem pure_Offer_nth_missing (h : sp_Offer_nth_missing K vs H Q E) : t_Offer_nth_missing K (Dn Q) (start N_Offer_nth_missing vs) H := by
  obtain ⟨o, ts, c, rfl, ho, ok, c0, c1, k⟩ := h
  have f := ok.fair
  have one := ok.one
  rw [st_Offer_nth_missing]
  unfold t_Offer_nth_missing
  walk_at "own"
  refine ap_validate_number c0 c1 fun H1 e1 => ?_
  walk_at "own"
  refine w_tru (fun Q q => w_var rfl q) (ho.up e1) ok fun H2 e2 => ?_
  cases hg : gives ts with
  | false =>
    walk_at "own"
    exact k .non H2 (.inl ⟨rfl, hg⟩) (Evl.Ex.trans e1 e2)
  | true =>
    walk_at "own"
    refine w_while (fun m σ' H' => ∃ (hi : Int) (o3 o4 : Option V), σ' = [some (.ref o), some (.int c), some (.int hi), o3, o4] ∧ Ex H H' ∧ 1 ≤ hi ∧ hi ≤ 24 * c + 92 ∧ m = (24 * c + 92 - hi).toNat) _ ⟨1, _, _, rfl, Evl.Ex.trans e1 e2, by decide, by omega, rfl⟩ ?_
    rintro m σ' H3 ⟨hi, o3, o4, rfl, e3, i1, i2, rfl⟩
    walk_at "own"
    refine ap_Offer_count_up_to (ho.up e3) ok (by omega) fun H4 e4 => ?_
    have e04 := Evl.Ex.trans e3 e4
    walk_at "own"
    refine w_2 (fun lt => w_turn ?_) fun ge => ?_
    · have big := mis_big f one hg (d := hi) (by omega)
      refine w_aug rfl (w_c (w_ipM (cmul_r (by decide) (by decide)) ?_))
      dsimp only [List.set]
      exact ⟨_, by omega, hi * 2, _, _, rfl, e04, by omega, by omega, rfl⟩
    · walk_at "own"
      refine w_while (fun m σ' H' => ∃ (lo up : Int) (o4 : Option V), σ' = [some (.ref o), some (.int c), some (.int up), some (.int lo), o4] ∧ Ex H H' ∧ 0 ≤ lo ∧ lo ≤ up ∧ up ≤ 24 * c + 92 ∧ c ≤ mis ts up ∧ (∀ e, 0 ≤ e → e < lo → mis ts e < c) ∧ m = (up - lo).toNat) _ ⟨0, hi, _, rfl, e04, by decide, by omega, i2, by omega, fun e e0 e1 => by omega, rfl⟩ ?_
      rintro m σ' H5 ⟨lo, up, o4, rfl, e5, l0, l1, l2, en, no, rfl⟩
      walk_at "own"
      refine w_2 (fun lt => w_turn ?_) fun ge => ?_
      · walk_at "own"
        refine ap_Offer_count_up_to (ho.up e5) ok (by omega) fun H6 e6 => ?_
        walk_at "own"
        refine w_2 (fun q => ?_) fun q => ?_
        · walk_at "own"
          exact ⟨_, by omega, lo, (lo + up) / 2, _, rfl, Evl.Ex.trans e5 e6, l0, by omega, by omega, by omega, no, rfl⟩
        · walk_at "own"
          refine ⟨_, by omega, (lo + up) / 2 + 1, up, _, rfl, Evl.Ex.trans e5 e6, by omega, by omega, l2, en, fun e e0 e1 => ?_, rfl⟩
          have := mis_mono f one (a := e) (b := (lo + up) / 2) (by omega) (by omega)
          omega
      · have z : lo = up := by omega
        subst z
        walk_at "own"
        exact k _ H5 (.inr ⟨lo, rfl, hg, ⟨l0, en, no⟩, l2⟩) e5
end
end EB
namespace EB
open PySem PySem.Spec L2 StX ClX
set_option maxHeartbeats 4000000
section
variable {K : PySem.W.Frag} {H : Hp} {Q : VK} {E : XK} {vs : List V}
theorem pure_Offer_missing {Q : List V → Hp → Prop} (O : OfK K) (h : sp_Offer_missing K vs H Q E) : t_Offer_missing K { nx := fun ys _ H' => Q ys H', rt := fun ys v H' => v = .non ∧ Q ys H' } [] (start N_Offer_missing vs) H := by
  obtain ⟨o, ts, a, b, rfl, ho, ok, ⟨a0, ab, b1, b2⟩, k⟩ := h
  obtain ⟨cls, np, _⟩ := O
  have f := ok.fair
  have l1 := ok.one
  rw [st_Offer_missing]
  unfold t_Offer_missing
  refine w_gThen (w_plain ?_)
  walk_at "go"
  refine ap_validate_number a0 (by omega) fun H1 e1 => ?_
  dsimp only [GEnds.at]
  refine w_gThen (w_plain ?_)
  dsimp only [GEnds.at]
  walk_at "go"
  try dsimp only
  refine w_gThen (w_plain ?_)
  dsimp only [GEnds.at]
  walk_at "go"
  try dsimp only
  apply w_joinC (fun (H' : Hp) => Ex H1 H')
  · intro fin
    refine w_2 (fun q => ?_) fun q => ?_
    · refine w_var rfl ?_
      refine w_nil ?_
      exact ap_validate_number ab (by omega) fun H2 e2 => fin H2 e2
    · walk_at "go"
      exact ap_validate_number ab b1 fun H2 e2 => fin H2 e2
  intro H2 e2
  try dsimp only
  refine w_gThen (w_plain ?_)
  dsimp only [GEnds.at]
  have hb := ho.up (Evl.Ex.trans e1 e2)
  obtain ⟨dx, p, hp, hT⟩ := hb
  walk_at "go"
  refine ap_fewest hT f l1 a0 fun F H3 hF e3 => ?_
  obtain rfl := (few_eq hF).symm
  walk_at "go"
  try dsimp only
  refine w_gThen ?_
  refine w_gForR2 (n := (b + 1 - a).toNat) (fun i ys σ' H' => ∃ o5 : Option V, σ' = [some (.ref o), some (.int a), some (.int b), some (.int (a + 10000 - 1)), some (.int (few ts (a + i))), o5] ∧ ys = (misL ts a i).map V.int ∧ Ex H H') (by omega) rfl (by omega) (fun R q => by walk_at "go"; exact q) ⟨none, by simp, by simp [misL], by walk_at "ex"⟩ ?_ ?_
  · rintro i ys σ' H' hi ⟨o5, rfl, rfl, e⟩
    obtain ⟨dx, p, hp, hT⟩ := ho.up e
    have fs := few_spec f l1 (d := a + i) (by omega)
    walk_at "go"
    try dsimp only
    refine w_gThen (w_gIf ?_)
    walk_at "go"
    refine ap_total hT f l1 fs.pos fun H4 e4 => ?_
    walk_at "go"
    have up := few_up f l1 (d := a + i) (by omega)
    have cf := com_few f fs
    refine w_2 (fun c => ?_) fun c => ?_
    · have c := cf.mp c
      refine w_gThen (w_plain ?_)
      dsimp only [GEnds.at]
      walk_at "go"
      refine w_g0 ?_
      refine w_g0 ⟨some (.int (a + i)), ?_, ?_, by walk_at "ex"⟩
      · rw [show a + ((i + 1 : Nat) : Int) = a + i + 1 by omega, up.1 c]
      · rw [misL_com c]
    · have c : ¬ Com ts (a + i) := fun z => c (cf.mpr z)
      refine w_gThen (w_yield ?_ ?_)
      · rw [List.length_map]
        have := misL_le (ts := ts) (a := a) (n := i)
        omega
      walk_at "go"
      refine w_g0 ?_
      refine w_g0 ⟨some (.int (a + i)), ?_, ?_, by walk_at "ex"⟩
      · rw [show a + ((i + 1 : Nat) : Int) = a + i + 1 by omega, up.2 c]
      · rw [misL_not c, List.map_append]
        rfl
  · rintro ys σ' H' ⟨o5, rfl, rfl, e⟩
    exact w_g0 (k H' e)
theorem w_ifSame {p : Prop} [Decidable p] {σ : St} {ta tb : TE} {v : V} (ha : p → ∀ R : VK, (∀ H', Ex H H' → R v H') → ta σ H R) (hb : ¬ p → ∀ R : VK, (∀ H', Ex H H' → R v H') → tb σ H R) (q : ∀ H', Ex H H' → Q v H') : if decide p = true then ta σ H Q else tb σ H Q := by
  by_cases h : p
  · rw [decide_eq_true h]
    exact ha h _ q
  · rw [decide_eq_false h]
    exact hb h _ q
theorem w_cEq {σ : St} {v v' : V} (e : v = v') (q : Q v' H) : tC v σ H Q := by
  subst e
  exact q
theorem pure_law (h : sp_law K vs H Q E) : t_law K (Dn Q) (start N_law vs) H := by
  obtain ⟨a, ns, rfl, ha, hl, k⟩ := h
  rw [st_law]
  unfold t_law
  walk_at "go"
  refine ap__law_mix ha hl (by decide) fun h c H1 h0 c0 e1 s1 => ?_
  walk_at "go"
  refine w_forR1 (n := 3) (fun i σ' H' => ∃ o2 o3 o4 o5 o6 o7 o8 o9 o10 o11 o12 o13 : Option V, σ' = [some (.ref a), some (.ref h), o2, o3, o4, o5, o6, o7, o8, o9, o10, o11, o12, o13] ∧ Src H' h c) (by decide) (fun R q => by walk_at "go"; exact q) ⟨_, _, _, _, _, _, _, _, _, _, _, _, rfl, s1⟩ ?_ ?_
  · rintro i σ' H' hi ⟨o2, o3, o4, o5, o6, o7, o8, o9, o10, o11, o12, o13, rfl, s⟩
    walk_at "go"
    refine ap__law_trades s (by decide) (by decide) (by decide) (by decide) fun p ts H2 n2 u2 hT lt => ?_
    have ok := lt.ok
    have f := ok.fair
    have l1 := ok.one
    have s2 := u2.src
    walk_at "go"
    refine ap__law_offer hT ok fun o H3 n3 e3 ho => ?_
    walk_at "go"
    rename_i pl H4 n4 e4 h4
    have s3 := s2.up e3
    have s4 := s3.up e4
    refine ap__law_next s4 (by decide) (by decide) fun r5 H5 r50 r51 u5 => ?_
    have ho5 := (ho.up e4).upS s4 u5
    have npl := s3.apart n4
    have h5 := u5.keep pl _ npl.1 npl.2 h4
    have p17 : (10 : Int) ^ Int.toNat 17 = 100000000000000000 := by decide
    have p18 : (10 : Int) ^ Int.toNat 18 = 1000000000000000000 := by decide
    rw [p17] at h5
    obtain ⟨lim, l2, l3, hlim⟩ : ∃ lim : Int, 1 ≤ lim ∧ lim ≤ 100000000000000000 ∧ ([V.int 30, V.int 100000000000000000])[r5.toNat]? = some (.int lim) := by
      rcases (by omega : r5 = 0 ∨ r5 = 1) with rfl | rfl
      · exact ⟨30, by decide, by decide, rfl⟩
      · exact ⟨_, by decide, by decide, rfl⟩
    refine w_ixL (Evl.sq_of h5) (atI_pos r50 hlim) ?_
    walk_at "go"
    refine ap__law_next u5.src l2 (by omega) fun fr H6 f0 f1 u6 => ?_
    have ho6 := ho5.upS u5.src u6
    walk_at "go"
    refine ap__law_next u6.src (by decide) (by decide) fun r7 H7 r70 r71 u7 => ?_
    have ho7 := ho6.upS u6.src u7
    have s7 := u7.src
    obtain ⟨la, hla⟩ : ∃ la, fr + r7 = la := ⟨_, rfl⟩
    refine w_add ?_
    rw [hla]
    walk_at "own3"
    refine ap_Offer_missing (by walk_at "offer") ok ⟨f0, by omega, by omega, by omega⟩ fun H8 e8 => fun p9 n9 => ?_
    obtain ⟨nn, hnn⟩ : ∃ nn, (la + 1 - fr).toNat = nn := ⟨_, rfl⟩
    rw [hnn]
    have e9 : Ex H8 (upd H8 p9 (.lst ((misL ts fr nn).map V.int))) := Evl.Ex.new n9
    have h9 : (upd H8 p9 (.lst ((misL ts fr nn).map V.int))) p9 = some (.lst ((misL ts fr nn).map V.int)) := upd_same
    generalize upd H8 p9 (.lst ((misL ts fr nn).map V.int)) = H9 at e9 h9 ⊢
    walk_at "own3"
    refine w_lcRf2 (lo := fr) (hi := la + 1) (n := nn) (missC ts fr) (fun i => .int (fr + i)) (by omega) ⟨by omega, by omega⟩ hnn ⟨by omega, by omega⟩ (fun R q => ?_) (fun j H10 hj e10 R N y1 y2 => ?_) fun p10 H10 n10 e10 h10 => ?_
    · walk_at "own3"
      exact q
    · dsimp only [wipe, List.set]
      walk_at "own3"
      refine ⟨rfl, ?_⟩
      walk_at "own3"
      refine w_notInOffer (by walk_at "offer") ok (by omega) fun b H11 hb e11 => ?_
      walk_at "own3"
      cases b with
      | true =>
        walk_at "own3"
        refine y2 ?_ _ (by walk_at "ex")
        cases z : missC ts fr j with
        | false => rfl
        | true => exact absurd (hb.mp rfl) (missC_iff.mp z)
      | false =>
        walk_at "own3"
        exact y1 (missC_iff.mpr fun c => absurd (hb.mpr c) (by decide)) _ (by walk_at "ex")
    rw [misL_v] at h10
    have ml := misL_len f l1 f0 nn
    rw [show fr + (nn : Int) - 1 = la by omega] at ml
    have mle := misL_le (ts := ts) (a := fr) (n := nn)
    generalize misL ts fr nn = L at h9 h10 ml mle
    have okl : okD 4 (.list (L.map PyData.int)) = true := okD_ints (by omega) 2
    walk_at "own3"
    refine ap_alike (n := 3) (d := .list (L.map PyData.int)) (.lst (by walk_at "fact") dqI) (.lst (by walk_at "fact") dqI) okl fun H11 e11 => ?_
    walk_at "own3"
    refine w_ifSame (v := .int (mis ts (fr - 1))) (fun c R q => ?_) (fun c R q => ?_) fun H12 e12 => ?_
    · walk_at "own3"
      exact ap_Offer_count_missing (by walk_at "offer") ok (by omega) (by omega) q
    · refine w_cEq (v' := .int (mis ts (fr - 1))) ?_ (q _ (Evl.Ex.refl _))
      rw [show fr - 1 = -1 by omega, mis_none f]
    walk_at "own3"
    refine ap_Offer_count_missing (by walk_at "offer") ok (by omega) (by omega) fun H13 e13 => ?_
    walk_at "own3"
    rw [show mis ts (fr - 1) + ((L.map V.int).length : Int) = mis ts la by rw [List.length_map]; omega]
    refine ap_alike (n := 3) (.int _) (.int _) rfl fun H14 e14 => ?_
    walk_at "own3"
    refine ap_Offer_missing (by walk_at "offer") ok ⟨by decide, by decide, by decide, by decide⟩ fun H15 e15 => fun p16 n16 => ?_
    rw [show ((80 : Int) + 1 - 0).toNat = 81 by decide]
    have np16 := (show Src H15 h c from s7.up (by walk_at "ex")).apart n16
    have e16 : Ex H15 (upd H15 p16 (.lst ((misL ts 0 81).map V.int))) := Evl.Ex.new n16
    have h16 : (upd H15 p16 (.lst ((misL ts 0 81).map V.int))) p16 = some (.lst ((misL ts 0 81).map V.int)) := upd_same
    generalize upd H15 p16 (.lst ((misL ts 0 81).map V.int)) = H16 at e16 h16 ⊢
    have sl := misL_len f l1 (a := 0) (by decide) 81
    rw [show (0 : Int) - 1 = -1 by decide, mis_none f, show (0 : Int) + ((81 : Nat) : Int) - 1 = 80 by decide] at sl
    have sle := misL_le (ts := ts) (a := 0) (n := 81)
    have snth := misL_nth f l1 81
    have sgiv := fun g => misL_gives f (a := 0) (by decide) (n := 81) (g : gives ts = false)
    generalize misL ts 0 81 = S at h16 sl sle snth sgiv
    walk_at "own3"
    refine ap_Offer_count_missing (by walk_at "offer") ok (by decide) (by decide) fun H17 e17 => ?_
    walk_at "own3"
    rw [show ((S.map V.int).length : Int) = mis ts 80 by rw [List.length_map]; omega]
    refine ap_alike (n := 3) (.int _) (.int _) rfl fun H18 e18 => ?_
    walk_at "own3"
    refine w_lcRf1 (n := (S.map V.int).length) (fun _ => false) (fun d => .int d) (by rw [List.length_map]; omega) (fun R q => ?_) (fun j H19 hj e19 R N y1 y2 => ?_) fun p19 H19 n19 e19 h19 => ?_
    · walk_at "own3"
      exact q
    · rw [List.length_map] at hj
      dsimp only [wipe, List.set]
      rw [Int.zero_add]
      walk_at "own3"
      refine ⟨rfl, ?_⟩
      walk_at "own3"
      refine ap_Offer_nth_missing (by walk_at "offer") ok (by omega) (by omega) fun v H20 hv e20 => ?_
      walk_at "own3"
      have gj : S[j]? = some S[j] := List.getElem?_eq_getElem hj
      refine w_ixL (by walk_at "fact") (atI_pos (i := (j : Int)) (v := .int S[j]) (by omega) (by rw [List.getElem?_map, Int.toNat_natCast, gj]; rfl)) ?_
      obtain rfl : v = .int S[j] := by
        rcases hv with ⟨_, g⟩ | ⟨N, rfl, _, hN, _⟩
        · rw [sgiv g] at hj
          cases hj
        · rw [hN.unique (snth j _ gj)]
      walk_at "own3"
      rw [decide_eq_true (show S[j] = S[j] from rfl)]
      walk_at "own3"
      exact y2 rfl _ (by walk_at "ex")
    rw [range_none fun _ _ => rfl] at h19
    walk_at "own3"
    rename_i p20 H20 n20 e20 h20
    refine w_neInts [] [] (e20 _ _ h19) h20 (by decide) (by decide) ?_
    rw [decide_eq_true (show ([] : List Int) = [] from rfl)]
    have s20 : Src H20 h c := s7.up (by walk_at "ex")
    walk_at "own3"
    rw [p18]
    refine ap__law_next s20 (by decide) (by decide) fun r21 H21 r210 r211 u21 => ?_
    have ho21 : OfferAt K H21 o ts := (show OfferAt K H20 o ts by walk_at "offer").upS s20 u21
    have h16' : H21 p16 = some (.lst (S.map V.int)) := u21.keep p16 _ np16.1 np16.2 (by walk_at "factE")
    obtain ⟨nb, enb⟩ : ∃ nb, 1 + r21 = nb := ⟨_, rfl⟩
    refine w_add ?_
    rw [enb]
    walk_at "own3"
    refine ap_Offer_nth_missing ho21 ok (by omega) (by omega) fun v H22 hv e22 => ?_
    walk_at "own3"
    refine w_boolO (fun R q => by walk_at "own3"; exact q) (by walk_at "offer") ok fun H23 e23 => ?_
    have s23 : Src H23 h c := u21.src.up (by walk_at "ex")
    rcases hv with ⟨rfl, g⟩ | ⟨N, rfl, g, hN, _⟩
    · rw [g]
      walk_at "own3"
      rename_i p24 H24 n24 e24 h24
      refine w_neInts S [] (e24 _ _ (e23 _ _ (e22 _ _ h16'))) h24 (by omega) (by decide) ?_
      rw [decide_eq_true (sgiv g)]
      walk_at "own3"
      exact ⟨_, _, _, _, _, _, _, _, _, _, _, _, rfl, s23.up e24⟩
    · rw [g]
      walk_at "own3"
      obtain ⟨mN, cN⟩ := hN.exact f l1 (by omega)
      have Np := hN.pos
      refine w_inOffer (by walk_at "offer") ok Np fun b H24 hb e24 => ?_
      obtain rfl : b = false := by
        cases b with
        | false => rfl
        | true => exact absurd (hb.mp rfl) cN
      walk_at "own3"
      rw [p18]
      refine w_2 (fun q => ?_) fun q => ?_
      · walk_at "own3"
        refine ap_Offer_count_missing (by walk_at "offer") ok Np (by omega) fun H25 e25 => ?_
        walk_at "own3"
        rw [mN, decide_eq_true (show nb = nb from rfl)]
        walk_at "own3"
        exact ⟨_, _, _, _, _, _, _, _, _, _, _, _, rfl, s23.up (by walk_at "ex")⟩
      · walk_at "own3"
        exact ⟨_, _, _, _, _, _, _, _, _, _, _, _, rfl, s23.up (by walk_at "ex")⟩
  · rintro σ' H' ⟨o2, o3, o4, o5, o6, o7, o8, o9, o10, o11, o12, o13, rfl, s⟩
    walk_at "own3"
    exact k _
end
end EB
namespace EB
open PySem PySem.Spec L2 StX ClX
def top (i : Nat) : Stmt := PySem.Challenge.pw_emptiesback_k08_whole_numbers_that_are_m.main.body.getD i (.Pass ⟨0, 0, 0, 0⟩)
abbrev s_common_divisor : Stmt := top 3
def d_common_divisor : He5.DefA := ⟨fun K => He.ga K "common_divisor", "common_divisor", "common_divisor", defArgs s_common_divisor, defBody s_common_divisor, defScope s_common_divisor, [], []⟩
abbrev s_common_multiple : Stmt := top 4
def d_common_multiple : He5.DefA := ⟨fun K => He.ga K "common_multiple", "common_multiple", "common_multiple", defArgs s_common_multiple, defBody s_common_multiple, defScope s_common_multiple, [], []⟩
abbrev s_bought : Stmt := top 5
def d_bought : He5.DefA := ⟨fun K => He.ga K "bought", "bought", "bought", defArgs s_bought, defBody s_bought, defScope s_bought, [], []⟩
abbrev s_least_point : Stmt := top 6
def d_least_point : He5.DefA := ⟨fun K => He.ga K "least_point", "least_point", "least_point", defArgs s_least_point, defBody s_least_point, defScope s_least_point, [], []⟩
abbrev s_needed_multiple : Stmt := top 8
def d_needed_multiple : He5.DefA := ⟨fun K => He.ga K "needed_multiple", "needed_multiple", "needed_multiple", defArgs s_needed_multiple, defBody s_needed_multiple, defScope s_needed_multiple, [], []⟩
abbrev s_period_of : Stmt := top 9
def d_period_of : He5.DefA := ⟨fun K => He.ga K "period_of", "period_of", "period_of", defArgs s_period_of, defBody s_period_of, defScope s_period_of, [], []⟩
abbrev s_total : Stmt := top 7
def d_total : He5.DefA := ⟨fun K => He.ga K "total", "total", "total", defArgs s_total, defBody s_total, defScope s_total, [], []⟩
abbrev s_is_kind : Stmt := top 26
def d_is_kind : He5.DefA := ⟨fun K => He.ga K "is_kind", "is_kind", "is_kind", defArgs s_is_kind, defBody s_is_kind, defScope s_is_kind, [], []⟩
abbrev s_is_trade_kind : Stmt := top 27
def d_is_trade_kind : He5.DefA := ⟨fun K => He.ga K "is_trade_kind", "is_trade_kind", "is_trade_kind", defArgs s_is_trade_kind, defBody s_is_trade_kind, defScope s_is_trade_kind, [], []⟩
abbrev s_is_trade : Stmt := top 28
def d_is_trade : He5.DefA := ⟨fun K => He.ga K "is_trade", "is_trade", "is_trade", defArgs s_is_trade, defBody s_is_trade, defScope s_is_trade, [], []⟩
abbrev s_validate_number : Stmt := top 29
def d_validate_number : He5.DefA := ⟨fun K => He.ga K "validate_number", "validate_number", "validate_number", defArgs s_validate_number, defBody s_validate_number, defScope s_validate_number, [], []⟩
abbrev s_Offer_init : Stmt := inClass (top 30) 2
def d_Offer_init : He5.DefA := ⟨fun K => He.ma K (He.ga K "Offer") "__init__", "__init__", "Offer.__init__", defArgs s_Offer_init, defBody s_Offer_init, defScope s_Offer_init, [], []⟩
abbrev s_Offer_call : Stmt := inClass (top 30) 8
def d_Offer_call : He5.DefA := ⟨fun K => He.ma K (He.ga K "Offer") "__call__", "__call__", "Offer.__call__", defArgs s_Offer_call, defBody s_Offer_call, defScope s_Offer_call, [], []⟩
abbrev s_fewest : Stmt := top 11
def d_fewest : He5.DefA := ⟨fun K => He.ga K "fewest", "fewest", "fewest", defArgs s_fewest, defBody s_fewest, defScope s_fewest, [], []⟩
abbrev s_Offer_missing : Stmt := inClass (top 30) 24
def d_Offer_missing : He5.DefA := ⟨fun K => He.ma K (He.ga K "Offer") "missing", "missing", "Offer.missing", defArgs s_Offer_missing, defBody s_Offer_missing, defScope s_Offer_missing, [], []⟩
abbrev s_Offer_bool : Stmt := inClass (top 30) 9
def d_Offer_bool : He5.DefA := ⟨fun K => He.ma K (He.ga K "Offer") "__bool__", "__bool__", "Offer.__bool__", defArgs s_Offer_bool, defBody s_Offer_bool, defScope s_Offer_bool, [], []⟩
abbrev s_Offer_contains : Stmt := inClass (top 30) 14
def d_Offer_contains : He5.DefA := ⟨fun K => He.ma K (He.ga K "Offer") "__contains__", "__contains__", "Offer.__contains__", defArgs s_Offer_contains, defBody s_Offer_contains, defScope s_Offer_contains, [], []⟩
abbrev s_Offer_count_up_to : Stmt := inClass (top 30) 25
def d_Offer_count_up_to : He5.DefA := ⟨fun K => He.ma K (He.ga K "Offer") "count_up_to", "count_up_to", "Offer.count_up_to", defArgs s_Offer_count_up_to, defBody s_Offer_count_up_to, defScope s_Offer_count_up_to, [], []⟩
abbrev s_Offer_count_missing : Stmt := inClass (top 30) 26
def d_Offer_count_missing : He5.DefA := ⟨fun K => He.ma K (He.ga K "Offer") "count_missing", "count_missing", "Offer.count_missing", defArgs s_Offer_count_missing, defBody s_Offer_count_missing, defScope s_Offer_count_missing, [], []⟩
abbrev s_Offer_nth_missing : Stmt := inClass (top 30) 27
def d_Offer_nth_missing : He5.DefA := ⟨fun K => He.ma K (He.ga K "Offer") "nth_missing", "nth_missing", "Offer.nth_missing", defArgs s_Offer_nth_missing, defBody s_Offer_nth_missing, defScope s_Offer_nth_missing, [], []⟩
abbrev s__law_mix : Stmt := top 32
def d__law_mix : He5.DefA := ⟨fun K => He.ga K "_law_mix", "_law_mix", "_law_mix", defArgs s__law_mix, defBody s__law_mix, defScope s__law_mix, [], []⟩
abbrev s__law_next : Stmt := top 33
def d__law_next : He5.DefA := ⟨fun K => He.ga K "_law_next", "_law_next", "_law_next", defArgs s__law_next, defBody s__law_next, defScope s__law_next, [], []⟩
abbrev s__law_alike : Stmt := top 34
def d__law_alike : He5.DefA := ⟨fun K => He.ga K "_law_alike", "_law_alike", "_law_alike", defArgs s__law_alike, defBody s__law_alike, defScope s__law_alike, [], []⟩
abbrev s__law_trades : Stmt := top 35
def d__law_trades : He5.DefA := ⟨fun K => He.ga K "_law_trades", "_law_trades", "_law_trades", defArgs s__law_trades, defBody s__law_trades, defScope s__law_trades, [], []⟩
abbrev s__law_offer : Stmt := top 36
def d__law_offer : He5.DefA := ⟨fun K => He.ga K "_law_offer", "_law_offer", "_law_offer", defArgs s__law_offer, defBody s__law_offer, defScope s__law_offer, [], []⟩
abbrev s_law : Stmt := top 38
def d_law : He5.DefA := ⟨fun K => He.ga K "law", "law", "law", defArgs s_law, defBody s_law, defScope s_law, [], []⟩
def fn : List He5.DefA := [d_common_divisor, d_common_multiple, d_bought, d_least_point, d_needed_multiple, d_period_of, d_total, d_is_kind, d_is_trade_kind, d_is_trade, d_validate_number, d_Offer_init, d_Offer_call, d_fewest, d_Offer_missing, d_Offer_bool, d_Offer_contains, d_Offer_count_up_to, d_Offer_count_missing, d_Offer_nth_missing, d__law_mix, d__law_next, d__law_alike, d__law_trades, d__law_offer, d_law]
def fa : List He.Fa := [.free "int", .glo "common_divisor", .free "sum", .glo "bought", .glo "common_multiple", .glo "least_point", .glo "period_of", .free "len", .int "MAX_LETTERS" (8), .str "LETTERS" "abcdefghijklmnopqrstuvwxyz", .free "all", .glo "is_kind", .glo "is_trade_kind", .glo "Offer", .noat "Offer" "parts", .glo "needed_multiple", .free "enumerate", .glo "is_trade", .glo "total", .int "MAX_BOTTLES" (1000000000000000000), .glo "validate_number", .free "range", .glo "fewest", .int "MAX_LISTED" (10000), .free "any", .meth "Offer" "count_up_to", .cls "Offer", .free "list", .free "max", .free "isinstance", .free "bool", .free "str", .free "tuple", .glo "_law_alike", .free "dict", .glo "_law_next", .mkr "Offer", .meth "Offer" "count_missing", .meth "Offer" "nth_missing", .meth "Offer" "missing", .glo "_law_offer", .glo "_law_trades", .glo "_law_mix", .glo "law"]
def fb : List Fb := [.cread "Offer", .cval "Offer" "MAX_NEEDED" (12), .cval "Offer" "MAX_TRADES" (3), .own "Offer" "__bool__", .own "Offer" "__contains__"]
abbrev Tx (K : PySem.W.Frag) (mg : Str → Option Value) : Prop := Tx0 fa fn fb K mg
section
variable {P : Program} {w : World} {K : PySem.W.Frag} {mg : Str → Option Value} {base : Heap}
theorem ofK (T : Tx K mg) : OfK K := ⟨T.cls 26 (x := "Offer") rfl, T.noat 14 (x := "Offer") (f := "parts") rfl, T.cread 0 (x := "Offer") rfl, T.cval 1 (x := "Offer") (f := "MAX_NEEDED") (i := 12) rfl, T.cval 2 (x := "Offer") (f := "MAX_TRADES") (i := 3) rfl⟩
theorem kp_common_divisor (T : Tx K mg) : PySem.W.keepIn K (.ref (d_common_divisor.at_ K)) = true := by
  obtain ⟨_, F⟩ := T.says.def_ 0 (d := d_common_divisor) rfl
  exact F.kp
theorem sc_common_divisor : FnScope N_common_divisor ["one", "other"] (defScope s_common_divisor) := ⟨rfl, rfl, rfl, by decide +kernel, rfl, by decide +kernel, by decide +kernel⟩
theorem ok_common_divisor (T : Tx K mg) : FnR P w K mg base CX0 1 (d_common_divisor.at_ K) (sp_common_divisor K) := by
  obtain ⟨fd, F⟩ := T.says.def_ 0 (d := d_common_divisor) rfl
  have nd := sc_common_divisor.nd
  refine fnR_of (F.ok (k := 0) sc_common_divisor len_common_divisor (fun cdv A outer s H vs Q E hr h => ⟨t_common_divisor K, PSs.nox ?_, pure_common_divisor h⟩)) (F.bindsN fun _ _ _ _ _ _ us hl => match us, hl with | [_, _], _ => rfl)
  exact (pss_cons (ps_while PassesOwn.never (pt_cmpR op_ne (pv 1) pe_int (nomark _)) (pss_one (ps_par rfl nd (i := 0) (j := 1) rfl rfl (by decide) rfl rfl (pa_cons (pv 1) (pa_cons (pe_op o_mod (pe_callTy c_int rfl (T.fre 0 (x := "int") rfl) (by decide +kernel) (pa_cons (pv 0) pa_nil)) (pe_callTy c_int rfl (T.fre 0 (x := "int") rfl) (by decide +kernel) (pa_cons (pv 1) pa_nil))) pa_nil)) rfl)))
    (pss_one (ps_ret (pv 0))))
theorem kp_common_multiple (T : Tx K mg) : PySem.W.keepIn K (.ref (d_common_multiple.at_ K)) = true := by
  obtain ⟨_, F⟩ := T.says.def_ 1 (d := d_common_multiple) rfl
  exact F.kp
theorem sc_common_multiple : FnScope N_common_multiple ["one", "other"] (defScope s_common_multiple) := ⟨rfl, rfl, rfl, by decide +kernel, rfl, by decide +kernel, by decide +kernel⟩
theorem ok_common_multiple (T : Tx K mg) : FnR P w K mg base CX0 2 (d_common_multiple.at_ K) (sp_common_multiple K) := by
  obtain ⟨fd, F⟩ := T.says.def_ 1 (d := d_common_multiple) rfl
  have nd := sc_common_multiple.nd
  refine fnR_of (F.ok (k := 1) sc_common_multiple len_common_multiple (fun cdv A outer s H vs Q E hr h => ⟨t_common_multiple K, PSs.nox ?_, pure_common_multiple h⟩)) (F.bindsN fun _ _ _ _ _ _ us hl => match us, hl with | [_, _], _ => rfl)
  exact (pss_one (ps_ret (pe_op o_mul (pe_op o_fd (pv 0) (pe_callR (ok_common_divisor T) (hr.mono (by decide)) (kp_common_divisor T) rfl (T.glo 1 (x := "common_divisor") rfl) pass0 (pa_cons (pv 0) (pa_cons (pv 1) pa_nil)))) (pv 1))))
theorem kp_bought (T : Tx K mg) : PySem.W.keepIn K (.ref (d_bought.at_ K)) = true := by
  obtain ⟨_, F⟩ := T.says.def_ 2 (d := d_bought) rfl
  exact F.kp
theorem sc_bought : FnScope N_bought ["trades", "drinks"] (defScope s_bought) := ⟨rfl, rfl, rfl, by decide +kernel, rfl, by decide +kernel, by decide +kernel⟩
theorem ok_bought (T : Tx K mg) : FnR P w K mg base CX0 1 (d_bought.at_ K) (sp_bought K) := by
  obtain ⟨fd, F⟩ := T.says.def_ 2 (d := d_bought) rfl
  have nd := sc_bought.nd
  refine fnR_of (F.ok (k := 0) sc_bought len_bought (fun cdv A outer s H vs Q E hr h => ⟨t_bought K, PSs.nox ?_, pure_bought h⟩)) (F.bindsN fun _ _ _ _ _ _ us hl => match us, hl with | [_, _], _ => rfl)
  exact (pss_one (ps_ret (pe_callB (cr_sum rfl) rfl (T.fre 2 (x := "sum") rfl) (by decide +kernel) (pa_cons (pe_lc (own := [("kind", 2), ("left", 3), ("needed", 4)]) rfl nd (pi_tup (pv 0)) (blkOk_by (own := [("kind", 2), ("left", 3), ("needed", 4)]) (N := N_bought) (sc := defScope s_bought) (by decide +kernel)) (fun _ _ _ _ _ => (pg_tup rfl (pgs_cons (pg_name (i := 2) nd rfl (Or.inl rfl)) (pgs_cons (pg_name (i := 3) nd rfl (Or.inl rfl)) (pgs_cons (pg_name (i := 4) nd rfl (Or.inl rfl)) pgs_nil))))) (fun _ _ _ _ _ => pts_nil) (fun _ _ _ _ _ => (pe_op o_fd (pe_op o_mul (pv 3) (pv 1)) (pv 4)))) pa_nil))))
theorem kp_least_point (T : Tx K mg) : PySem.W.keepIn K (.ref (d_least_point.at_ K)) = true := by
  obtain ⟨_, F⟩ := T.says.def_ 3 (d := d_least_point) rfl
  exact F.kp
theorem sc_least_point : FnScope N_least_point ["trades", "bottles", "drinks"] (defScope s_least_point) := ⟨rfl, rfl, rfl, by decide +kernel, rfl, by decide +kernel, by decide +kernel⟩
theorem ok_least_point (T : Tx K mg) : FnR P w K mg base CX0 2 (d_least_point.at_ K) (sp_least_point K) := by
  obtain ⟨fd, F⟩ := T.says.def_ 3 (d := d_least_point) rfl
  have nd := sc_least_point.nd
  refine fnR_of (F.ok (k := 1) sc_least_point len_least_point (fun cdv A outer s H vs Q E hr h => ⟨t_least_point K, PSs.nox ?_, pure_least_point h⟩)) (F.bindsN fun _ _ _ _ _ _ us hl => match us, hl with | [_, _, _], _ => rfl)
  exact (pss_cons (ps_whileW PassesOwn.never (ptw_cmp op_ne (pew_named (i := 3) nd rfl (Or.inl rfl) (pew_of (pe_op o_add (pv 1) (pe_callR (ok_bought T) (hr.mono (by decide)) (kp_bought T) rfl (T.glo 3 (x := "bought") rfl) pass0 (pa_cons (pv 0) (pa_cons (pv 2) pa_nil)))))) (pv 2) (nomark _)) (pss_one (ps_set (i := 2) nd rfl (Or.inl rfl) (pv 3))) pss_nil)
    (pss_one (ps_ret (pv 2))))
theorem kp_needed_multiple (T : Tx K mg) : PySem.W.keepIn K (.ref (d_needed_multiple.at_ K)) = true := by
  obtain ⟨_, F⟩ := T.says.def_ 4 (d := d_needed_multiple) rfl
  exact F.kp
theorem sc_needed_multiple : FnScope N_needed_multiple ["trades"] (defScope s_needed_multiple) := ⟨rfl, rfl, rfl, by decide +kernel, rfl, by decide +kernel, by decide +kernel⟩
theorem ok_needed_multiple (T : Tx K mg) : FnR P w K mg base CX0 3 (d_needed_multiple.at_ K) (sp_needed_multiple K) := by
  obtain ⟨fd, F⟩ := T.says.def_ 4 (d := d_needed_multiple) rfl
  have nd := sc_needed_multiple.nd
  refine fnR_of (F.ok (k := 2) sc_needed_multiple len_needed_multiple (fun cdv A outer s H vs Q E hr h => ⟨t_needed_multiple K, PSs.nox ?_, pure_needed_multiple h⟩)) (F.bindsN fun _ _ _ _ _ _ us hl => match us, hl with | [_], _ => rfl)
  exact (pss_cons (ps_set (i := 1) nd rfl (Or.inl rfl) pe_int)
    (pss_cons (ps_for PassesOwn.never rfl (pi_tup (pv 0)) (pg_tup rfl (pgs_cons (pg_name (i := 2) nd rfl (Or.inl rfl)) (pgs_cons (pg_name (i := 3) nd rfl (Or.inl rfl)) (pgs_cons (pg_name (i := 4) nd rfl (Or.inl rfl)) pgs_nil)))) (pss_one (ps_set (i := 1) nd rfl (Or.inl rfl) (pe_callR (ok_common_multiple T) (hr.mono (by decide)) (kp_common_multiple T) rfl (T.glo 4 (x := "common_multiple") rfl) pass0 (pa_cons (pv 1) (pa_cons (pv 4) pa_nil))))))
    (pss_one (ps_ret (pv 1)))))
theorem kp_period_of (T : Tx K mg) : PySem.W.keepIn K (.ref (d_period_of.at_ K)) = true := by
  obtain ⟨_, F⟩ := T.says.def_ 5 (d := d_period_of) rfl
  exact F.kp
theorem sc_period_of : FnScope N_period_of ["trades"] (defScope s_period_of) := ⟨rfl, rfl, rfl, by decide +kernel, rfl, by decide +kernel, by decide +kernel⟩
theorem ok_period_of (T : Tx K mg) : FnR P w K mg base CX0 3 (d_period_of.at_ K) (sp_period_of K) := by
  obtain ⟨fd, F⟩ := T.says.def_ 5 (d := d_period_of) rfl
  have nd := sc_period_of.nd
  refine fnR_of (F.ok (k := 2) sc_period_of len_period_of (fun cdv A outer s H vs Q E hr h => ⟨t_period_of K, PSs.nox ?_, pure_period_of h⟩)) (F.bindsN fun _ _ _ _ _ _ us hl => match us, hl with | [_], _ => rfl)
  exact (pss_cons (ps_set (i := 1) nd rfl (Or.inl rfl) pe_int)
    (pss_cons (ps_for PassesOwn.never rfl (pi_tup (pv 0)) (pg_tup rfl (pgs_cons (pg_name (i := 2) nd rfl (Or.inl rfl)) (pgs_cons (pg_name (i := 3) nd rfl (Or.inl rfl)) (pgs_cons (pg_name (i := 4) nd rfl (Or.inl rfl)) pgs_nil)))) (pss_one (ps_set (i := 1) nd rfl (Or.inl rfl) (pe_callR (ok_common_multiple T) (hr.mono (by decide)) (kp_common_multiple T) rfl (T.glo 4 (x := "common_multiple") rfl) pass0 (pa_cons (pv 1) (pa_cons (pe_op o_fd (pv 4) (pe_callR (ok_common_divisor T) (hr.mono (by decide)) (kp_common_divisor T) rfl (T.glo 1 (x := "common_divisor") rfl) pass0 (pa_cons (pv 3) (pa_cons (pv 4) pa_nil)))) pa_nil))))))
    (pss_one (ps_ret (pe_tup (pa_cl (pa_cons (pe_op o_sub (pv 1) (pe_callR (ok_bought T) (hr.mono (by decide)) (kp_bought T) rfl (T.glo 3 (x := "bought") rfl) pass0 (pa_cons (pv 0) (pa_cons (pv 1) pa_nil)))) (pa_cons (pv 1) pa_nil))))))))
theorem kp_total (T : Tx K mg) : PySem.W.keepIn K (.ref (d_total.at_ K)) = true := by
  obtain ⟨_, F⟩ := T.says.def_ 6 (d := d_total) rfl
  exact F.kp
theorem sc_total : FnScope N_total ["trades", "bottles"] (defScope s_total) := ⟨rfl, rfl, rfl, by decide +kernel, rfl, by decide +kernel, by decide +kernel⟩
theorem ok_total (T : Tx K mg) : FnR P w K mg base CX0 4 (d_total.at_ K) (sp_total K) := by
  obtain ⟨fd, F⟩ := T.says.def_ 6 (d := d_total) rfl
  have nd := sc_total.nd
  refine fnR_of (F.ok (k := 3) sc_total len_total (fun cdv A outer s H vs Q E hr h => ⟨t_total K, PSs.nox ?_, pure_total h⟩)) (F.bindsN fun _ _ _ _ _ _ us hl => match us, hl with | [_, _], _ => rfl)
  exact (pss_cons (ps_asg (pe_callR (ok_period_of T) (hr.mono (by decide)) (kp_period_of T) rfl (T.glo 6 (x := "period_of") rfl) pass0 (pa_cons (pv 0) pa_nil)) (pg_tup rfl (pgs_cons (pg_name (i := 2) nd rfl (Or.inl rfl)) (pgs_cons (pg_name (i := 3) nd rfl (Or.inl rfl)) pgs_nil))))
    (pss_cons (ps_set (i := 4) nd rfl (Or.inl rfl) (pe_op o_fd (pe_op o_mul (pe_op o_sub (pv 1) pe_int) (pv 3)) (pv 2)))
    (pss_one (ps_ret (pe_callR (ok_least_point T) (hr.mono (by decide)) (kp_least_point T) rfl (T.glo 5 (x := "least_point") rfl) pass0 (pa_cons (pv 0) (pa_cons (pv 1) (pa_cons (pe_ifExp (pt_cmpR o_gt (pv 4) (pv 1) (nomark _)) (pv 4) (pv 1)) pa_nil))))))))
theorem kp_is_kind (T : Tx K mg) : PySem.W.keepIn K (.ref (d_is_kind.at_ K)) = true := by
  obtain ⟨_, F⟩ := T.says.def_ 7 (d := d_is_kind) rfl
  exact F.kp
theorem sc_is_kind : FnScope N_is_kind ["kind"] (defScope s_is_kind) := ⟨rfl, rfl, rfl, by decide +kernel, rfl, by decide +kernel, by decide +kernel⟩
theorem ok_is_kind (T : Tx K mg) : FnR P w K mg base CX0 1 (d_is_kind.at_ K) (sp_is_kind K) := by
  obtain ⟨fd, F⟩ := T.says.def_ 7 (d := d_is_kind) rfl
  have nd := sc_is_kind.nd
  refine fnR_of (F.ok (k := 0) sc_is_kind len_is_kind (fun cdv A outer s H vs Q E hr h => ⟨t_is_kind K, PSs.nox ?_, pure_is_kind h⟩)) (F.bindsN fun _ _ _ _ _ _ us hl => match us, hl with | [_], _ => rfl)
  exact (pss_one (ps_ret (pe_and (pe_chain o_le o_le pe_int (pe_callB c_len rfl (T.fre 7 (x := "len") rfl) (by decide +kernel) (pa_cons (pv 0) pa_nil)) (pe_glob rfl (T.int 8 (x := "MAX_LETTERS") (i := 8) rfl).choose_spec ⟨_, rfl⟩)) (pe_one (pe_callB (cr_all rfl) rfl (T.fre 10 (x := "all") rfl) (by decide +kernel) (pa_cons (pe_lc (own := [("letter", 1)]) rfl nd (pi_str (pv 0)) (blkOk_by (own := [("letter", 1)]) (N := N_is_kind) (sc := defScope s_is_kind) (by decide +kernel)) (fun _ _ _ _ _ => (pg_name (i := 1) nd rfl (Or.inl rfl))) (fun _ _ _ _ _ => pts_nil) (fun _ _ _ _ _ => (pe_cmpR op_inS (pv 1) (pe_glob rfl (T.str 9 (x := "LETTERS") (z := "abcdefghijklmnopqrstuvwxyz") rfl).choose_spec ⟨_, rfl⟩) rfl))) pa_nil))))))
theorem kp_is_trade_kind (T : Tx K mg) : PySem.W.keepIn K (.ref (d_is_trade_kind.at_ K)) = true := by
  obtain ⟨_, F⟩ := T.says.def_ 8 (d := d_is_trade_kind) rfl
  exact F.kp
theorem sc_is_trade_kind : FnScope N_is_trade_kind ["kind"] (defScope s_is_trade_kind) := ⟨rfl, rfl, rfl, by decide +kernel, rfl, by decide +kernel, by decide +kernel⟩
theorem ok_is_trade_kind (T : Tx K mg) : FnR P w K mg base CX0 2 (d_is_trade_kind.at_ K) (sp_is_trade_kind K) := by
  obtain ⟨fd, F⟩ := T.says.def_ 8 (d := d_is_trade_kind) rfl
  have nd := sc_is_trade_kind.nd
  refine fnR_of (F.ok (k := 1) sc_is_trade_kind len_is_trade_kind (fun cdv A outer s H vs Q E hr h => ⟨t_is_trade_kind K, PSs.nox ?_, pure_is_trade_kind h⟩)) (F.bindsN fun _ _ _ _ _ _ us hl => match us, hl with | [_], _ => rfl)
  exact (pss_one (ps_ret (pe_and (pe_callR (ok_is_kind T) (hr.mono (by decide)) (kp_is_kind T) rfl (T.glo 11 (x := "is_kind") rfl) pass0 (pa_cons (pv 0) pa_nil)) (pe_one (pe_cmpR op_ne (pv 0) pe_str (nomark _))))))
theorem kp_is_trade (T : Tx K mg) : PySem.W.keepIn K (.ref (d_is_trade.at_ K)) = true := by
  obtain ⟨_, F⟩ := T.says.def_ 9 (d := d_is_trade) rfl
  exact F.kp
theorem sc_is_trade : FnScope N_is_trade ["trade"] (defScope s_is_trade) := ⟨rfl, rfl, rfl, by decide +kernel, rfl, by decide +kernel, by decide +kernel⟩
theorem ok_is_trade (T : Tx K mg) : FnR P w K mg base CX0 3 (d_is_trade.at_ K) (sp_is_trade K) := by
  obtain ⟨fd, F⟩ := T.says.def_ 9 (d := d_is_trade) rfl
  have nd := sc_is_trade.nd
  refine fnR_of (F.ok (k := 2) sc_is_trade len_is_trade (fun cdv A outer s H vs Q E hr h => ⟨t_is_trade K, PSs.nox ?_, pure_is_trade (ofK T) h⟩)) (F.bindsN fun _ _ _ _ _ _ us hl => match us, hl with | [_], _ => rfl)
  exact (pss_cons (ps_asg (pv 0) (pg_tup rfl (pgs_cons (pg_name (i := 1) nd rfl (Or.inl rfl)) (pgs_cons (pg_name (i := 2) nd rfl (Or.inl rfl)) (pgs_cons (pg_name (i := 3) nd rfl (Or.inl rfl)) pgs_nil)))))
    (pss_one (ps_ret (pe_and (pe_callR (ok_is_trade_kind T) (hr.mono (by decide)) (kp_is_trade_kind T) rfl (T.glo 12 (x := "is_trade_kind") rfl) pass0 (pa_cons (pv 1) pa_nil)) (pe_and (pe_chain o_le o_le pe_int (pv 2) (pe_cval (pe_glob rfl (T.glo 13 (x := "Offer") rfl) rfl))) (pe_one (pe_chain o_le o_le pe_int (pv 3) (pe_cval (pe_glob rfl (T.glo 13 (x := "Offer") rfl) rfl)))))))))
theorem kp_validate_number (T : Tx K mg) : PySem.W.keepIn K (.ref (d_validate_number.at_ K)) = true := by
  obtain ⟨_, F⟩ := T.says.def_ 10 (d := d_validate_number) rfl
  exact F.kp
theorem sc_validate_number : FnScope N_validate_number ["number", "smallest", "largest"] (defScope s_validate_number) := ⟨rfl, rfl, rfl, by decide +kernel, rfl, by decide +kernel, by decide +kernel⟩
theorem ok_validate_number (T : Tx K mg) : FnR P w K mg base CX0 1 (d_validate_number.at_ K) (sp_validate_number K) := by
  obtain ⟨fd, F⟩ := T.says.def_ 10 (d := d_validate_number) rfl
  have nd := sc_validate_number.nd
  refine fnR_of (F.ok (k := 0) sc_validate_number len_validate_number (fun cdv A outer s H vs Q E hr h => ⟨t_validate_number K, PSs.nox ?_, pure_validate_number h⟩)) (F.bindsN fun _ _ _ _ _ _ us hl => match us, hl with | [_, _, _], _ => rfl)
  exact (pss_one (ps_if (pt_not (pt_chain o_le o_le (pv 1) (pv 0) (pv 2))) (pss_one ps_never) pss_nil))
theorem kp_Offer_init (T : Tx K mg) : PySem.W.keepIn K (.ref (d_Offer_init.at_ K)) = true := by
  obtain ⟨_, F⟩ := T.says.def_ 11 (d := d_Offer_init) rfl
  exact F.kp
theorem sc_Offer_init : FnScope N_Offer_init ["self", "trades"] (defScope s_Offer_init) := ⟨rfl, rfl, rfl, by decide +kernel, rfl, by decide +kernel, by decide +kernel⟩
theorem ok_Offer_init (T : Tx K mg) : FnR P w K mg base CX0 4 (d_Offer_init.at_ K) (sp_Offer_init K) := by
  obtain ⟨fd, F⟩ := T.says.def_ 11 (d := d_Offer_init) rfl
  have nd := sc_Offer_init.nd
  refine FnR.imp (fnR_star1 (k := 3) (spi := spi_Offer_init K) F sc_Offer_init (fun cdv A outer s H vs Q E hr h => ⟨t_Offer_init K, PSs.nox ?_, pure_Offer_init (ofK T) h⟩) ?_ ?_) (out_Offer_init K)
  · exact (pss_cons (ps_if (pt_cmpR (op_eqD hr.units) (pv 1) (pe_tup (pa_cl pa_nil)) (nomark _)) (pss_one ps_never) pss_nil)
    (pss_cons (ps_for PassesOwn.never rfl (pi_enumT rfl (T.fre 16 (x := "enumerate") rfl) (pa_cons (pv 1) pa_nil)) (pg_tup rfl (pgs_cons (pg_name (i := 2) nd rfl (Or.inl rfl)) (pgs_cons (pg_name (i := 3) nd rfl (Or.inl rfl)) pgs_nil))) (pss_cons (ps_setLc (i := 4) (own := [("kind", 6), ("left", 7), ("needed", 8)]) rfl nd rfl rfl (sw_true rfl rfl rfl (by decide +kernel)) (pi_tup (pe_slice sl_tupA (pv 1) po_none (po_some (pv 2)))) (blkOk_by (own := [("kind", 6), ("left", 7), ("needed", 8)]) (N := N_Offer_init) (sc := defScope s_Offer_init) (by decide +kernel)) (fun _ _ _ _ _ => (pg_tup rfl (pgs_cons (pg_name (i := 6) nd rfl (Or.inl rfl)) (pgs_cons (pg_name (i := 7) nd rfl (Or.inl rfl)) (pgs_cons (pg_name (i := 8) nd rfl (Or.inl rfl)) pgs_nil))))) (fun _ _ _ _ _ => pts_nil) (fun _ _ _ _ _ => (pv 6)))
    (pss_one (ps_if (PW.pt (pw_or (pt_cmpR op_eq (pv 2) (pe_cval (pe_glob rfl (T.glo 13 (x := "Offer") rfl) rfl)) (nomark _)) (pw_or (pt_not (pt_val (pe_callR (ok_is_trade T) (hr.mono (by decide)) (kp_is_trade T) rfl (T.glo 17 (x := "is_trade") rfl) pass0 (pa_cons (pv 3) pa_nil)))) (pw_or1 (pt_cmpR op_in_seq (pe_ix ix_tup (pv 3) pe_int (fun _ _ => rfl)) (pv 4) rfl))))) (pss_one ps_never) pss_nil))))
    (pss_cons (ps_set (i := 5) nd rfl (Or.inl rfl) (pe_callR (ok_needed_multiple T) (hr.mono (by decide)) (kp_needed_multiple T) rfl (T.glo 15 (x := "needed_multiple") rfl) pass0 (pa_cons (pv 1) pa_nil)))
    (pss_cons (ps_if (pt_cmpR o_gt (pe_op o_mul pe_int (pe_callR (ok_bought T) (hr.mono (by decide)) (kp_bought T) rfl (T.glo 3 (x := "bought") rfl) pass0 (pa_cons (pv 1) (pa_cons (pv 5) pa_nil)))) (pe_op o_mul pe_int (pv 5)) (nomark _)) (pss_one ps_never) pss_nil)
    (pss_one (ps_fld (pv 0) (pv 1) rfl))))))
  · intros; rfl
  · intros; rfl
theorem kp_Offer_call (T : Tx K mg) : PySem.W.keepIn K (.ref (d_Offer_call.at_ K)) = true := by
  obtain ⟨_, F⟩ := T.says.def_ 12 (d := d_Offer_call) rfl
  exact F.kp
theorem sc_Offer_call : FnScope N_Offer_call ["self", "bottles"] (defScope s_Offer_call) := ⟨rfl, rfl, rfl, by decide +kernel, rfl, by decide +kernel, by decide +kernel⟩
theorem ok_Offer_call (T : Tx K mg) : FnR P w K mg base CX0 5 (d_Offer_call.at_ K) (sp_Offer_call K) := by
  obtain ⟨fd, F⟩ := T.says.def_ 12 (d := d_Offer_call) rfl
  have nd := sc_Offer_call.nd
  refine fnR_of (F.ok (k := 4) sc_Offer_call len_Offer_call (fun cdv A outer s H vs Q E hr h => ⟨t_Offer_call K, PSs.nox ?_, pure_Offer_call (ofK T) h⟩)) (F.bindsN fun _ _ _ _ _ _ us hl => match us, hl with | [_, _], _ => rfl)
  exact (pss_cons (ps_expr (pe_callR (ok_validate_number T) (hr.mono (by decide)) (kp_validate_number T) rfl (T.glo 20 (x := "validate_number") rfl) pass0 (pa_cons (pv 1) (pa_cons pe_int (pa_cons (pe_glob rfl (T.int 19 (x := "MAX_BOTTLES") (i := 1000000000000000000) rfl).choose_spec ⟨_, rfl⟩) pa_nil)))))
    (pss_one (ps_ret (pe_callR (ok_total T) (hr.mono (by decide)) (kp_total T) rfl (T.glo 18 (x := "total") rfl) pass0 (pa_cons (pe_fld (pv 0) rfl) (pa_cons (pv 1) pa_nil))))))
theorem kp_fewest (T : Tx K mg) : PySem.W.keepIn K (.ref (d_fewest.at_ K)) = true := by
  obtain ⟨_, F⟩ := T.says.def_ 13 (d := d_fewest) rfl
  exact F.kp
theorem sc_fewest : FnScope N_fewest ["trades", "drinks"] (defScope s_fewest) := ⟨rfl, rfl, rfl, by decide +kernel, rfl, by decide +kernel, by decide +kernel⟩
theorem ok_fewest (T : Tx K mg) : FnR P w K mg base CX0 5 (d_fewest.at_ K) (sp_fewest K) := by
  obtain ⟨fd, F⟩ := T.says.def_ 13 (d := d_fewest) rfl
  have nd := sc_fewest.nd
  refine fnR_of (F.ok (k := 4) sc_fewest len_fewest (fun cdv A outer s H vs Q E hr h => ⟨t_fewest K, PSs.nox ?_, pure_fewest h⟩)) (F.bindsN fun _ _ _ _ _ _ us hl => match us, hl with | [_, _], _ => rfl)
  exact (pss_cons (ps_asg (pe_callR (ok_period_of T) (hr.mono (by decide)) (kp_period_of T) rfl (T.glo 6 (x := "period_of") rfl) pass0 (pa_cons (pv 0) pa_nil)) (pg_tup rfl (pgs_cons (pg_name (i := 2) nd rfl (Or.inl rfl)) (pgs_cons (pg_name (i := 3) nd rfl (Or.inl rfl)) pgs_nil))))
    (pss_cons (ps_set (i := 4) nd rfl (Or.inl rfl) (pe_op o_sub pe_int (pe_op o_fd (pe_callTy c_int rfl (T.fre 0 (x := "int") rfl) (by decide +kernel) (pa_cons (pe_op o_sub pe_int (pe_op o_mul (pe_callTy c_int rfl (T.fre 0 (x := "int") rfl) (by decide +kernel) (pa_cons (pv 1) pa_nil)) (pv 2))) pa_nil)) (pv 3))))
    (pss_cons (ps_for PassesOwn.never rfl (pi_tup (pe_tup (pa_cl (pa_cons (pv 4) (pa_cons (pe_op o_add (pv 4) pe_int) (pa_cons (pe_op o_add (pv 4) pe_int) pa_nil)))))) (pg_name (i := 5) nd rfl (Or.inl rfl)) (pss_one (ps_if (pt_cmpR o_ge (pe_callR (ok_total T) (hr.mono (by decide)) (kp_total T) rfl (T.glo 18 (x := "total") rfl) pass0 (pa_cons (pv 0) (pa_cons (pv 5) pa_nil))) (pe_callTy c_int rfl (T.fre 0 (x := "int") rfl) (by decide +kernel) (pa_cons (pv 1) pa_nil)) (nomark _)) (pss_one (ps_ret (pv 5))) pss_nil)))
    (pss_one (ps_ret (pe_op o_add (pv 4) pe_int))))))
theorem kp_Offer_missing (T : Tx K mg) : PySem.W.keepIn K (.ref (d_Offer_missing.at_ K)) = true := by
  obtain ⟨_, F⟩ := T.says.def_ 14 (d := d_Offer_missing) rfl
  exact F.kp
theorem sc_Offer_missing : GScope N_Offer_missing ["self", "first", "last"] (defScope s_Offer_missing) := ⟨rfl, rfl, rfl, by decide +kernel, rfl, by decide +kernel, by decide +kernel⟩
theorem gk_Offer_missing (T : Tx K mg) : ∃ fd, GFn P w K mg base 6 (d_Offer_missing.at_ K) fd ["self", "first", "last"] (sp_Offer_missing K) ∧ Binds K fd ["self", "first", "last"] [] := by
  obtain ⟨fd, F⟩ := T.says.def_ 14 (d := d_Offer_missing) rfl
  have nd := sc_Offer_missing.nd
  have b : Binds K fd ["self", "first", "last"] [] := F.bindsN fun _ _ _ _ _ _ us hl => match us, hl with | [_, _, _], _ => rfl
  obtain ⟨oc, od, dV, kV, doc, pm, an, cdv, ct, osl, rfl, lk, hcd, _, _⟩ := F.ex
  refine ⟨_, gfn_of (k := 5) lk hcd sc_Offer_missing len_Offer_missing fun A outer s H vs Q E pn hr h => ⟨t_Offer_missing K, ?_, pure_Offer_missing (ofK T) h⟩, b⟩
  exact (gss_cons (gs_ps (ps_expr (pe_callR (ok_validate_number T) (hr.mono (by decide)) (kp_validate_number T) rfl (T.glo 20 (x := "validate_number") rfl) pass0 (pa_cons (pv 1) (pa_cons pe_int (pa_cons (pe_glob rfl (T.int 19 (x := "MAX_BOTTLES") (i := 1000000000000000000) rfl).choose_spec ⟨_, rfl⟩) pa_nil))))))
    (gss_cons (gs_ps (ps_set (i := 3) nd rfl (Or.inl rfl) (pe_op o_sub (pe_op o_add (pv 1) (pe_glob rfl (T.int 23 (x := "MAX_LISTED") (i := 10000) rfl).choose_spec ⟨_, rfl⟩)) pe_int)))
    (gss_cons (gs_ps (ps_expr (pe_callR (ok_validate_number T) (hr.mono (by decide)) (kp_validate_number T) rfl (T.glo 20 (x := "validate_number") rfl) pass0 (pa_cons (pv 2) (pa_cons (pv 1) (pa_cons (pe_ifExp (pt_cmpR o_lt (pv 3) (pe_glob rfl (T.int 19 (x := "MAX_BOTTLES") (i := 1000000000000000000) rfl).choose_spec ⟨_, rfl⟩) (nomark _)) (pv 3) (pe_glob rfl (T.int 19 (x := "MAX_BOTTLES") (i := 1000000000000000000) rfl).choose_spec ⟨_, rfl⟩)) pa_nil))))))
    (gss_cons (gs_ps (ps_set (i := 4) nd rfl (Or.inl rfl) (pe_callR (ok_fewest T) (hr.mono (by decide)) (kp_fewest T) rfl (T.glo 22 (x := "fewest") rfl) pass0 (pa_cons (pe_fld (pv 0) rfl) (pa_cons (pv 1) pa_nil)))))
    (gss_cons (gs_for owns_gcx rfl (pi_range2 rfl (T.fre 21 (x := "range") rfl) (pa_cons (pv 1) (pa_cons (pe_op o_add (pv 2) pe_int) pa_nil))) (pg_name (i := 5) nd rfl (Or.inl rfl)) (gss_cons (gs_if (pt_cmpR op_eq (pe_callR (ok_total T) (hr.mono (by decide)) (kp_total T) rfl (T.glo 18 (x := "total") rfl) pass0 (pa_cons (pe_fld (pv 0) rfl) (pa_cons (pv 4) pa_nil))) (pv 5) (nomark _)) (gss_cons (gs_ps (ps_aug (i := 4) nd rfl (Or.inl rfl) pe_int ip_add))
    gss_nil) (gss_cons (gs_yield (pv 5))
    gss_nil))
    gss_nil))
    gss_nil)))))
theorem kp_Offer_bool (T : Tx K mg) : PySem.W.keepIn K (.ref (d_Offer_bool.at_ K)) = true := by
  obtain ⟨_, F⟩ := T.says.def_ 15 (d := d_Offer_bool) rfl
  exact F.kp
theorem sc_Offer_bool : FnScope N_Offer_bool ["self"] (defScope s_Offer_bool) := ⟨rfl, rfl, rfl, by decide +kernel, rfl, by decide +kernel, by decide +kernel⟩
theorem ok_Offer_bool (T : Tx K mg) : FnR P w K mg base CX0 1 (d_Offer_bool.at_ K) (sp_Offer_bool K) := by
  obtain ⟨fd, F⟩ := T.says.def_ 15 (d := d_Offer_bool) rfl
  have nd := sc_Offer_bool.nd
  refine fnR_of (F.ok (k := 0) sc_Offer_bool len_Offer_bool (fun cdv A outer s H vs Q E hr h => ⟨t_Offer_bool K, PSs.nox ?_, pure_Offer_bool (ofK T) h⟩)) (F.bindsN fun _ _ _ _ _ _ us hl => match us, hl with | [_], _ => rfl)
  exact (pss_one (ps_ret (pe_callB (cr_any rfl) rfl (T.fre 24 (x := "any") rfl) (by decide +kernel) (pa_cons (pe_lc (own := [("kind", 1), ("left", 2), ("needed", 3)]) rfl nd (pi_tup (pe_fld (pv 0) rfl)) (blkOk_by (own := [("kind", 1), ("left", 2), ("needed", 3)]) (N := N_Offer_bool) (sc := defScope s_Offer_bool) (by decide +kernel)) (fun _ _ _ _ _ => (pg_tup rfl (pgs_cons (pg_name (i := 1) nd rfl (Or.inl rfl)) (pgs_cons (pg_name (i := 2) nd rfl (Or.inl rfl)) (pgs_cons (pg_name (i := 3) nd rfl (Or.inl rfl)) pgs_nil))))) (fun _ _ _ _ _ => pts_nil) (fun _ _ _ _ _ => (pe_cmpR o_gt (pv 2) pe_int (nomark _)))) pa_nil))))
theorem kp_Offer_contains (T : Tx K mg) : PySem.W.keepIn K (.ref (d_Offer_contains.at_ K)) = true := by
  obtain ⟨_, F⟩ := T.says.def_ 16 (d := d_Offer_contains) rfl
  exact F.kp
theorem sc_Offer_contains : FnScope N_Offer_contains ["self", "drinks"] (defScope s_Offer_contains) := ⟨rfl, rfl, rfl, by decide +kernel, rfl, by decide +kernel, by decide +kernel⟩
theorem ok_Offer_contains (T : Tx K mg) : FnR P w K mg base CX0 6 (d_Offer_contains.at_ K) (sp_Offer_contains K) := by
  obtain ⟨fd, F⟩ := T.says.def_ 16 (d := d_Offer_contains) rfl
  have nd := sc_Offer_contains.nd
  refine fnR_of (F.ok (k := 5) sc_Offer_contains len_Offer_contains (fun cdv A outer s H vs Q E hr h => ⟨t_Offer_contains K, PSs.nox ?_, pure_Offer_contains (ofK T) h⟩)) (F.bindsN fun _ _ _ _ _ _ us hl => match us, hl with | [_, _], _ => rfl)
  exact (pss_one (ps_ret (pe_cmpR op_eq (pe_callR (ok_total T) (hr.mono (by decide)) (kp_total T) rfl (T.glo 18 (x := "total") rfl) pass0 (pa_cons (pe_fld (pv 0) rfl) (pa_cons (pe_callR (ok_fewest T) (hr.mono (by decide)) (kp_fewest T) rfl (T.glo 22 (x := "fewest") rfl) pass0 (pa_cons (pe_fld (pv 0) rfl) (pa_cons (pv 1) pa_nil))) pa_nil))) (pv 1) (nomark _))))
theorem kp_Offer_count_up_to (T : Tx K mg) : PySem.W.keepIn K (.ref (d_Offer_count_up_to.at_ K)) = true := by
  obtain ⟨_, F⟩ := T.says.def_ 17 (d := d_Offer_count_up_to) rfl
  exact F.kp
theorem sc_Offer_count_up_to : FnScope N_Offer_count_up_to ["self", "last"] (defScope s_Offer_count_up_to) := ⟨rfl, rfl, rfl, by decide +kernel, rfl, by decide +kernel, by decide +kernel⟩
theorem ok_Offer_count_up_to (T : Tx K mg) : FnR P w K mg base CX0 6 (d_Offer_count_up_to.at_ K) (sp_Offer_count_up_to K) := by
  obtain ⟨fd, F⟩ := T.says.def_ 17 (d := d_Offer_count_up_to) rfl
  have nd := sc_Offer_count_up_to.nd
  refine fnR_of (F.ok (k := 5) sc_Offer_count_up_to len_Offer_count_up_to (fun cdv A outer s H vs Q E hr h => ⟨t_Offer_count_up_to K, PSs.nox ?_, pure_Offer_count_up_to (ofK T) h⟩)) (F.bindsN fun _ _ _ _ _ _ us hl => match us, hl with | [_, _], _ => rfl)
  exact (pss_one (ps_ret (pe_op o_sub (pe_op o_add (pv 1) pe_int) (pe_callR (ok_fewest T) (hr.mono (by decide)) (kp_fewest T) rfl (T.glo 22 (x := "fewest") rfl) pass0 (pa_cons (pe_fld (pv 0) rfl) (pa_cons (pe_op o_add (pv 1) pe_int) pa_nil))))))
theorem kp_Offer_count_missing (T : Tx K mg) : PySem.W.keepIn K (.ref (d_Offer_count_missing.at_ K)) = true := by
  obtain ⟨_, F⟩ := T.says.def_ 18 (d := d_Offer_count_missing) rfl
  exact F.kp
theorem sc_Offer_count_missing : FnScope N_Offer_count_missing ["self", "last"] (defScope s_Offer_count_missing) := ⟨rfl, rfl, rfl, by decide +kernel, rfl, by decide +kernel, by decide +kernel⟩
theorem ok_Offer_count_missing (T : Tx K mg) : FnR P w K mg base CX0 7 (d_Offer_count_missing.at_ K) (sp_Offer_count_missing K) := by
  obtain ⟨fd, F⟩ := T.says.def_ 18 (d := d_Offer_count_missing) rfl
  have nd := sc_Offer_count_missing.nd
  refine fnR_of (F.ok (k := 6) sc_Offer_count_missing len_Offer_count_missing (fun cdv A outer s H vs Q E hr h => ⟨t_Offer_count_missing K, PSs.nox ?_, pure_Offer_count_missing h⟩)) (F.bindsN fun _ _ _ _ _ _ us hl => match us, hl with | [_, _], _ => rfl)
  exact (pss_cons (ps_expr (pe_callR (ok_validate_number T) (hr.mono (by decide)) (kp_validate_number T) rfl (T.glo 20 (x := "validate_number") rfl) pass0 (pa_cons (pv 1) (pa_cons pe_int (pa_cons (pe_glob rfl (T.int 19 (x := "MAX_BOTTLES") (i := 1000000000000000000) rfl).choose_spec ⟨_, rfl⟩) pa_nil)))))
    (pss_one (ps_ret (pe_methR (pv 0) (T.cls 26 (x := "Offer") rfl) (T.meth 25 (x := "Offer") (m := "count_up_to") rfl) (ok_Offer_count_up_to T) (hr.mono (by decide)) pass0 (pa_cons (pv 1) pa_nil)))))
theorem kp_Offer_nth_missing (T : Tx K mg) : PySem.W.keepIn K (.ref (d_Offer_nth_missing.at_ K)) = true := by
  obtain ⟨_, F⟩ := T.says.def_ 19 (d := d_Offer_nth_missing) rfl
  exact F.kp
theorem sc_Offer_nth_missing : FnScope N_Offer_nth_missing ["self", "number"] (defScope s_Offer_nth_missing) := ⟨rfl, rfl, rfl, by decide +kernel, rfl, by decide +kernel, by decide +kernel⟩
theorem ok_Offer_nth_missing (T : Tx K mg) : FnR P w K mg base CX0 7 (d_Offer_nth_missing.at_ K) (sp_Offer_nth_missing K) := by
  obtain ⟨fd, F⟩ := T.says.def_ 19 (d := d_Offer_nth_missing) rfl
  have nd := sc_Offer_nth_missing.nd
  refine fnR_of (F.ok (k := 6) sc_Offer_nth_missing len_Offer_nth_missing (fun cdv A outer s H vs Q E hr h => ⟨t_Offer_nth_missing K, PSs.nox ?_, pure_Offer_nth_missing h⟩)) (F.bindsN fun _ _ _ _ _ _ us hl => match us, hl with | [_, _], _ => rfl)
  exact (pss_cons (ps_expr (pe_callR (ok_validate_number T) (hr.mono (by decide)) (kp_validate_number T) rfl (T.glo 20 (x := "validate_number") rfl) pass0 (pa_cons (pv 1) (pa_cons pe_int (pa_cons (pe_glob rfl (T.int 19 (x := "MAX_BOTTLES") (i := 1000000000000000000) rfl).choose_spec ⟨_, rfl⟩) pa_nil)))))
    (pss_cons (ps_if (pt_not (pt_own (pv 0) (T.own 3 (x := "Offer") (m := "__bool__") rfl) (ok_Offer_bool T) (hr.mono (by decide)) pass0)) (pss_one (ps_ret pe_non)) pss_nil)
    (pss_cons (ps_set (i := 2) nd rfl (Or.inl rfl) pe_int)
    (pss_cons (ps_while PassesOwn.never (pt_cmpR o_lt (pe_methR (pv 0) (T.cls 26 (x := "Offer") rfl) (T.meth 25 (x := "Offer") (m := "count_up_to") rfl) (ok_Offer_count_up_to T) (hr.mono (by decide)) pass0 (pa_cons (pv 2) pa_nil)) (pv 1) (nomark _)) (pss_one (ps_aug (i := 2) nd rfl (Or.inl rfl) pe_int ip_mul)))
    (pss_cons (ps_set (i := 3) nd rfl (Or.inl rfl) pe_int)
    (pss_cons (ps_while PassesOwn.never (pt_cmpR o_lt (pv 3) (pv 2) (nomark _)) (pss_cons (ps_set (i := 4) nd rfl (Or.inl rfl) (pe_op o_fd (pe_op o_add (pv 3) (pv 2)) pe_int))
    (pss_one (ps_if (pt_cmpR o_ge (pe_methR (pv 0) (T.cls 26 (x := "Offer") rfl) (T.meth 25 (x := "Offer") (m := "count_up_to") rfl) (ok_Offer_count_up_to T) (hr.mono (by decide)) pass0 (pa_cons (pv 4) pa_nil)) (pv 1) (nomark _)) (pss_one (ps_set (i := 2) nd rfl (Or.inl rfl) (pv 4))) (pss_one (ps_set (i := 3) nd rfl (Or.inl rfl) (pe_op o_add (pv 4) pe_int)))))))
    (pss_one (ps_ret (pv 3)))))))))
theorem kp__law_mix (T : Tx K mg) : PySem.W.keepIn K (.ref (d__law_mix.at_ K)) = true := by
  obtain ⟨_, F⟩ := T.says.def_ 20 (d := d__law_mix) rfl
  exact F.kp
theorem sc__law_mix : FnScope N__law_mix ["_law_script", "_law_seed"] (defScope s__law_mix) := ⟨rfl, rfl, rfl, by decide +kernel, rfl, by decide +kernel, by decide +kernel⟩
theorem ok__law_mix (T : Tx K mg) : FnR P w K mg base CX0 1 (d__law_mix.at_ K) (sp__law_mix K) := by
  obtain ⟨fd, F⟩ := T.says.def_ 20 (d := d__law_mix) rfl
  have nd := sc__law_mix.nd
  refine fnR_of (F.ok (k := 0) sc__law_mix len__law_mix (fun cdv A outer s H vs Q E hr h => ⟨t__law_mix K, PSs.nox ?_, pure__law_mix h⟩)) (F.bindsN fun _ _ _ _ _ _ us hl => match us, hl with | [_, _], _ => rfl)
  exact (pss_cons (ps_set (i := 2) nd rfl (Or.inl rfl) (pv 1))
    (pss_cons (ps_for PassesOwn.never rfl (pi_list (pv 0)) (pg_name (i := 3) nd rfl (Or.inl rfl)) (pss_one (ps_set (i := 2) nd rfl (Or.inl rfl) (pe_op o_mod (pe_op o_add (pe_op o_add (pe_op o_mul (pv 2) pe_int) (pe_op o_mod (pv 3) pe_int)) pe_int) pe_int))))
    (pss_one (ps_ret (pe_lst (pa_cl (pa_cons (pv 2) (pa_cons (pe_callTy c_listO rfl (T.fre 27 (x := "list") rfl) (by decide +kernel) (pa_cons (pv 0) pa_nil)) (pa_cons pe_int pa_nil)))))))))
theorem kp__law_next (T : Tx K mg) : PySem.W.keepIn K (.ref (d__law_next.at_ K)) = true := by
  obtain ⟨_, F⟩ := T.says.def_ 21 (d := d__law_next) rfl
  exact F.kp
theorem sc__law_next : FnScope N__law_next ["_law_h", "_law_limit"] (defScope s__law_next) := ⟨rfl, rfl, rfl, by decide +kernel, rfl, by decide +kernel, by decide +kernel⟩
theorem ok__law_next (T : Tx K mg) : FnR P w K mg base CX0 1 (d__law_next.at_ K) (sp__law_next K) := by
  obtain ⟨fd, F⟩ := T.says.def_ 21 (d := d__law_next) rfl
  have nd := sc__law_next.nd
  refine fnR_of (F.ok (k := 0) sc__law_next len__law_next (fun cdv A outer s H vs Q E hr h => ⟨t__law_next K, PSs.nox ?_, pure__law_next h⟩)) (F.bindsN fun _ _ _ _ _ _ us hl => match us, hl with | [_, _], _ => rfl)
  exact (pss_cons (ps_set (i := 2) nd rfl (Or.inl rfl) (pe_ix ix_list (pe_op op_cat (pe_ix ix_list (pv 0) pe_int (fun _ _ => rfl)) (pe_lst (pa_cl (pa_cons pe_int pa_nil)))) (pe_op o_mod (pe_ix ix_list (pv 0) pe_int (fun _ _ => rfl)) (pe_callB (c_mx2 rfl) rfl (T.fre 28 (x := "max") rfl) (by decide +kernel) (pa_cons pe_int (pa_cons (pe_callB c_len rfl (T.fre 7 (x := "len") rfl) (by decide +kernel) (pa_cons (pe_ix ix_list (pv 0) pe_int (fun _ _ => rfl)) pa_nil)) pa_nil)))) (fun _ _ => rfl)))
    (pss_cons (ps_if (pt_cmpR o_ge (pv 2) (pe_op o_pow pe_int pe_int) (nomark _)) (pss_cons (ps_asg (pe_op o_fdW (pv 2) (pv 1)) (pg_sub (pe_ix ix_list (pv 0) pe_int (fun _ _ => rfl)) (pe_op o_mod (pe_ix ix_list (pv 0) pe_int (fun _ _ => rfl)) (pe_callB c_len rfl (T.fre 7 (x := "len") rfl) (by decide +kernel) (pa_cons (pe_ix ix_list (pv 0) pe_int (fun _ _ => rfl)) pa_nil))) set_list))
    (pss_one (ps_ret (pe_op o_mod (pv 2) (pv 1))))) pss_nil)
    (pss_cons (ps_asg (pe_op o_mod (pe_op o_add (pe_op o_add (pe_op o_mul (pe_ix ix_list (pv 0) pe_int (fun _ _ => rfl)) pe_int) (pe_op o_mul (pv 2) pe_int)) pe_int) pe_int) (pg_sub (pv 0) pe_int set_list))
    (pss_cons (ps_asg (pe_op o_add (pe_ix ix_list (pv 0) pe_int (fun _ _ => rfl)) pe_int) (pg_sub (pv 0) pe_int set_list))
    (pss_one (ps_ret (pe_op o_mod (pe_op o_fd (pe_ix ix_list (pv 0) pe_int (fun _ _ => rfl)) pe_int) (pv 1))))))))
theorem kp__law_alike (T : Tx K mg) : PySem.W.keepIn K (.ref (d__law_alike.at_ K)) = true := by
  obtain ⟨_, F⟩ := T.says.def_ 22 (d := d__law_alike) rfl
  exact F.kp
theorem sc__law_alike : FnScope N__law_alike ["_law_found", "_law_due"] (defScope s__law_alike) := ⟨rfl, rfl, rfl, by decide +kernel, rfl, by decide +kernel, by decide +kernel⟩
theorem ok__law_alike (T : Tx K mg) : ∀ n, FnR P w K mg base CX0 n (d__law_alike.at_ K) (sp_alike n)
  | 0 => fun _ _ _ _ _ _ _ _ _ _ _ z => nomatch z
  | n + 1 => by
    have ih : FnR P w K mg base CX0 n (d__law_alike.at_ K) (sp_alike n) := ok__law_alike T n
    obtain ⟨fd, F⟩ := T.says.def_ 22 (d := d__law_alike) rfl
    have nd := sc__law_alike.nd
    refine fnR_of (F.ok (k := n) sc__law_alike (len_alike (n + 1)) (fun cdv A outer s H vs Q E hr h => ⟨t__law_alike K (sp_alike n), PSs.nox ?_, pure_alike h⟩)) (F.bindsN fun _ _ _ _ _ _ us hl => match us, hl with | [_, _], _ => rfl)
    exact (pss_cons (ps_if (pt_val (pe_callB call_isi rfl (T.fre 29 (x := "isinstance") rfl) (by decide +kernel) (pa_cons (pv 1) (pa_cons (pe_bltn rfl (T.fre 34 (x := "dict") rfl) (by decide +kernel) rfl) pa_nil)))) (pss_one (ps_ret (pe_and (pe_callB call_isi rfl (T.fre 29 (x := "isinstance") rfl) (by decide +kernel) (pa_cons (pv 0) (pa_cons (pe_bltn rfl (T.fre 34 (x := "dict") rfl) (by decide +kernel) rfl) pa_nil))) (pe_and (pe_callR ih hr (kp__law_alike T) rfl (T.glo 33 (x := "_law_alike") rfl) pass0 (pa_cons (pe_callTy (call_list_dK rfl) rfl (T.fre 27 (x := "list") rfl) (by decide +kernel) (pa_cons (pv 0) pa_nil)) (pa_cons (pe_callTy (call_list_dK rfl) rfl (T.fre 27 (x := "list") rfl) (by decide +kernel) (pa_cons (pv 1) pa_nil)) pa_nil))) (pe_one (pe_cmpR (op_eqX hr.units) (pv 0) (pv 1) (nomark _))))))) pss_nil)
    (pss_cons (ps_if (pt_val (pe_callB call_isiT rfl (T.fre 29 (x := "isinstance") rfl) (by decide +kernel) (pa_cons (pv 1) (pa_cons (pe_tup (pa_cl (pa_cons (pe_bltn rfl (T.fre 32 (x := "tuple") rfl) (by decide +kernel) rfl) (pa_cons (pe_bltn rfl (T.fre 27 (x := "list") rfl) (by decide +kernel) rfl) pa_nil)))) pa_nil)))) (pss_cons (ps_if (PW.pt (pw_or (pt_not (pt_val (pe_callB call_isiT rfl (T.fre 29 (x := "isinstance") rfl) (by decide +kernel) (pa_cons (pv 0) (pa_cons (pe_tup (pa_cl (pa_cons (pe_bltn rfl (T.fre 32 (x := "tuple") rfl) (by decide +kernel) rfl) (pa_cons (pe_bltn rfl (T.fre 27 (x := "list") rfl) (by decide +kernel) rfl) pa_nil)))) pa_nil))))) (pw_or1 (pt_cmpR op_ne (pe_callB call_isi rfl (T.fre 29 (x := "isinstance") rfl) (by decide +kernel) (pa_cons (pv 0) (pa_cons (pe_bltn rfl (T.fre 27 (x := "list") rfl) (by decide +kernel) rfl) pa_nil))) (pe_callB call_isi rfl (T.fre 29 (x := "isinstance") rfl) (by decide +kernel) (pa_cons (pv 1) (pa_cons (pe_bltn rfl (T.fre 27 (x := "list") rfl) (by decide +kernel) rfl) pa_nil))) (nomark _))))) (pss_one (ps_ret pe_bl)) pss_nil)
    (pss_cons (ps_if (pt_cmpR op_ne (pe_callB c_len rfl (T.fre 7 (x := "len") rfl) (by decide +kernel) (pa_cons (pv 0) pa_nil)) (pe_callB c_len rfl (T.fre 7 (x := "len") rfl) (by decide +kernel) (pa_cons (pv 1) pa_nil)) (nomark _)) (pss_one (ps_ret pe_bl)) pss_nil)
    (pss_one (ps_ret (pe_cmpR (op_eqD hr.units) (pe_lc (own := [("_law_k", 2)]) rfl nd (pi_range1 rfl (T.fre 21 (x := "range") rfl) (pa_cons (pe_callB c_len rfl (T.fre 7 (x := "len") rfl) (by decide +kernel) (pa_cons (pv 1) pa_nil)) pa_nil)) (blkOk_by (own := [("_law_k", 2)]) (N := N__law_alike) (sc := defScope s__law_alike) (by decide +kernel)) (fun _ _ _ _ _ => (pg_name (i := 2) nd rfl (Or.inl rfl))) (fun _ _ _ _ _ => (pts_one (pt_not (pt_val (pe_callR ih hr (kp__law_alike T) rfl (T.glo 33 (x := "_law_alike") rfl) pass0 (pa_cons (pe_ix ix_any (pv 0) (pv 2) (fun _ _ => rfl)) (pa_cons (pe_ix ix_any (pv 1) (pv 2) (fun _ _ => rfl)) pa_nil))))))) (fun _ _ _ _ _ => (pv 2))) (pe_lst (pa_cl pa_nil)) (nomark _)))))) pss_nil)
    (pss_cons (ps_if (PW.pt (pw_or (pt_cmpR op_isN1 (pv 1) pe_non (nomark _)) (pw_or1 (pt_val (pe_callB call_isi rfl (T.fre 29 (x := "isinstance") rfl) (by decide +kernel) (pa_cons (pv 1) (pa_cons (pe_bltn rfl (T.fre 31 (x := "str") rfl) (by decide +kernel) rfl) pa_nil))))))) (pss_one (ps_ret (pe_and (pe_cmpR (op_eqX hr.units) (pv 0) (pv 1) (nomark _)) (pe_one (pe_cmpR op_eq (pe_callB call_isi rfl (T.fre 29 (x := "isinstance") rfl) (by decide +kernel) (pa_cons (pv 0) (pa_cons (pe_bltn rfl (T.fre 31 (x := "str") rfl) (by decide +kernel) rfl) pa_nil))) (pe_callB call_isi rfl (T.fre 29 (x := "isinstance") rfl) (by decide +kernel) (pa_cons (pv 1) (pa_cons (pe_bltn rfl (T.fre 31 (x := "str") rfl) (by decide +kernel) rfl) pa_nil))) (nomark _)))))) pss_nil)
    (pss_one (ps_ret (pe_and (pe_callB call_isi rfl (T.fre 29 (x := "isinstance") rfl) (by decide +kernel) (pa_cons (pv 0) (pa_cons (pe_bltn rfl (T.fre 0 (x := "int") rfl) (by decide +kernel) rfl) pa_nil))) (pe_and (pe_cmpR op_eq (pe_callB call_isi rfl (T.fre 29 (x := "isinstance") rfl) (by decide +kernel) (pa_cons (pv 0) (pa_cons (pe_bltn rfl (T.fre 30 (x := "bool") rfl) (by decide +kernel) rfl) pa_nil))) (pe_callB call_isi rfl (T.fre 29 (x := "isinstance") rfl) (by decide +kernel) (pa_cons (pv 1) (pa_cons (pe_bltn rfl (T.fre 30 (x := "bool") rfl) (by decide +kernel) rfl) pa_nil))) (nomark _)) (pe_one (pe_cmpR (op_eqX hr.units) (pv 0) (pv 1) (nomark _))))))))))
theorem kp__law_trades (T : Tx K mg) : PySem.W.keepIn K (.ref (d__law_trades.at_ K)) = true := by
  obtain ⟨_, F⟩ := T.says.def_ 23 (d := d__law_trades) rfl
  exact F.kp
theorem sc__law_trades : FnScope N__law_trades ["_law_h", "_law_most", "_law_largest"] (defScope s__law_trades) := ⟨rfl, rfl, rfl, by decide +kernel, rfl, by decide +kernel, by decide +kernel⟩
theorem ok__law_trades (T : Tx K mg) : FnR P w K mg base CX0 2 (d__law_trades.at_ K) (sp__law_trades K) := by
  obtain ⟨fd, F⟩ := T.says.def_ 23 (d := d__law_trades) rfl
  have nd := sc__law_trades.nd
  refine fnR_of (F.ok (k := 1) sc__law_trades len__law_trades (fun cdv A outer s H vs Q E hr h => ⟨t__law_trades K, PSs.nox ?_, pure__law_trades h⟩)) (F.bindsN fun _ _ _ _ _ _ us hl => match us, hl with | [_, _, _], _ => rfl)
  exact (pss_cons (ps_par rfl nd (i := 3) (j := 4) rfl rfl (by decide) rfl rfl (pa_cons (pe_lst (pa_cl pa_nil)) (pa_cons pe_int pa_nil)) rfl)
    (pss_cons (ps_for PassesOwn.never rfl (pi_list (pe_slice sl_list (pe_lst (pa_cl (pa_cons pe_str (pa_cons pe_str (pa_cons pe_str pa_nil))))) po_none (po_some (pe_op o_add pe_int (pe_callR (ok__law_next T) (hr.mono (by decide)) (kp__law_next T) rfl (T.glo 35 (x := "_law_next") rfl) pass0 (pa_cons (pv 0) (pa_cons (pv 1) pa_nil))))))) (pg_name (i := 5) nd rfl (Or.inl rfl)) (pss_cons (ps_set (i := 6) nd rfl (Or.inl rfl) (pe_op o_add pe_int (pe_callR (ok__law_next T) (hr.mono (by decide)) (kp__law_next T) rfl (T.glo 35 (x := "_law_next") rfl) pass0 (pa_cons (pv 0) (pa_cons (pv 2) pa_nil)))))
    (pss_cons (ps_set (i := 7) nd rfl (Or.inl rfl) (pe_callR (ok__law_next T) (hr.mono (by decide)) (kp__law_next T) rfl (T.glo 35 (x := "_law_next") rfl) pass0 (pa_cons (pv 0) (pa_cons (pe_op o_add (pv 6) pe_int) pa_nil))))
    (pss_cons (ps_while PassesOwn.never (pt_cmpR o_gt (pe_op o_mul pe_int (pe_op o_add (pe_op o_mul (pv 4) (pv 6)) (pe_op o_mul (pv 7) pe_int))) (pe_op o_mul (pe_op o_mul pe_int pe_int) (pv 6)) (nomark _)) (pss_one (ps_set (i := 7) nd rfl (Or.inl rfl) (pe_op o_sub (pv 7) pe_int))))
    (pss_cons (ps_set (i := 4) nd rfl (Or.inl rfl) (pe_op o_add (pv 4) (pe_op o_fd (pe_op o_mul (pv 7) pe_int) (pv 6))))
    (pss_one (ps_expr (pe_bm PySem.F.plainAttrs_list PySem.F.slot_list_append PySem.F.type_list_append mt_append (pv 3) (pa_cons (pe_tup (pa_cl (pa_cons (pv 5) (pa_cons (pv 7) (pa_cons (pv 6) pa_nil))))) pa_nil)))))))))
    (pss_one (ps_ret (pe_callTy c_tupO rfl (T.fre 32 (x := "tuple") rfl) (by decide +kernel) (pa_cons (pv 3) pa_nil))))))
theorem kp__law_offer (T : Tx K mg) : PySem.W.keepIn K (.ref (d__law_offer.at_ K)) = true := by
  obtain ⟨_, F⟩ := T.says.def_ 24 (d := d__law_offer) rfl
  exact F.kp
theorem sc__law_offer : FnScope N__law_offer ["_law_trades_here"] (defScope s__law_offer) := ⟨rfl, rfl, rfl, by decide +kernel, rfl, by decide +kernel, by decide +kernel⟩
theorem ok__law_offer (T : Tx K mg) : FnR P w K mg base CX0 6 (d__law_offer.at_ K) (sp__law_offer K) := by
  obtain ⟨fd, F⟩ := T.says.def_ 24 (d := d__law_offer) rfl
  have nd := sc__law_offer.nd
  refine fnR_of (F.ok (k := 5) sc__law_offer len__law_offer (fun cdv A outer s H vs Q E hr h => ⟨t__law_offer K, PSs.nox ?_, pure__law_offer h⟩)) (F.bindsN fun _ _ _ _ _ _ us hl => match us, hl with | [_], _ => rfl)
  exact (pss_cons (ps_if (pt_cmpR op_eq (pe_callB c_len rfl (T.fre 7 (x := "len") rfl) (by decide +kernel) (pa_cons (pv 0) pa_nil)) pe_int (nomark _)) (pss_one (ps_ret (pe_makeR (T.mkr 36 (x := "Offer") rfl) (ok_Offer_init T) (hr.mono (by decide)) rfl (T.glo 13 (x := "Offer") rfl) pass0 (pa_cl (pa_cons (pe_ix ix_tup (pv 0) pe_int (fun _ _ => rfl)) pa_nil))))) pss_nil)
    (pss_one (ps_ret (pe_ifExp (pt_cmpR op_eq (pe_callB c_len rfl (T.fre 7 (x := "len") rfl) (by decide +kernel) (pa_cons (pv 0) pa_nil)) pe_int (nomark _)) (pe_makeR (T.mkr 36 (x := "Offer") rfl) (ok_Offer_init T) (hr.mono (by decide)) rfl (T.glo 13 (x := "Offer") rfl) pass0 (pa_cl (pa_cons (pe_ix ix_tup (pv 0) pe_int (fun _ _ => rfl)) (pa_cons (pe_ix ix_tup (pv 0) pe_int (fun _ _ => rfl)) pa_nil)))) (pe_makeR (T.mkr 36 (x := "Offer") rfl) (ok_Offer_init T) (hr.mono (by decide)) rfl (T.glo 13 (x := "Offer") rfl) pass0 (pa_cl (pa_cons (pe_ix ix_tup (pv 0) pe_int (fun _ _ => rfl)) (pa_cons (pe_ix ix_tup (pv 0) pe_int (fun _ _ => rfl)) (pa_cons (pe_ix ix_tup (pv 0) pe_int (fun _ _ => rfl)) pa_nil)))))))))
theorem kp_law (T : Tx K mg) : PySem.W.keepIn K (.ref (d_law.at_ K)) = true := by
  obtain ⟨_, F⟩ := T.says.def_ 25 (d := d_law) rfl
  exact F.kp
theorem sc_law : FnScope N_law ["_law_script"] (defScope s_law) := ⟨rfl, rfl, rfl, by decide +kernel, rfl, by decide +kernel, by decide +kernel⟩
theorem ok_law (T : Tx K mg) {f : Addr} {fd : FuncData} (F : FunD K "law" "law" (defArgs s_law) (defBody s_law) (defScope s_law) [] [] f fd) : FnOk P w K mg base CX0 10 f fd ["_law_script"] (sp_law K) := by
  have nd := sc_law.nd
  refine F.ok (k := 9) sc_law len_law (fun cdv A outer s H vs Q E hr h => ⟨t_law K, PSs.nox ?_, pure_law h⟩)
  exact (pss_cons (ps_set (i := 1) nd rfl (Or.inl rfl) (pe_callR (ok__law_mix T) (hr.mono (by decide)) (kp__law_mix T) rfl (T.glo 42 (x := "_law_mix") rfl) pass0 (pa_cons (pv 0) (pa_cons pe_int pa_nil))))
    (pss_cons (ps_for PassesOwn.never rfl (pi_range1 rfl (T.fre 21 (x := "range") rfl) (pa_cons pe_int pa_nil)) (pg_name (i := 2) nd rfl (Or.inl rfl)) (pss_cons (ps_set (i := 3) nd rfl (Or.inl rfl) (pe_callR (ok__law_trades T) (hr.mono (by decide)) (kp__law_trades T) rfl (T.glo 41 (x := "_law_trades") rfl) pass0 (pa_cons (pv 1) (pa_cons pe_int (pa_cons pe_int pa_nil)))))
    (pss_cons (ps_set (i := 4) nd rfl (Or.inr rfl) (pe_callR (ok__law_offer T) (hr.mono (by decide)) (kp__law_offer T) rfl (T.glo 40 (x := "_law_offer") rfl) pass0 (pa_cons (pv 3) pa_nil)))
    (pss_cons (ps_set (i := 5) nd rfl (Or.inl rfl) (pe_callR (ok__law_next T) (hr.mono (by decide)) (kp__law_next T) rfl (T.glo 35 (x := "_law_next") rfl) pass0 (pa_cons (pv 1) (pa_cons (pe_ix ix_list (pe_lst (pa_cl (pa_cons pe_int (pa_cons (pe_op o_pow pe_int pe_int) pa_nil)))) (pe_callR (ok__law_next T) (hr.mono (by decide)) (kp__law_next T) rfl (T.glo 35 (x := "_law_next") rfl) pass0 (pa_cons (pv 1) (pa_cons pe_int pa_nil))) (fun _ _ => rfl)) pa_nil))))
    (pss_cons (ps_set (i := 6) nd rfl (Or.inl rfl) (pe_op o_add (pv 5) (pe_callR (ok__law_next T) (hr.mono (by decide)) (kp__law_next T) rfl (T.glo 35 (x := "_law_next") rfl) pass0 (pa_cons (pv 1) (pa_cons pe_int pa_nil)))))
    (pss_cons (ps_set (i := 7) nd rfl (Or.inl rfl) (pe_listG (pgen_meth (E := E0) (pv 4) (T.cls 26 (x := "Offer") rfl) (T.meth 39 (x := "Offer") (m := "missing") rfl) (gk_Offer_missing T).choose_spec.1 (hr.mono (by decide)) (gk_Offer_missing T).choose_spec.2 .nil (pa_cons (pv 5) (pa_cons (pv 6) pa_nil))) passE0 noStop0 (hr.mono (by decide)) rfl (T.fre 27 (x := "list") rfl) (by decide +kernel)))
    (pss_cons (ps_if (pt_not (pt_val (pe_callR (ok__law_alike T 4) (hr.mono (by decide)) (kp__law_alike T) rfl (T.glo 33 (x := "_law_alike") rfl) pass0 (pa_cons (pv 7) (pa_cons (pe_lc (own := [("_law_d", 12)]) rfl nd (pi_range2 rfl (T.fre 21 (x := "range") rfl) (pa_cons (pv 5) (pa_cons (pe_op o_add (pv 6) pe_int) pa_nil))) (blkOk_by (own := [("_law_d", 12)]) (N := N_law) (sc := defScope s_law) (by decide +kernel)) (fun _ _ _ _ _ => (pg_name (i := 12) nd rfl (Or.inl rfl))) (fun _ _ _ _ _ => (pts_one (pt_cmpR (op_notInO (T.own 4 (x := "Offer") (m := "__contains__") rfl) (ok_Offer_contains T) (hr.mono (by decide)) pass0) (pv 12) (pv 4) rfl))) (fun _ _ _ _ _ => (pv 12))) pa_nil))))) (pss_one (ps_ret pe_bl)) pss_nil)
    (pss_cons (ps_set (i := 8) nd rfl (Or.inl rfl) (pe_ifExp (pt_cmpR o_gt (pv 5) pe_int (nomark _)) (pe_methR (pv 4) (T.cls 26 (x := "Offer") rfl) (T.meth 37 (x := "Offer") (m := "count_missing") rfl) (ok_Offer_count_missing T) (hr.mono (by decide)) pass0 (pa_cons (pe_op o_sub (pv 5) pe_int) pa_nil)) pe_int))
    (pss_cons (ps_if (pt_not (pt_val (pe_callR (ok__law_alike T 4) (hr.mono (by decide)) (kp__law_alike T) rfl (T.glo 33 (x := "_law_alike") rfl) pass0 (pa_cons (pe_methR (pv 4) (T.cls 26 (x := "Offer") rfl) (T.meth 37 (x := "Offer") (m := "count_missing") rfl) (ok_Offer_count_missing T) (hr.mono (by decide)) pass0 (pa_cons (pv 6) pa_nil)) (pa_cons (pe_op o_add (pv 8) (pe_callB c_len rfl (T.fre 7 (x := "len") rfl) (by decide +kernel) (pa_cons (pv 7) pa_nil))) pa_nil))))) (pss_one (ps_ret pe_bl)) pss_nil)
    (pss_cons (ps_set (i := 9) nd rfl (Or.inr rfl) (pe_listG (pgen_meth (E := E0) (pv 4) (T.cls 26 (x := "Offer") rfl) (T.meth 39 (x := "Offer") (m := "missing") rfl) (gk_Offer_missing T).choose_spec.1 (hr.mono (by decide)) (gk_Offer_missing T).choose_spec.2 .nil (pa_cons pe_int (pa_cons pe_int pa_nil))) passE0 noStop0 (hr.mono (by decide)) rfl (T.fre 27 (x := "list") rfl) (by decide +kernel)))
    (pss_cons (ps_if (pt_not (pt_val (pe_callR (ok__law_alike T 4) (hr.mono (by decide)) (kp__law_alike T) rfl (T.glo 33 (x := "_law_alike") rfl) pass0 (pa_cons (pe_methR (pv 4) (T.cls 26 (x := "Offer") rfl) (T.meth 37 (x := "Offer") (m := "count_missing") rfl) (ok_Offer_count_missing T) (hr.mono (by decide)) pass0 (pa_cons pe_int pa_nil)) (pa_cons (pe_callB c_len rfl (T.fre 7 (x := "len") rfl) (by decide +kernel) (pa_cons (pv 9) pa_nil)) pa_nil))))) (pss_one (ps_ret pe_bl)) pss_nil)
    (pss_cons (ps_if (pt_cmpR (op_neD hr.units) (pe_lc (own := [("_law_k", 13)]) rfl nd (pi_range1 rfl (T.fre 21 (x := "range") rfl) (pa_cons (pe_callB c_len rfl (T.fre 7 (x := "len") rfl) (by decide +kernel) (pa_cons (pv 9) pa_nil)) pa_nil)) (blkOk_by (own := [("_law_k", 13)]) (N := N_law) (sc := defScope s_law) (by decide +kernel)) (fun _ _ _ _ _ => (pg_name (i := 13) nd rfl (Or.inl rfl))) (fun _ _ _ _ _ => (pts_one (pt_cmpR op_ne (pe_methR (pv 4) (T.cls 26 (x := "Offer") rfl) (T.meth 38 (x := "Offer") (m := "nth_missing") rfl) (ok_Offer_nth_missing T) (hr.mono (by decide)) pass0 (pa_cons (pe_op o_add (pv 13) pe_int) pa_nil)) (pe_ix ix_list (pv 9) (pv 13) (fun _ _ => rfl)) (nomark _)))) (fun _ _ _ _ _ => (pv 13))) (pe_lst (pa_cl pa_nil)) (nomark _)) (pss_one (ps_ret pe_bl)) pss_nil)
    (pss_cons (ps_set (i := 10) nd rfl (Or.inl rfl) (pe_op o_add pe_int (pe_callR (ok__law_next T) (hr.mono (by decide)) (kp__law_next T) rfl (T.glo 35 (x := "_law_next") rfl) pass0 (pa_cons (pv 1) (pa_cons (pe_op o_pow pe_int pe_int) pa_nil)))))
    (pss_cons (ps_set (i := 11) nd rfl (Or.inl rfl) (pe_methR (pv 4) (T.cls 26 (x := "Offer") rfl) (T.meth 38 (x := "Offer") (m := "nth_missing") rfl) (ok_Offer_nth_missing T) (hr.mono (by decide)) pass0 (pa_cons (pv 10) pa_nil)))
    (pss_one (ps_if (pt_not (pt_val (pe_boolO (pv 4) (T.own 3 (x := "Offer") (m := "__bool__") rfl) (ok_Offer_bool T) (hr.mono (by decide)).in1.in1 pass0 rfl (T.fre 30 (x := "bool") rfl) (by decide +kernel)))) (pss_one (ps_if (PW.pt (pw_or (pt_cmpR op_notN1 (pv 11) pe_non (nomark _)) (pw_or1 (pt_cmpR (op_neD hr.units) (pv 9) (pe_lst (pa_cl pa_nil)) (nomark _))))) (pss_one (ps_ret pe_bl)) pss_nil)) (pss_one (ps_if (PW.pt (pw_or (pt_cmpR (op_inO (T.own 4 (x := "Offer") (m := "__contains__") rfl) (ok_Offer_contains T) (hr.mono (by decide)) pass0) (pv 11) (pv 4) rfl) (pw_or1 (PW.pt (pw_and (pt_cmpR o_le (pv 11) (pe_op o_pow pe_int pe_int) (nomark _)) (pw_and1 (pt_cmpR op_ne (pe_methR (pv 4) (T.cls 26 (x := "Offer") rfl) (T.meth 37 (x := "Offer") (m := "count_missing") rfl) (ok_Offer_count_missing T) (hr.mono (by decide)) pass0 (pa_cons (pv 11) pa_nil)) (pv 10) (nomark _)))))))) (pss_one (ps_ret pe_bl)) pss_nil))))))))))))))))))
    (pss_one (ps_ret pe_bl))))
end
end EB
namespace EB
open PySem PySem.Spec PyProof.Rows L2
abbrev theRow : PySem.W.OpenRow := PySem.W.OpenLaw.row PySem.Challenge.rw_emptiesback_k08_whole_numbers_that_are_m
def ob (s : PySem.W.SharedT) : AlM := obsM 5 fa fn fb (HandSHeadRun.getT s)
theorem ob_eq (s : PySem.W.SharedT) : ob s = (hookM 5 fa fn fb).obs s.abs := obsM_eq (HandSHeadRun.getT_eq s)
def names : List Str := (["_wall", "MAX_BOTTLES", "common_divisor", "common_multiple", "bought", "least_point", "total", "needed_multiple", "period_of", "steady_begin", "fewest", "common_of", "is_never_more", "first_gap", "TradeError", "InvalidOffer", "TooGenerous", "UnknownKind", "InvalidNumber", "LETTERS", "MAX_LETTERS", "MAX_LISTED", "is_kind", "is_trade_kind"] : List Str) ++ (["is_trade", "validate_number", "Offer", "_law_mix", "_law_next", "_law_alike", "_law_trades", "_law_offer", "_law_buys"] : List Str)
theorem run (w : World) : HandSHeadRun.RunEq theRow (PySem.W.view theRow.prog [38]) (hookM 5 fa fn fb) ob 4000 names w := by
  intro os
  kernel_rfl
theorem facts {P : Program} {w : World} {K : PySem.W.Frag} {h : Heap} {mg : Str → Option Value} {f : Addr} (X : K.In h) (G : h.Ns mainGlobals mg) (hfa : mg ("law" : Str) = some (.ref f)) (c : He5.SaysA fa fn K) (m : (fb.all fun f => f.ok K) = true) :
    ∃ fd : FuncData, (∀ (s : Shared) (v : Value), BindsTo s fd ⟨[v], []⟩ [("_law_script", v)]) ∧ ∀ base : Heap, K.In base → base.Ns mainGlobals mg → FnOk P w K mg base CX0 10 f fd ["_law_script"] (sp_law K) := by
  have T : Tx K mg := tx0_of X G c m
  obtain ⟨fd, F⟩ := c.def_ 25 (d := d_law) rfl
  have e := hfa.symm.trans (T.glo 43 (x := "law") rfl)
  cases e
  have b := FunD.bindsA (ps := ["_law_script"]) F fun _ _ _ _ _ _ us hl => match us, hl with | [_], _ => rfl
  exact ⟨fd, fun s v => b s [v] rfl, fun base _ _ => ok_law T F⟩
end EB
open PySem PySem.W PySem.Calls PyProof.Rows
set_option maxHeartbeats 0
theorem PySem.Challenge.cw_emptiesback_k08_whole_numbers_that_are_m_holds : PySem.Challenge.rw_emptiesback_k08_whole_numbers_that_are_m.Holds := by
  w_on; o_law
  refine HandSHeadRun.head_any (r := OpenLaw.row PySem.Challenge.rw_emptiesback_k08_whole_numbers_that_are_m) (q := view (OpenLaw.row PySem.Challenge.rw_emptiesback_k08_whole_numbers_that_are_m).prog [38]) (H := EB.hookM 5 EB.fa EB.fn EB.fb) (ob := EB.ob) (M := 4000) (loose := EB.names) (d := HandSHeadRun.topDef (OpenLaw.row PySem.Challenge.rw_emptiesback_k08_whole_numbers_that_are_m).prog 38) (kwd := []) EB.ob_eq
    (by kernel_rfl) (fun s => by kernel_rfl) EB.run (by kernel_rfl) (by kernel_rfl) (by kernel_rfl) (by rfl) (by first | assumption | decide +kernel) (by decide +kernel) ⟨rfl, rfl, rfl, rfl, rfl, by decide +kernel⟩ ?hw ?hc
  case hw => w_witness2
  case hc =>
    refine L2.walk_ofE (l := PySem.Challenge.rw_emptiesback_k08_whole_numbers_that_are_m) (n := 63) (k := 10) (x := "_law_script") (CX := L2.CX0) rfl (by decide) (by kernel_rfl) ⟨rfl, by decide, by decide⟩ ?F (fun _ _ _ _ z => z)
    intro w mg fa h Y G hmg0
    obtain ⟨K, KX, c, m⟩ := Y
    have hmg : mg ("law" : PySem.Str) = some (.ref fa) := by
      have e : (HandSHeadRun.topDef (OpenLaw.row PySem.Challenge.rw_emptiesback_k08_whole_numbers_that_are_m).prog 38).name = ("law" : PySem.Str) := by kernel_rfl
      rw [← e]
      exact hmg0
    obtain ⟨fd, hb, hF⟩ := EB.facts (P := (PySem.Challenge.rw_emptiesback_k08_whole_numbers_that_are_m).prog) (w := w) KX G hmg c m
    exact ⟨K, fd, EB.sp_law K, KX, hb, fun H a ns hl _ hS => ⟨a, ns, rfl, hS, hl, fun _ => rfl⟩, hF⟩
