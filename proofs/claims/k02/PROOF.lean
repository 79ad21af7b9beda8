import PyProof.Rows.All
import Wide.All
import OpenK.AllK
import Wide.FinOn
import HandS.ForMost
import HandS.ForExc
import HandS.IsInst
import HandS.Wide
import HandS.EndBits
import KE.RegMulBits
import HandS.TryMany
import PySem.Challenge.RW_splitheap_k02_most_work
set_option Elab.async false
set_option linter.all false
set_option maxRecDepth 100000
set_option maxHeartbeats 4000000
/-! ### the walk: routine steps; w_ix by facts in the context -/
local macro_rules | `(tactic| walk_at "s1") => `(tactic| with_reducible first
  | (refine G.x_var rfl ?_)
  | (refine G.x_c ?_)
  | (refine G.x_op ?_)
  | (refine G.x_I0 ?_)
  | (refine G.x_seq ?_)
  | (refine G.x_asg ?_)
  | (refine G.x_ret ?_)
  | (refine G.x_drop ?_)
  | (refine G.x_next ?_)
  | (refine G.x_ifS ?_)
  | (refine G.x_tTest ?_)
  | (refine G.x_tB ?_)
  | (refine G.x_bl ?_)
  | (refine G.x_and ?_)
  | (refine G.x_or ?_)
  | (refine G.x_not ?_)
  | (refine G.x_andV ?_)
  | (refine G.x_orV ?_)
  | (refine G.x_notV ?_)
  | (refine G.x_chain ?_)
  | (refine G.x_nil ?_)
  | (refine G.x_cons ?_)
  | (refine G.x_tup ?_)
  | (refine G.x_lst ?_)
  | (refine G.x_call ?_)
  | (refine G.x_meth ?_)
  | (refine G.x_cb ?_)
  | (refine G.x_fld ?_)
  | (refine G.x_sfld ?_)
  | (refine G.x_un ?_)
  | (refine G.x_U ?_)
  | (refine G.x_eqI ?_)
  | (refine G.x_neI ?_)
  | (refine G.x_isN ?_)
  | (refine G.x_notN ?_)
  | (refine G.x_max2 ?_)
  | (refine G.x_min2 ?_)
  | (refine G.x_abs ?_)
  | (refine G.x_asgG ?_)
  | (refine G.x_retN ?_))
local macro_rules | `(tactic| walk_at "se") => `(tactic| with_reducible first
  | (refine G.x_var rfl ?_)
  | (refine G.x_c ?_)
  | (refine G.x_op ?_)
  | (refine G.x_I0 ?_)
  | (refine G.x_asg ?_)
  | (refine G.x_ret ?_)
  | (refine G.x_drop ?_)
  | (refine G.x_next ?_)
  | (refine G.x_ifS ?_)
  | (refine G.x_tTest ?_)
  | (refine G.x_tB ?_)
  | (refine G.x_bl ?_)
  | (refine G.x_and ?_)
  | (refine G.x_or ?_)
  | (refine G.x_not ?_)
  | (refine G.x_andV ?_)
  | (refine G.x_orV ?_)
  | (refine G.x_notV ?_)
  | (refine G.x_chain ?_)
  | (refine G.x_nil ?_)
  | (refine G.x_cons ?_)
  | (refine G.x_tup ?_)
  | (refine G.x_lst ?_)
  | (refine G.x_call ?_)
  | (refine G.x_meth ?_)
  | (refine G.x_cb ?_)
  | (refine G.x_fld ?_)
  | (refine G.x_sfld ?_)
  | (refine G.x_un ?_)
  | (refine G.x_U ?_)
  | (refine G.x_eqI ?_)
  | (refine G.x_neI ?_)
  | (refine G.x_isN ?_)
  | (refine G.x_notN ?_)
  | (refine G.x_max2 ?_)
  | (refine G.x_min2 ?_)
  | (refine G.x_abs ?_)
  | (refine G.x_asgG ?_)
  | (refine G.x_retN ?_))
/-! The base: readings walked from the left (x_..), heaps, frames. -/
namespace G
open PySem PySem.Spec PyProof.Rows L2

/-! ### operators' readings by name -/
abbrev oAdd : R2 := rI0 fun i j => .int (i + j)
abbrev oSub : R2 := rI0 fun i j => .int (i - j)
abbrev oMul : R2 := rI CMul fun i j => .int (i * j)
abbrev oMulX : R2 := rI IntMulOk fun i j => .int (i * j)
abbrev oDiv : R2 := rI CDiv fun i j => .int (i / j)
abbrev oMod : R2 := rI (fun _ j => 0 < j) fun i j => .int (i % j)
abbrev oPow : R2 := rI CPow fun i j => .int (i ^ j.toNat)
abbrev oLt : R2 := rI0 fun i j => .bl (decide (i < j))
abbrev oLe : R2 := rI0 fun i j => .bl (decide (i ≤ j))
abbrev oGt : R2 := rI0 fun i j => .bl (decide (j < i))
abbrev oGe : R2 := rI0 fun i j => .bl (decide (j ≤ i))
def oIsN : R2 := fun x y H Q => y = .non ∧ Q (.bl (decide (x = .non))) H
def oNotN : R2 := fun x y H Q => y = .non ∧ Q (.bl (!decide (x = .non))) H
abbrev oNeg : V → Hp → VK → Prop := rU fun i => .int (-i)
theorem op_mulX {X : Cx} : OpR X (binaryOp .Mult) oMulX := opI fun _ _ _ _ _ _ _ hc q => mul_int q hc
theorem op_isN' {X : Cx} : OpR X (compareOp .Is) oIsN := op_isN
theorem op_notN' {X : Cx} : OpR X (compareOp .IsNot) oNotN := op_notN
def oLen (K : PySem.W.Frag) : List V → Hp → VK → Prop := fun xs H Q => ∃ p ys, xs = [.ref p] ∧ (SqL K H p ys ∨ SqT K H p ys) ∧ Q (.int ys.length) H
theorem call_len' {X : Cx} : CallR X (.builtin "len") (oLen X.K) := call_len_seq
def oAbs : List V → Hp → VK → Prop := fun xs H Q => ∃ i, xs = [.int i] ∧ Q (.int (if i < 0 then -i else i)) H
theorem call_abs' {X : Cx} : CallR X (.builtin "abs") oAbs := call_abs
def oMax2 : List V → Hp → VK → Prop := fun xs H Q => ∃ i j, xs = [.int i, .int j] ∧ Q (.int (if j > i then j else i)) H
def oMin2 : List V → Hp → VK → Prop := fun xs H Q => ∃ i j, xs = [.int i, .int j] ∧ Q (.int (if j < i then j else i)) H
theorem call_max2' {X : Cx} (hc : X.calm = true) : CallR X (.builtin "max") oMax2 := call_max2 hc
theorem call_min2' {X : Cx} (hc : X.calm = true) : CallR X (.builtin "min") oMin2 := call_min2 hc
def oList (K : PySem.W.Frag) : List V → Hp → VK → Prop := fun xs H Q => ∃ p ys, xs = [.ref p] ∧ (SqL K H p ys ∨ SqT K H p ys) ∧ ∀ l, H l = none → Q (.ref l) (upd H l (.lst ys))
theorem call_list' {X : Cx} : CallR X (.type "list") (oList X.K) := call_list_of

/-! ### steps from the left -/
section
variable {K : PySem.W.Frag} {σ σ' : L2.St} {H H' : Hp} {Q : VK} {QB : Bool → Hp → Prop} {QA : List V → Hp → Prop} {ta tb tc te : TE} {t u : TT} {ts tu tw : TS} {r r' : R2} {v x y : V} {i j : Int} {D : Ends} {p a : Addr} {xs : List V}
theorem x_var {n : Nat} (h : σ[n]? = some (some v)) (k : Q v H) : tVar n σ H Q := ⟨v, h, k⟩
theorem x_c (k : Q v H) : tC v σ H Q := k
theorem x_op (k : ta σ H fun x H1 => tb σ H1 fun y H2 => r x y H2 Q) : tOp r ta tb σ H Q := k
theorem x_un {r : V → Hp → VK → Prop} (k : ta σ H fun x H1 => r x H1 Q) : tUn r ta σ H Q := k
theorem x_I0 {g : Int → Int → V} (k : Q (g i j) H) : rI0 g (.int i) (.int j) H Q := ⟨i, j, rfl, rfl, k⟩
theorem x_I {C : Int → Int → Prop} {g : Int → Int → V} (hc : C i j) (k : Q (g i j) H) : rI C g (.int i) (.int j) H Q := ⟨i, j, rfl, rfl, hc, k⟩
theorem x_U {g : Int → V} (k : Q (g i) H) : rU g (.int i) H Q := ⟨i, rfl, k⟩
theorem x_div (hc : 0 < j ∧ j < 1073741824) (k : Q (.int (i / j)) H) : rI CDiv (fun i j => .int (i / j)) (.int i) (.int j) H Q := x_I hc k
theorem x_mod (hc : 0 < j) (k : Q (.int (i % j)) H) : rI (fun _ j => 0 < j) (fun i j => .int (i % j)) (.int i) (.int j) H Q := x_I hc k
theorem x_pow (hc : 0 ≤ j ∧ j ≤ 1000000 ∧ i.natAbs < 2 ^ 64) (k : Q (.int (i ^ j.toNat)) H) : rI CPow (fun i j => .int (i ^ j.toNat)) (.int i) (.int j) H Q := x_I hc k
theorem x_mul (hc : (-(2 ^ 64) < i ∧ i < 2 ^ 64) ∨ (-(2 ^ 64) < j ∧ j < 2 ^ 64)) (k : Q (.int (i * j)) H) : rI CMul (fun i j => .int (i * j)) (.int i) (.int j) H Q := x_I hc k
theorem x_eqI (k : Q (.bl (decide (i = j))) H) : rEq (.int i) (.int j) H Q := ⟨rfl, by
  have e : decide (V.int i = V.int j) = decide (i = j) := by simp
  rw [e]; exact k⟩
theorem x_neI (k : Q (.bl (!decide (i = j))) H) : rNe (.int i) (.int j) H Q := ⟨rfl, by
  have e : decide (V.int i = V.int j) = decide (i = j) := by simp
  rw [e]; exact k⟩
theorem x_eq (hs : scal x y = true) (k : Q (.bl (decide (x = y))) H) : rEq x y H Q := ⟨hs, k⟩
theorem x_ne (hs : scal x y = true) (k : Q (.bl (!decide (x = y))) H) : rNe x y H Q := ⟨hs, k⟩
theorem x_isN (k : Q (.bl (decide (x = .non))) H) : oIsN x .non H Q := ⟨rfl, k⟩
theorem x_notN (k : Q (.bl (!decide (x = .non))) H) : oNotN x .non H Q := ⟨rfl, k⟩
theorem x_ixL {vi : V} (h : SqL K H p xs) (e : vi = .int i) (ha : atI xs i = some v) (k : Q v H) : rIxL K (.ref p) vi H Q := by subst e; exact ⟨p, xs, i, v, rfl, rfl, h, ha, k⟩
theorem x_ixT {vi : V} (h : SqT K H p xs) (e : vi = .int i) (ha : atI xs i = some v) (k : Q v H) : rIxT K (.ref p) vi H Q := by subst e; exact ⟨p, xs, i, v, rfl, rfl, h, ha, k⟩
/-! tests -/
theorem x_tTest (k : te σ H fun x H' => ∃ k, x = .bl k ∧ QB k H') : tTest te σ H QB := k
theorem x_tB (k : te σ H fun x H' => ∃ k, x = .bl k ∧ QB k H') : tB te σ H QB := k
theorem x_bl {b : Bool} {B : Bool → Prop} (k : B b) : ∃ k, V.bl b = .bl k ∧ B k := ⟨b, rfl, k⟩
theorem x_and (k : t σ H fun c H1 => if c = true then u σ H1 QB else QB false H1) : tAnd t u σ H QB := k
theorem x_or (k : t σ H fun c H1 => if c = true then QB true H1 else u σ H1 QB) : tOr t u σ H QB := k
theorem x_not (k : t σ H fun c H1 => QB (!c) H1) : tNot t σ H QB := k
theorem x_andV (k : ta σ H fun x H1 => ∃ c, x = .bl c ∧ if c = true then tb σ H1 Q else Q (.bl false) H1) : tAndV ta tb σ H Q := k
theorem x_orV (k : ta σ H fun x H1 => ∃ c, x = .bl c ∧ if c = true then Q (.bl true) H1 else tb σ H1 Q) : tOrV ta tb σ H Q := k
theorem x_notV (k : ta σ H fun x H1 => ∃ c, x = .bl c ∧ Q (.bl (!c)) H1) : tNotV ta σ H Q := k
theorem x_chain (k : ta σ H fun x H1 => tb σ H1 fun y H2 => r x y H2 fun z H3 => ∃ k, z = .bl k ∧ (if k = true then tc σ H3 fun w' H4 => r' y w' H4 Q else Q (.bl false) H3)) : tChain r r' ta tb tc σ H Q := k
theorem x_ite {c A B : Prop} [Decidable c] (h1 : c → A) (h2 : ¬ c → B) : if decide c = true then A else B := by
  by_cases h : c
  · rw [decide_eq_true h]; exact h1 h
  · rw [decide_eq_false h]; exact h2 h
theorem x_iteN {c A B : Prop} [Decidable c] (h1 : ¬ c → A) (h2 : c → B) : if (!decide c) = true then A else B := by
  by_cases h : c
  · rw [decide_eq_true h]; exact h2 h
  · rw [decide_eq_false h]; exact h1 h
theorem x_iteb {b : Bool} {A B : Prop} (h1 : b = true → A) (h2 : b = false → B) : if b = true then A else B := by
  cases b with
  | true => exact h1 rfl
  | false => exact h2 rfl
theorem x_itebN {b : Bool} {A B : Prop} (h1 : b = false → A) (h2 : b = true → B) : if (!b) = true then A else B := by
  cases b with
  | true => exact h2 rfl
  | false => exact h1 rfl
theorem x_T {b : Bool} {A B : Prop} (e : b = true) (h : A) : if b = true then A else B := by subst e; exact h
theorem x_F {b : Bool} {A B : Prop} (e : b = false) (h : B) : if b = true then A else B := by subst e; exact h
/-! statements -/
theorem x_seq (k : ts { D with nx := tu D } σ H) : tSeq ts tu D σ H := k
theorem x_asg {n : Nat} (k : te σ H fun x H1 => D.nx (σ.set n (some x)) H1) : tAsg te (gName n) D σ H := k
theorem x_asgG {g : TG} (k : te σ H fun x H1 => g x σ H1 D.nx) : tAsg te g D σ H := k
theorem x_ret (k : te σ H D.rt) : tRet te D σ H := k
theorem x_retN (k : D.rt .non H) : tRetN D σ H := k
theorem x_drop (k : te σ H fun _ H1 => D.nx σ H1) : tDrop te D σ H := k
theorem x_ifS (k : t σ H fun b H1 => if b = true then tu D σ H1 else tw D σ H1) : tIfS t tu tw D σ H := k
theorem x_next (k : D.nx σ H) : tNext D σ H := k
/-! arguments, calls -/
theorem x_nil (k : QA [] H) : tNil σ H QA := k
theorem x_cons {tr : TA} (k : ta σ H fun x H1 => tr σ H1 fun xs H2 => QA (x :: xs) H2) : tCons ta tr σ H QA := k
theorem x_tup {ta : TA} (k : ta σ H fun xs H1 => xs.length ≤ sizeLine ∧ ∀ p, H1 p = none → Q (.ref p) (upd H1 p (.tup xs))) : tTup ta σ H Q := k
theorem x_lst {ta : TA} (k : ta σ H fun xs H1 => xs.length ≤ sizeLine ∧ ∀ p, H1 p = none → Q (.ref p) (upd H1 p (.lst xs))) : tLst ta σ H Q := k
theorem x_call {sp : Sp} {dvs : List V} {E : XK} {ta : TA} (k : ta σ H fun vs H1 => sp (vs ++ dvs) H1 Q E) : tCall sp dvs E ta σ H Q := k
theorem x_meth {C : Addr} {m : Str} {sp : Sp} {dvs : List V} {E : XK} {tl : TA} (k : ta σ H fun x H1 => ∃ a dx fs, x = .ref a ∧ H1 a = some (.ins C dx fs) ∧ fs.lookup m = none ∧ tl σ H1 fun vs H2 => sp (x :: (vs ++ dvs)) H2 Q E) : tMeth C m sp dvs E ta tl σ H Q := k
theorem x_cb {r : List V → Hp → VK → Prop} {ta : TA} (k : ta σ H fun vs H1 => r vs H1 Q) : tCB r ta σ H Q := k
theorem x_lenL {xs : List V} (h : SqL K H p xs) (k : Q (.int xs.length) H) : oLen K [.ref p] H Q := ⟨p, xs, rfl, .inl h, k⟩
theorem x_lenT {xs : List V} (h : SqT K H p xs) (k : Q (.int xs.length) H) : oLen K [.ref p] H Q := ⟨p, xs, rfl, .inr h, k⟩
theorem x_max2 (k : Q (.int (if j > i then j else i)) H) : oMax2 [.int i, .int j] H Q := ⟨i, j, rfl, k⟩
theorem x_min2 (k : Q (.int (if j < i then j else i)) H) : oMin2 [.int i, .int j] H Q := ⟨i, j, rfl, k⟩
theorem x_abs (k : Q (.int (if i < 0 then -i else i)) H) : oAbs [.int i] H Q := ⟨i, rfl, k⟩
/-! attributes -/
def kFld (K : PySem.W.Frag) (f : Str) (Q : VK) : VK := fun x H1 => ∃ a C dx fs v, x = .ref a ∧ H1 a = some (.ins C dx fs) ∧ Cls K C ∧ NoAttr K C f ∧ fs.lookup f = some v ∧ Q v H1
theorem x_fld {f : Str} (k : ta σ H (kFld K f Q)) : tFld K ta f σ H Q := k
theorem x_kFld {f : Str} {C dx : Addr} {fs : List (Str × V)} (h : H a = some (.ins C dx fs)) (c : Cls K C) (n : NoAttr K C f) (l : fs.lookup f = some v) (k : Q v H) : kFld K f Q (.ref a) H := ⟨a, C, dx, fs, v, rfl, h, c, n, l, k⟩
def kSet (K : PySem.W.Frag) (f : Str) (y : V) (N : Hp → Prop) : VK := fun x H2 => ∃ a C dx fs, x = .ref a ∧ H2 a = some (.ins C dx fs) ∧ Cls K C ∧ NoAttr K C f ∧ fs.length < 1000 ∧ N (upd H2 a (.ins C dx (putF f y fs)))
theorem x_sfld {f : Str} (k : tb σ H fun y H1 => ta σ H1 (kSet K f y fun H3 => D.nx σ H3)) : sFld K ta tb f D σ H := k
/-! for over range(n), over a list: P, a word of the turn -/
theorem x_forR1 {j : Nat} {tb : TS} {tl : TA} (n : Nat) (hv : ∀ R : List V → Hp → Prop, R [.int n] H → tl σ H R) (hn : n ≤ 1000000) (P : Nat → L2.St → Hp → Prop) (h0 : P 0 σ H)
    (hs : ∀ i σ H, i < n → P i σ H → tb { D with nx := P (i + 1), ct := P (i + 1), bk := D.nx } (σ.set j (some (.int i))) H) (hd : ∀ σ H, P n σ H → D.nx σ H) : tFor (iRng1 tl) (gName j) tb D σ H :=
  hv _ ⟨n, rfl, by omega, by omega, for_range (lo := 0) (n := n) P h0 (fun i σ H hi p => by
    have e0 : (0 : Int) + (i : Int) = (i : Int) := Int.zero_add _
    show tb { D with nx := P (i + 1), ct := P (i + 1), bk := D.nx } (σ.set j (some (.int ((0 : Int) + (i : Int))))) H
    rw [e0]
    exact hs i σ H hi p) hd⟩
/-- range(a, b) -/
theorem x_forR2 {j : Nat} {tb : TS} {tl : TA} (a n : Nat) (hv : ∀ R : List V → Hp → Prop, R [.int a, .int (a + n : Nat)] H → tl σ H R) (hn : a + n ≤ 1000000) (P : Nat → L2.St → Hp → Prop) (h0 : P 0 σ H)
    (hs : ∀ i σ H, i < n → P i σ H → tb { D with nx := P (i + 1), ct := P (i + 1), bk := D.nx } (σ.set j (some (.int (a + i : Nat)))) H) (hd : ∀ σ H, P n σ H → D.nx σ H) : tFor (iRng2 tl) (gName j) tb D σ H :=
  hv _ ⟨a, (a + n : Nat), rfl, ⟨by omega, by omega, by omega, by omega⟩, by
    have e1 : (((a + n : Nat) : Int) - (a : Int)).toNat = n := by omega
    rw [e1]
    exact for_range (lo := (a : Int)) (n := n) P h0 (fun i σ H hi p => by
      have e0 : (a : Int) + (i : Int) = ((a + i : Nat) : Int) := by omega
      show tb { D with nx := P (i + 1), ct := P (i + 1), bk := D.nx } (σ.set j (some (.int ((a : Int) + (i : Int))))) H
      rw [e0]
      exact hs i σ H hi p) hd⟩
theorem x_forL {j : Nat} {tb : TS} {tl : TE} {a : Addr} {xs : List V} (hv : ∀ R : VK, R (.ref a) H → tl σ H R) (hx : SqL K H a xs) (P : Nat → L2.St → Hp → Prop) (h0 : P 0 σ H) (hl : ∀ i σ H, i ≤ xs.length → P i σ H → SqL K H a xs)
    (hs : ∀ i x σ H, xs[i]? = some x → P i σ H → tb { D with nx := P (i + 1), ct := P (i + 1), bk := D.nx } (σ.set j (some x)) H) (hd : ∀ σ H, P xs.length σ H → D.nx σ H) : tFor (iList K tl) (gName j) tb D σ H :=
  hv _ ⟨a, rfl, ⟨xs, hx⟩, for_list P h0 hl hs hd⟩
/-! while: P, a word with a measure -/
theorem x_while {c : TT} {tb : TS} (P : Nat → L2.St → Hp → Prop) (m0 : Nat) (h0 : P m0 σ H)
    (hs : ∀ m σ H, P m σ H → c σ H fun b H1 => if b = true then ∃ N : L2.St → Hp → Prop, (∀ σ' H', N σ' H' → ∃ m', m' < m ∧ P m' σ' H') ∧ tb { D with nx := N, ct := N, bk := D.nx } σ H1 else D.nx σ H1) : tWhile c tb D σ H :=
  ⟨P, ⟨m0, h0⟩, hs⟩
end

/-! ### heaps and frames -/
/-- all that stands, but for M, stands as before; tuples in any case -/
def Fr (M : Addr → Prop) (H H' : Hp) : Prop := ∀ b o, H b = some o → ¬ M b → H' b = some o
theorem Fr.refl {M : Addr → Prop} {H : Hp} : Fr M H H := fun _ _ h _ => h
theorem Fr.trans {M : Addr → Prop} {H H1 H2 : Hp} (a : Fr M H H1) (b : Fr M H1 H2) : Fr M H H2 := fun c o h n => b c o (a c o h n) n
theorem Fr.mono {M M' : Addr → Prop} {H H' : Hp} (a : Fr M H H') (h : ∀ b, M b → M' b) : Fr M' H H' := fun c o e n => a c o e fun z => n (h c z)
theorem Fr.new {M : Addr → Prop} {H : Hp} {p : Addr} {o : HO} (h : H p = none) : Fr M H (upd H p o) := fun b u e _ => by
  rw [upd_ne (ne_of_none e h)]; exact e
theorem Fr.at {M : Addr → Prop} {H : Hp} {p : Addr} {o : HO} (h : M p) : Fr M H (upd H p o) := fun b u e n => by
  rw [upd_ne (fun z => n (by rw [z]; exact h))]; exact e
/-- an address that was free ahead may change -/
theorem Fr.mut {M : Addr → Prop} {H H' : Hp} {p : Addr} {o : HO} (e : Fr M H H') (h : H p = none) : Fr M H (upd H' p o) := fun a u ha n => by
  rw [upd_ne (ne_of_none ha h)]; exact e a u ha n
abbrev M0 : Addr → Prop := fun _ => False
theorem Fr.free {H H' : Hp} (e : Fr M0 H H') {p : Addr} (h : H' p = none) : H p = none := by
  cases q : H p with
  | none => rfl
  | some o => rw [e p o q (fun z => z)] at h; cases h
theorem rd_fr {M : Addr → Prop} {H H' : Hp} {a : Addr} {u : HO} (e : Fr M H H') (n : ¬ M a) (h : Rd H a u) : Rd H' a u := by
  rcases h with h | ⟨o, h⟩
  · exact Or.inl (e a _ h n)
  · exact Or.inr ⟨o, e a _ h n⟩
theorem sql_fr {M : Addr → Prop} {K : PySem.W.Frag} {H H' : Hp} {a : Addr} {xs : List V} (e : Fr M H H') (n : ¬ M a) (h : SqL K H a xs) : SqL K H' a xs := by
  rcases h with h | h
  · exact Or.inl (rd_fr e n h)
  · exact Or.inr h
theorem sl_of {K : PySem.W.Frag} {H : Hp} {a : Addr} {xs : List V} (h : H a = some (.lst xs)) : SqL K H a xs := Or.inl (Or.inl h)
theorem st_of {K : PySem.W.Frag} {H : Hp} {a : Addr} {xs : List V} (h : H a = some (.tup xs)) : SqT K H a xs := Or.inl (Or.inl h)
theorem sz_le {n : Nat} (h : n ≤ 100000) : n ≤ sizeLine := Nat.le_trans h (by decide)
theorem sz_lt {n : Nat} (h : n < 100000) : n < sizeLine := Nat.lt_of_lt_of_le h (by decide)

/-! ### attribute rows -/
theorem lk_here {k : Str} {v : V} {r : List (Str × V)} : List.lookup k ((k, v) :: r) = some v := by
  have e : (k == k) = true := beq_self_eq_true k
  simp only [List.lookup, e]
theorem lk_past {k g : Str} {v : V} {r : List (Str × V)} (h : (k == g) = false) : List.lookup k ((g, v) :: r) = List.lookup k r := by
  simp only [List.lookup, h]
theorem put_here {f : Str} {v x : V} {r : List (Str × V)} : putF f v ((f, x) :: r) = (f, v) :: r := if_pos rfl
theorem put_past {f g : Str} {v x : V} {r : List (Str × V)} (h : ¬ g = f) : putF f v ((g, x) :: r) = (g, x) :: putF f v r := if_neg h

/-! ### lists of ints, of places -/
def oV : Option Nat → V
  | none => .non
  | some k => .int k
theorem at_map {α : Type} {f : α → V} {l : List α} {n : Nat} {a : α} (h : l[n]? = some a) : atI (l.map f) (n : Int) = some (f a) := atI_nat (by rw [List.getElem?_map, h]; rfl)
theorem dec_oV {o : Option Nat} : decide (oV o = V.non) = o.isNone := by
  cases o with
  | none => rfl
  | some k => exact decide_eq_false (fun z => by cases z)
theorem ixN_nat {n j : Nat} (hj : j < n) : ixN n (j : Int) = some j := by
  unfold ixN
  rw [if_pos (by omega), if_pos (by omega)]
  simp
theorem oV_ne {o : Option Nat} {k : Nat} (h : ¬ oV o = V.int k) : o ≠ some k := fun e => h (by rw [e]; rfl)
theorem oV_eq {o : Option Nat} {k : Nat} : oV o = V.int k ↔ o = some k := by
  cases o with
  | none => exact ⟨fun z => (nomatch z), fun z => (nomatch z)⟩
  | some j =>
    constructor
    · intro z
      have z' : ((j : Nat) : Int) = (k : Int) := by injection z
      exact congrArg some (by omega)
    · intro z; cases z; rfl
theorem scal_oV {o : Option Nat} {i : Int} : scal (oV o) (.int i) = true := by cases o <;> rfl

/-! ### the addresses that the top has made; the law's own promise and its row -/
structure Ad where
  CF : Addr
  CT : Addr
  xHE : Addr
  xNH : Addr
  xNT : Addr
  xBA : Addr
  xSA : Addr
  xHV : Addr
def spLaw (K : PySem.W.Frag) : Sp := fun vs H Q _ => match vs with
  | [v] => ∃ (a : Addr) (ns : List Int), v = .ref a ∧ SqL K H a (ns.map V.int) ∧ ns.length ≤ 63 ∧ (∀ z ∈ ns, Builtin.Int.intBits z ≤ 1048576) ∧ Only H ∧ ∀ H', Q (.bl true) H'
  | _ => False
theorem walk_law {l : PySem.W.OpenLaw} {q : Program} {loose : List Str} {XP : (Str → Option Value) → Heap → Prop} {YP : World → Heap → Prop} {d : DefRec} {K : Params → PySem.W.Frag} {k : Nat} {x : Str}
    (hn : l.most = some 63) (hdf : d.params.defaults = []) (hr : Room k callerA)
    (hY : ∀ (w : World) (h : Heap), YP w h → (K w.params).In h)
    (F : ∀ (w : World) (mg : Str → Option Value) (fa : Addr) (h : Heap), (K w.params).In h → h.Ns mainGlobals mg → mg d.name = some (.ref fa) →
      ∃ fd : FuncData, (∀ (s : Shared) (u : Value), BindsTo s fd ⟨[u], []⟩ [(x, u)]) ∧ ∀ base : Heap, (K w.params).In base → base.Ns mainGlobals mg → FnOk l.prog w (K w.params) mg base CX0 k fa fd [x] (spLaw (K w.params))) :
    PySem.W.WalkO q loose XP YP l.row.toRowW d [] (fun f vs => PySem.call f vs) :=
  L2.walk_ofB (n := 63) (k := k) (x := x) (CX := fun _ => CX0) (sp := fun w => spLaw (K w.params)) hn (by decide) hdf hr hY F (fun _ H a ns hl hb hO hS => ⟨a, ns, rfl, hS, hl, hb, hO, fun _ => rfl⟩) fun _ _ _ _ _ z => z
theorem units64 {k : Nat} {A : Around} (hr : Room k A) : A.units + 64 < cLine := by have := hr.un; omega
/-- a try with one clause, with its error's name, with several -/
def tTry1 (K : PySem.W.Frag) (c : Value) (tb : WX → TS) (ts : TS) : TS := fun D σ H => tb (wOnly K c (fun _ _ _ => ts) (fun _ _ _ _ => False) D) D σ H
def tTryN (K : PySem.W.Frag) (l : List (Value × (Addr → Value → Option Addr → TS))) (tb : WX → TS) : TS := fun D σ H => tb (wMany K (fun _ _ _ _ => False) D l) D σ H
def tTryAs (K : PySem.W.Frag) (c : Value) (i : Nat) (tb : WX → TS) (ts : Addr → Value → Option Addr → TS) : TS := fun D σ H => tb (wAs K c i ts (fun _ _ _ _ => False) D) D σ H
def tRaiseE (E : XK) (C : Addr) : TS := fun _ _ H => E (.ref C) none H
end G

/-! ### the walk: routine steps; w_ix by facts in the context -/
local macro_rules | `(tactic| walk_at "s1") => `(tactic| with_reducible first
  | (refine G.x_var rfl ?_)
  | (refine G.x_c ?_)
  | (refine G.x_op ?_)
  | (refine G.x_I0 ?_)
  | (refine G.x_seq ?_)
  | (refine G.x_asg ?_)
  | (refine G.x_ret ?_)
  | (refine G.x_drop ?_)
  | (refine G.x_next ?_)
  | (refine G.x_ifS ?_)
  | (refine G.x_tTest ?_)
  | (refine G.x_tB ?_)
  | (refine G.x_bl ?_)
  | (refine G.x_and ?_)
  | (refine G.x_or ?_)
  | (refine G.x_not ?_)
  | (refine G.x_andV ?_)
  | (refine G.x_orV ?_)
  | (refine G.x_notV ?_)
  | (refine G.x_chain ?_)
  | (refine G.x_nil ?_)
  | (refine G.x_cons ?_)
  | (refine G.x_tup ?_)
  | (refine G.x_lst ?_)
  | (refine G.x_call ?_)
  | (refine G.x_meth ?_)
  | (refine G.x_cb ?_)
  | (refine G.x_fld ?_)
  | (refine G.x_sfld ?_)
  | (refine G.x_un ?_)
  | (refine G.x_U ?_)
  | (refine G.x_eqI ?_)
  | (refine G.x_neI ?_)
  | (refine G.x_isN ?_)
  | (refine G.x_notN ?_)
  | (refine G.x_max2 ?_)
  | (refine G.x_min2 ?_)
  | (refine G.x_abs ?_)
  | (refine G.x_asgG ?_)
  | (refine G.x_retN ?_))
section
open PySem L2 G
example {Q : VK} {H : Hp} (h : Q (.int (3 + 4)) H) : tOp oAdd (tVar 0) (tC (.int 4)) [some (.int 3)] H Q := by
  repeat walk_at "s1"
  exact h
example {D : Ends} {H : Hp} (h : D.rt (.int (3 + 4)) H) : tSeq (tAsg (tOp oAdd (tVar 0) (tC (.int 4))) (gName 1)) (tRet (tVar 1)) D [some (.int 3), none] H := by
  repeat walk_at "s1"
  exact h
end

/-! what several laws say in the same words -/
namespace G
open PySem PySem.Spec PyProof.Rows L2
section
variable {K : PySem.W.Frag} {σ : L2.St} {H : Hp} {Q : VK} {D : Ends}
theorem x_isiI {i : Int} {n : String} {b : Bool} (h : kitB "int" n = some b) (k : Q (.bl b) H) : rIsi K [.int i, .ty n] H Q := ⟨_, _, _, _, b, rfl, .ty n, .base (.int i), kit_ty h, k⟩
theorem x_isiT {p : Addr} {xs : List V} {n : String} {b : Bool} (hp : H p = some (.tup xs)) (h : kitB "tuple" n = some b) (k : Q (.bl b) H) : rIsi K [.ref p, .ty n] H Q := ⟨_, _, _, _, b, rfl, .ty n, .base (.tup hp), kit_ty h, k⟩
theorem x_isiL {p : Addr} {xs : List V} {n : String} {b : Bool} (hp : H p = some (.lst xs)) (h : kitB "list" n = some b) (k : Q (.bl b) H) : rIsi K [.ref p, .ty n] H Q := ⟨_, _, _, _, b, rfl, .ty n, .base (.lst hp), kit_ty h, k⟩
end
/-! whole(x): of an int -/
def spWhole : Sp := fun vs H Q _ => match vs with
  | [v] => ∃ i : Int, v = .int i ∧ Q (.bl true) H
  | _ => False
def tWhole (K : PySem.W.Frag) : TS := tRet (tAndV (tCB (rIsi K) (tCons (tVar 0) (tCons (tC (.ty "int")) tNil))) (tNotV (tCB (rIsi K) (tCons (tVar 0) (tCons (tC (.ty "bool")) tNil)))))
theorem pure_whole {K : PySem.W.Frag} {v : V} {H : Hp} {Q : VK} {E : XK} (h : spWhole [v] H Q E) : tWhole K { nx := fun _ H' => Q .non H', rt := Q } [some v] H := by
  obtain ⟨i, rfl, k⟩ := h
  unfold tWhole
  repeat walk_at "s1"
  refine x_isiI (b := true) (by decide +kernel) ?_
  repeat walk_at "s1"
  refine x_T rfl ?_
  repeat walk_at "s1"
  refine x_isiI (b := false) (by decide +kernel) ?_
  repeat walk_at "s1"
  exact k

/-- a script's number through divisions keeps its bits -/
abbrev Bits (c : Int) : Prop := Builtin.Int.intBits c ≤ 1048576
theorem Bits.div {c d : Int} (h : Bits c) (hd : 0 ≤ d) : Bits (c / d) := by
  have := PyProof.Rows.bits_fdiv (b := d) h
  rwa [Int.fdiv_eq_ediv_of_nonneg _ hd] at this
theorem Bits.mulOk {c j : Int} (h : Bits c) (hj : Builtin.Int.intBits j ≤ 1000) : IntMulOk c j := PyProof.Rows.mulOk_of_bits h hj (by decide)
theorem Bits.of_small {c : Int} (h : c.natAbs < 2 ^ 64) : Bits c := PyProof.Rows.bits_of_natAbs_le (b := 2 ^ 64) (by rw [show (2 ^ 64 : Int).natAbs = 2 ^ 64 by decide]; omega) (by decide)
/-! levels -/
def lev (n : Nat) : Nat := Nat.log2 (n + 1)
theorem lev_of {n c : Nat} (h1 : 2 ^ c ≤ n + 1) (h2 : n + 1 < 2 ^ (c + 1)) : lev n = c := (Nat.log2_eq_iff (by omega)).2 ⟨h1, h2⟩
theorem lev_le {n : Nat} : 2 ^ lev n ≤ n + 1 := Nat.log2_self_le (by omega)
theorem lev_lt {n : Nat} : n + 1 < 2 ^ (lev n + 1) := Nat.lt_log2_self
def spLevels : Sp := fun vs H Q _ => match vs with
  | [v] => ∃ n : Nat, v = .int n ∧ Q (.int (lev n)) H
  | _ => False
theorem i_pow (c : Nat) : ((2 ^ c : Nat) : Int) = (2 : Int) ^ c := by simp
/-- the loop's own state: count c, power 2 ^ (c + 1) -/
theorem lev_while {n : Nat} {tc : TT} {tb : TS} {D : Ends} {σ : L2.St} {H : Hp} (f : Int → Int → L2.St)
    (hσ : σ = f 0 2)
    (hc : ∀ (c p : Int) (QB : Bool → Hp → Prop), QB (decide (p ≤ (n : Int) + 1)) H → tc (f c p) H QB)
    (hb : ∀ (c p : Int) (D : Ends), 0 ≤ c → 0 < p → p ≤ (n : Int) + 1 → D.nx (f (c + 1) (p + p)) H → tb D (f c p) H)
    (hd : D.nx (f (lev n) (2 ^ (lev n + 1))) H) : tWhile tc tb D σ H := by
  refine x_while (fun m σ' H' => H' = H ∧ ∃ c : Nat, σ' = f c (2 ^ (c + 1)) ∧ 2 ^ c ≤ n + 1 ∧ m = n + 2 - 2 ^ c) (n + 1) ⟨rfl, 0, hσ, by simp, by simp⟩ ?_
  rintro m σ' H' ⟨rfl, c, rfl, h1, rfl⟩
  refine hc _ _ _ ?_
  refine x_ite (fun h => ?_) (fun h => ?_)
  · have h' : 2 ^ (c + 1) ≤ n + 1 := by
      have e := i_pow (c + 1)
      omega
    refine ⟨_, fun _ _ z => z, ?_⟩
    refine hb _ _ _ (Int.natCast_nonneg c) (by rw [← i_pow]; have := Nat.two_pow_pos (c + 1); omega) h ?_
    refine ⟨n + 2 - 2 ^ (c + 1), ?_, rfl, c + 1, ?_, h', rfl⟩
    · have e : 2 ^ (c + 1) = 2 ^ c + 2 ^ c := by rw [Nat.pow_succ]; omega
      have := Nat.two_pow_pos c
      omega
    · have e : (2 : Int) ^ (c + 1 + 1) = 2 ^ (c + 1) + 2 ^ (c + 1) := by rw [Int.pow_succ]; omega
      rw [e]
      rfl
  · have h' : n + 1 < 2 ^ (c + 1) := by
      have e := i_pow (c + 1)
      omega
    have e := lev_of h1 h'
    rw [← e]
    exact hd
/-- the two ways to write it -/
def tLevels : TS := tSeq (tAsg (tC (.int 0)) (gName 1))
    (tSeq (tAsg (tC (.int 2)) (gName 2))
    (tSeq (tWhile (tTest (tOp oLe (tVar 2) (tOp oAdd (tVar 0) (tC (.int 1))))) (tSeq (tAsg (tOp oMul (tC (.int 2)) (tVar 2)) (gName 2))
    (tAsg (tOp oAdd (tVar 1) (tC (.int 1))) (gName 1))))
    (tRet (tVar 1))))
def tLevels2 : TS := tSeq (tAsg (tC (.int 0)) (gName 1))
    (tSeq (tAsg (tC (.int 2)) (gName 2))
    (tSeq (tWhile (tTest (tOp oLe (tVar 2) (tOp oAdd (tVar 0) (tC (.int 1))))) (tSeq (tAsg (tOp oAdd (tVar 2) (tVar 2)) (gName 2))
    (tAsg (tOp oAdd (tVar 1) (tC (.int 1))) (gName 1))))
    (tRet (tVar 1))))
section
variable {v0 : V} {H : Hp} {Q : VK} {E : XK}
theorem pure_levels1 (h : spLevels [v0] H Q E) : tLevels { nx := fun _ H' => Q .non H', rt := Q } [some v0, none, none] H := by
  obtain ⟨n, rfl, k⟩ := h
  unfold tLevels
  repeat walk_at "s1"
  refine lev_while (n := n) (fun c p => [some (V.int (n : Int)), some (.int c), some (.int p)]) rfl (fun c p QB hq => ?_) (fun c p D h0 h1 h2 hn => ?_) ?_
  · repeat walk_at "s1"
    exact hq
  · repeat walk_at "s1"
    refine x_mul (by omega) ?_
    repeat walk_at "s1"
    have e : 2 * p = p + p := by omega
    rw [e]
    exact hn
  · repeat walk_at "s1"
    exact k
theorem pure_levels2 (h : spLevels [v0] H Q E) : tLevels2 { nx := fun _ H' => Q .non H', rt := Q } [some v0, none, none] H := by
  obtain ⟨n, rfl, k⟩ := h
  unfold tLevels2
  repeat walk_at "s1"
  refine lev_while (n := n) (fun c p => [some (V.int (n : Int)), some (.int c), some (.int p)]) rfl (fun c p QB hq => ?_) (fun c p D h0 h1 h2 hn => ?_) ?_
  · repeat walk_at "s1"
    exact hq
  · repeat walk_at "s1"
    exact hn
  · repeat walk_at "s1"
    exact k
/-! a cell of the script, or 0 -/
def cellOf (ns : List Int) (k : Nat) : Int := ns.getD k 0
def spCell (K : PySem.W.Frag) : Sp := fun vs H Q _ => match vs with
  | [v, u] => ∃ (a : Addr) (ns : List Int) (k : Nat), v = .ref a ∧ u = .int k ∧ SqL K H a (ns.map V.int) ∧ Q (.int (cellOf ns k)) H
  | _ => False
def tCell (K : PySem.W.Frag) : TS := tSeq (tIfS (tTest (tOp oLt (tVar 1) (tCB (oLen K) (tCons (tVar 0) tNil)))) (tRet (tOp (rIxL K) (tVar 0) (tVar 1))) tNext) (tRet (tC (.int 0)))
theorem pure_cell {K : PySem.W.Frag} {v1 : V} (h : spCell K [v0, v1] H Q E) : tCell K { nx := fun _ H' => Q .non H', rt := Q } [some v0, some v1] H := by
  obtain ⟨a, ns, k, rfl, rfl, hS, q⟩ := h
  unfold tCell
  repeat walk_at "s1"
  refine x_lenL hS ?_
  repeat walk_at "s1"
  refine x_ite (fun hk => ?_) (fun hk => ?_)
  · rw [List.length_map] at hk
    have hk' : k < ns.length := by omega
    repeat walk_at "s1"
    refine x_ixL hS rfl (at_map (List.getElem?_eq_getElem hk')) ?_
    have e : cellOf ns k = ns[k] := by
      unfold cellOf
      rw [List.getD_eq_getElem?_getD, List.getElem?_eq_getElem hk']
      rfl
    rw [← e]
    exact q
  · rw [List.length_map] at hk
    repeat walk_at "s1"
    have e : cellOf ns k = 0 := by
      unfold cellOf
      rw [List.getD_eq_getElem?_getD, List.getElem?_eq_none (by omega)]
      rfl
    rw [← e]
    exact q
end
theorem Bits.cell {ns : List Int} (hb : ∀ z ∈ ns, Bits z) (k : Nat) : Bits (cellOf ns k) := by
  unfold cellOf
  by_cases h : k < ns.length
  · rw [List.getD_eq_getElem?_getD, List.getElem?_eq_getElem h]
    exact hb _ (List.getElem_mem h)
  · rw [List.getD_eq_getElem?_getD, List.getElem?_eq_none (by omega)]
    decide
end G

namespace Sk02
open PySem PySem.Spec PyProof.Rows L2 G
def Ok (_ : PySem.W.Frag) (_ : Ad) : Prop := True
def ExcFacts_k02 (_ : PySem.W.Frag) (_ : Ad) : Prop := True
def sp_levels (_ : PySem.W.Frag) (_ : Ad) : Sp := spLevels
def sp_l_levels (_ : PySem.W.Frag) (_ : Ad) : Sp := spLevels
def sp_l_cell (K : PySem.W.Frag) (_ : Ad) : Sp := spCell K
def deeds : List Str := ["put", "pour", "take", "sink"]
def most (d x y : Nat) : Int := match d with
  | 0 => lev x
  | 1 => lev x + lev y
  | 2 => 2 * lev x
  | _ => 3 * lev x
def sp_most_work (_ : PySem.W.Frag) (_ : Ad) : Sp := fun vs H Q _ => match vs with
  | [v, u, w] => ∃ (d x y : Nat) (t : Str), v = .str t ∧ deeds[d]? = some t ∧ u = .int x ∧ w = .int y ∧ x < 2 ^ 139 ∧ Q (.int (most d x y)) H
  | _ => False
def sp_l_number (_ : PySem.W.Frag) (_ : Ad) : Sp := fun vs H Q _ => match vs with
  | [v] => ∃ c : Int, v = .int c ∧ Bits c ∧ ∀ n : Nat, n < 2 ^ 139 → Q (.int n) H
  | _ => False
def sp_law (K : PySem.W.Frag) (_ : Ad) : Sp := spLaw K
def t_l_cell (K : PySem.W.Frag) (A : Ad) (E : XK) : TS :=
  (tSeq (tIfS (tTest (tOp oLt (tVar 1) (tCB (oLen K) (tCons (tVar 0) tNil)))) (tRet (tOp (rIxL K) (tVar 0) (tVar 1))) tNext)
    (tRet (tC (.int 0))))
def t_l_levels (K : PySem.W.Frag) (A : Ad) (E : XK) : TS :=
  (tSeq (tAsg (tC (.int 0)) (gName 1))
    (tSeq (tAsg (tC (.int 2)) (gName 2))
    (tSeq (tWhile (tTest (tOp oLe (tVar 2) (tOp oAdd (tVar 0) (tC (.int 1))))) (tSeq (tAsg (tOp oAdd (tVar 2) (tVar 2)) (gName 2))
    (tAsg (tOp oAdd (tVar 1) (tC (.int 1))) (gName 1))))
    (tRet (tVar 1)))))
def t_l_number (K : PySem.W.Frag) (A : Ad) (E : XK) : TS :=
  (tSeq (tIfS (tTest (tOp rEq (tOp oMod (tVar 0) (tC (.int 3))) (tC (.int 2)))) (tRet (tOp oMod (tOp oMulX (tOp oDiv (tVar 0) (tC (.int 3))) (tOp oPow (tC (.int 999999999989)) (tC (.int 4)))) (tOp oPow (tC (.int 10)) (tC (.int 40))))) tNext)
    (tRet (tOp oMod (tOp oDiv (tVar 0) (tC (.int 3))) (tC (.int 70)))))
def t_levels (K : PySem.W.Frag) (A : Ad) (E : XK) : TS :=
  (tSeq (tAsg (tC (.int 0)) (gName 1))
    (tSeq (tAsg (tC (.int 2)) (gName 2))
    (tSeq (tWhile (tTest (tOp oLe (tVar 2) (tOp oAdd (tVar 0) (tC (.int 1))))) (tSeq (tAsg (tOp oMul (tC (.int 2)) (tVar 2)) (gName 2))
    (tAsg (tOp oAdd (tVar 1) (tC (.int 1))) (gName 1))))
    (tRet (tVar 1)))))
def t_most_work (K : PySem.W.Frag) (A : Ad) (E : XK) : TS :=
  (tSeq (tIfS (tTest (tOp rEq (tVar 0) (tC (.str "put")))) (tRet (tCall (sp_levels K A) [] E0 (tCons (tVar 1) tNil))) tNext)
    (tSeq (tIfS (tTest (tOp rEq (tVar 0) (tC (.str "pour")))) (tRet (tOp oAdd (tCall (sp_levels K A) [] E0 (tCons (tVar 1) tNil)) (tCall (sp_levels K A) [] E0 (tCons (tVar 2) tNil)))) tNext)
    (tSeq (tIfS (tTest (tOp rEq (tVar 0) (tC (.str "take")))) (tRet (tOp oMul (tC (.int 2)) (tCall (sp_levels K A) [] E0 (tCons (tVar 1) tNil)))) tNext)
    (tRet (tOp oMul (tC (.int 3)) (tCall (sp_levels K A) [] E0 (tCons (tVar 1) tNil)))))))
def t_law (K : PySem.W.Frag) (A : Ad) (E : XK) : TS :=
  (tSeq (tAsg (tCall (sp_l_number K A) [] E0 (tCons (tCall (sp_l_cell K A) [] E0 (tCons (tVar 0) (tCons (tC (.int 0)) tNil))) tNil)) (gName 1))
    (tSeq (tAsg (tCall (sp_l_number K A) [] E0 (tCons (tCall (sp_l_cell K A) [] E0 (tCons (tVar 0) (tCons (tC (.int 1)) tNil))) tNil)) (gName 2))
    (tSeq (tAsg (tOp oMod (tCall (sp_l_cell K A) [] E0 (tCons (tVar 0) (tCons (tC (.int 2)) tNil))) (tC (.int 4))) (gName 3))
    (tSeq (tAsg (tCall (sp_most_work K A) [] E0 (tCons (tOp (rIxL K) (tLst (tCons (tC (.str "put")) (tCons (tC (.str "pour")) (tCons (tC (.str "take")) (tCons (tC (.str "sink")) tNil))))) (tVar 3)) (tCons (tVar 1) (tCons (tVar 2) tNil)))) (gName 4))
    (tSeq (tAsg (tCall (sp_l_levels K A) [] E0 (tCons (tVar 1) tNil)) (gName 5))
    (tSeq (tAsg (tOp (rIxL K) (tLst (tCons (tVar 5) (tCons (tOp oAdd (tVar 5) (tCall (sp_l_levels K A) [] E0 (tCons (tVar 2) tNil))) (tCons (tOp oAdd (tVar 5) (tVar 5)) (tCons (tOp oAdd (tOp oAdd (tVar 5) (tVar 5)) (tVar 5)) tNil))))) (tVar 3)) (gName 6))
    (tRet (tAndV (tCB (rIsi K) (tCons (tVar 4) (tCons (tC (.ty "int")) tNil))) (tAndV (tNotV (tCB (rIsi K) (tCons (tVar 4) (tCons (tC (.ty "bool")) tNil)))) (tOp rEq (tVar 4) (tVar 6)))))))))))
section
variable {K : PySem.W.Frag} {A : Ad} {H : Hp} {Q : VK} {E : XK} {v0 v1 v2 : V}
theorem pure_levels (_ : Ok K A) (h : sp_levels K A [v0] H Q E) : t_levels K A E { nx := fun _ H' => Q .non H', rt := Q } [some v0, none, none] H := pure_levels1 h
theorem pure_l_levels (_ : Ok K A) (h : sp_l_levels K A [v0] H Q E) : t_l_levels K A E { nx := fun _ H' => Q .non H', rt := Q } [some v0, none, none] H := pure_levels2 h
theorem pure_l_cell (_ : Ok K A) (h : sp_l_cell K A [v0, v1] H Q E) : t_l_cell K A E { nx := fun _ H' => Q .non H', rt := Q } [some v0, some v1] H := pure_cell h
theorem lev139 {x : Nat} (h : x < 2 ^ 139) : lev x ≤ 139 := by
  have h1 := lev_le (n := x)
  have h2 : (2 : Nat) ^ lev x < 2 ^ 140 := by
    have : (2 : Nat) ^ 140 = 2 ^ 139 + 2 ^ 139 := by decide
    omega
  have := (Nat.pow_lt_pow_iff_right (by decide : 1 < 2)).1 h2
  omega
theorem pure_most_work (_ : Ok K A) (h : sp_most_work K A [v0, v1, v2] H Q E) : t_most_work K A E { nx := fun _ H' => Q .non H', rt := Q } [some v0, some v1, some v2] H := by
  obtain ⟨d, x, y, t, rfl, ht, rfl, rfl, hx, k⟩ := h
  have hl := lev139 hx
  unfold t_most_work
  repeat walk_at "s1"
  refine x_eq rfl ?_
  repeat walk_at "s1"
  match d, ht, k with
  | 0, ht, k =>
    obtain rfl : ("put" : Str) = t := Option.some.inj ht
    refine x_T (decide_eq_true rfl) ?_
    repeat walk_at "s1"
    exact ⟨x, rfl, k⟩
  | 1, ht, k =>
    obtain rfl : ("pour" : Str) = t := Option.some.inj ht
    refine x_F (by decide +kernel) ?_
    repeat walk_at "s1"
    refine x_eq rfl ?_
    repeat walk_at "s1"
    refine x_T (decide_eq_true rfl) ?_
    repeat walk_at "s1"
    refine ⟨x, rfl, ?_⟩
    repeat walk_at "s1"
    refine ⟨y, rfl, ?_⟩
    repeat walk_at "s1"
    exact k
  | 2, ht, k =>
    obtain rfl : ("take" : Str) = t := Option.some.inj ht
    refine x_F (by decide +kernel) ?_
    repeat walk_at "s1"
    refine x_eq rfl ?_
    repeat walk_at "s1"
    refine x_F (by decide +kernel) ?_
    repeat walk_at "s1"
    refine x_eq rfl ?_
    repeat walk_at "s1"
    refine x_T (decide_eq_true rfl) ?_
    repeat walk_at "s1"
    refine ⟨x, rfl, ?_⟩
    repeat walk_at "s1"
    refine x_mul (by omega) ?_
    exact k
  | 3, ht, k =>
    obtain rfl : ("sink" : Str) = t := Option.some.inj ht
    refine x_F (by decide +kernel) ?_
    repeat walk_at "s1"
    refine x_eq rfl ?_
    repeat walk_at "s1"
    refine x_F (by decide +kernel) ?_
    repeat walk_at "s1"
    refine x_eq rfl ?_
    repeat walk_at "s1"
    refine x_F (by decide +kernel) ?_
    repeat walk_at "s1"
    refine ⟨x, rfl, ?_⟩
    repeat walk_at "s1"
    refine x_mul (by omega) ?_
    exact k
  | n + 4, ht, k => simp [deeds] at ht
theorem pure_l_number (_ : Ok K A) (h : sp_l_number K A [v0] H Q E) : t_l_number K A E { nx := fun _ H' => Q .non H', rt := Q } [some v0] H := by
  obtain ⟨c, rfl, hb, k⟩ := h
  have fin : ∀ z : Int, 0 ≤ z → z < 2 ^ 139 → Q (.int z) H := fun z h0 h1 => by
    obtain ⟨n, rfl⟩ : ∃ n : Nat, z = n := ⟨z.toNat, by omega⟩
    exact k n (by omega)
  unfold t_l_number
  repeat walk_at "s1"
  refine x_mod (by decide) ?_
  repeat walk_at "s1"
  refine x_ite (fun h2 => ?_) (fun h2 => ?_)
  · repeat walk_at "s1"
    refine x_div (by decide) ?_
    repeat walk_at "s1"
    refine x_pow (by decide) ?_
    repeat walk_at "s1"
    refine x_I (Bits.mulOk (Bits.div hb (by decide)) (by decide)) ?_
    repeat walk_at "s1"
    refine x_pow (by decide) ?_
    repeat walk_at "s1"
    refine x_mod (by decide) ?_
    exact fin _ (Int.emod_nonneg _ (by decide)) (Int.lt_trans (Int.emod_lt_of_pos _ (by decide)) (by decide))
  · repeat walk_at "s1"
    refine x_div (by decide) ?_
    repeat walk_at "s1"
    refine x_mod (by decide) ?_
    exact fin _ (by omega) (by omega)
theorem pure_law (_ : Ok K A) (h : sp_law K A [v0] H Q E) : t_law K A E { nx := fun _ H' => Q .non H', rt := Q } [some v0, none, none, none, none, none, none] H := by
  obtain ⟨a, ns, rfl, hS, hl, hb, hO, k⟩ := h
  unfold t_law
  repeat walk_at "s1"
  refine ⟨a, ns, 0, rfl, rfl, hS, ?_⟩
  repeat walk_at "s1"
  refine ⟨_, rfl, Bits.cell hb 0, fun x hx => ?_⟩
  repeat walk_at "s1"
  refine ⟨a, ns, 1, rfl, rfl, hS, ?_⟩
  repeat walk_at "s1"
  refine ⟨_, rfl, Bits.cell hb 1, fun y hy => ?_⟩
  repeat walk_at "s1"
  refine ⟨a, ns, 2, rfl, rfl, hS, ?_⟩
  repeat walk_at "s1"
  refine x_mod (by decide) ?_
  obtain ⟨d, hd, hd4⟩ : ∃ d : Nat, cellOf ns 2 % 4 = d ∧ d < 4 := ⟨(cellOf ns 2 % 4).toNat, by omega, by omega⟩
  rw [hd]
  repeat walk_at "s1"
  refine ⟨by decide, fun p hp => ?_⟩
  have e4 : deeds[d]? = some (deeds[d]'(by simpa [deeds] using hd4)) := List.getElem?_eq_getElem _
  repeat walk_at "s1"
  refine x_ixL (xs := deeds.map V.str) (sl_of upd_same) rfl (at_map e4) ?_
  repeat walk_at "s1"
  refine ⟨d, x, y, _, rfl, e4, rfl, rfl, hx, ?_⟩
  repeat walk_at "s1"
  refine ⟨x, rfl, ?_⟩
  repeat walk_at "s1"
  refine ⟨y, rfl, ?_⟩
  repeat walk_at "s1"
  refine ⟨sz_le (by simp), fun q hq => ?_⟩
  repeat walk_at "s1"
  have e5 : ([(lev x : Int), lev x + lev y, lev x + lev x, lev x + lev x + lev x] : List Int)[d]? = some (most d x y) := by
    match d, hd4 with
    | 0, _ => rfl
    | 1, _ => rfl
    | 2, _ => show some ((lev x : Int) + lev x) = some (2 * (lev x : Int)); rw [Int.two_mul]
    | 3, _ => show some ((lev x : Int) + lev x + lev x) = some (3 * (lev x : Int)); congr 1; omega
  refine x_ixL (xs := ([(lev x : Int), lev x + lev y, lev x + lev x, lev x + lev x + lev x] : List Int).map V.int) (sl_of upd_same) rfl (at_map e5) ?_
  repeat walk_at "s1"
  refine x_isiI (b := true) (by decide +kernel) ?_
  repeat walk_at "s1"
  refine x_T rfl ?_
  repeat walk_at "s1"
  refine x_isiI (b := false) (by decide +kernel) ?_
  repeat walk_at "s1"
  refine x_T rfl ?_
  repeat walk_at "s1"
  rw [decide_eq_true rfl]
  exact k _
end
end Sk02

/-! the text by places, the scopes, what the top has written, the derivations: printed by gen.py out of the linked text of law_k02_most_work -/
namespace Sk02
open PySem PySem.Spec PyProof.Rows L2 G
def top (i : Nat) : Stmt := PySem.Challenge.pw_splitheap_k02_most_work.main.body.getD i (.Pass ⟨0, 0, 0, 0⟩)
abbrev s_levels : Stmt := top 1
abbrev N_levels : List Str := ["number", "count", "power"]
abbrev s_most_work : Stmt := top 2
abbrev N_most_work : List Str := ["deed", "things", "others"]
abbrev s_l_cell : Stmt := top 4
abbrev N_l_cell : List Str := ["_law_script", "_law_k"]
abbrev s_l_levels : Stmt := top 5
abbrev N_l_levels : List Str := ["_law_number_here", "_law_count", "_law_power"]
abbrev s_l_number : Stmt := top 6
abbrev N_l_number : List Str := ["_law_cell_here"]
abbrev s_law : Stmt := top 7
abbrev N_law : List Str := ["_law_script", "_law_things", "_law_others", "_law_pick", "_law_found", "_law_one", "_law_due"]
theorem sc_levels : FnScope N_levels ["number"] (defScope s_levels) := ⟨rfl, rfl, rfl, by decide +kernel, rfl, by decide +kernel, by decide +kernel⟩
theorem sc_most_work : FnScope N_most_work ["deed", "things", "others"] (defScope s_most_work) := ⟨rfl, rfl, rfl, by decide +kernel, rfl, by decide +kernel, by decide +kernel⟩
theorem sc_l_cell : FnScope N_l_cell ["_law_script", "_law_k"] (defScope s_l_cell) := ⟨rfl, rfl, rfl, by decide +kernel, rfl, by decide +kernel, by decide +kernel⟩
theorem sc_l_levels : FnScope N_l_levels ["_law_number_here"] (defScope s_l_levels) := ⟨rfl, rfl, rfl, by decide +kernel, rfl, by decide +kernel, by decide +kernel⟩
theorem sc_l_number : FnScope N_l_number ["_law_cell_here"] (defScope s_l_number) := ⟨rfl, rfl, rfl, by decide +kernel, rfl, by decide +kernel, by decide +kernel⟩
theorem sc_law : FnScope N_law ["_law_script"] (defScope s_law) := ⟨rfl, rfl, rfl, by decide +kernel, rfl, by decide +kernel, by decide +kernel⟩
structure Tx (K : PySem.W.Frag) (mg : Str → Option Value) where
  A : Ad
  ok : Ok K A
  f_levels : Addr
  fd_levels : FuncData
  F_levels : Fun K "levels" "levels" s_levels f_levels fd_levels
  b_levels : Binds K fd_levels ["number"] []
  g_levels : mg "levels" = some (.ref f_levels)
  f_most_work : Addr
  fd_most_work : FuncData
  F_most_work : Fun K "most_work" "most_work" s_most_work f_most_work fd_most_work
  b_most_work : Binds K fd_most_work ["deed", "things", "others"] []
  g_most_work : mg "most_work" = some (.ref f_most_work)
  f_l_cell : Addr
  fd_l_cell : FuncData
  F_l_cell : Fun K "_law_cell" "_law_cell" s_l_cell f_l_cell fd_l_cell
  b_l_cell : Binds K fd_l_cell ["_law_script", "_law_k"] []
  g_l_cell : mg "_law_cell" = some (.ref f_l_cell)
  f_l_levels : Addr
  fd_l_levels : FuncData
  F_l_levels : Fun K "_law_levels" "_law_levels" s_l_levels f_l_levels fd_l_levels
  b_l_levels : Binds K fd_l_levels ["_law_number_here"] []
  g_l_levels : mg "_law_levels" = some (.ref f_l_levels)
  f_l_number : Addr
  fd_l_number : FuncData
  F_l_number : Fun K "_law_number" "_law_number" s_l_number f_l_number fd_l_number
  b_l_number : Binds K fd_l_number ["_law_cell_here"] []
  g_l_number : mg "_law_number" = some (.ref f_l_number)
  f_law : Addr
  fd_law : FuncData
  F_law : Fun K "law" "law" s_law f_law fd_law
  b_law : Binds K fd_law ["_law_script"] []
  g_law : mg "law" = some (.ref f_law)
  xs : ExcFacts_k02 K A
  z_bool : mg "bool" = none
  z_int : mg "int" = none
  z_isinstance : mg "isinstance" = none
  z_len : mg "len" = none
section
variable {P : Program} {w : World} {K : PySem.W.Frag} {mg : Str → Option Value} {base : Heap}
theorem ok_levels (T : Tx K mg) : FnOk P w K mg base CX0 1 T.f_levels T.fd_levels ["number"] (sp_levels K T.A) := by
  refine T.F_levels.ok sc_levels (fun vs H Q E h => match vs, h with | [_], _ => rfl) (fun cdv Ar outer s H vs Q E hr h => ⟨t_levels K T.A E, ?_, match vs, h with | [v0], h => pure_levels T.ok h⟩)
  exact (pss_cons (ps_set (i := 1) sc_levels.nd rfl (by first | exact Or.inl rfl | exact Or.inr rfl) pe_int)
    (pss_cons (ps_set (i := 2) sc_levels.nd rfl (by first | exact Or.inl rfl | exact Or.inr rfl) pe_int)
    (pss_cons (ps_while PassesOwn.never (pt_cmpR op_le (pv 2) (pe_op op_add (pv 0) pe_int) (nomark _)) (pss_cons (ps_set (i := 2) sc_levels.nd rfl (by first | exact Or.inl rfl | exact Or.inr rfl) (pe_op op_mul pe_int (pv 2)))
    (pss_one (ps_set (i := 1) sc_levels.nd rfl (by first | exact Or.inl rfl | exact Or.inr rfl) (pe_op op_add (pv 1) pe_int)))))
    (pss_one (ps_ret (pv 1))))))
theorem ok_most_work (T : Tx K mg) : FnOk P w K mg base CX0 2 T.f_most_work T.fd_most_work ["deed", "things", "others"] (sp_most_work K T.A) := by
  refine T.F_most_work.ok sc_most_work (fun vs H Q E h => match vs, h with | [_, _, _], _ => rfl) (fun cdv Ar outer s H vs Q E hr h => ⟨t_most_work K T.A E, ?_, match vs, h with | [v0, v1, v2], h => pure_most_work T.ok h⟩)
  exact (pss_cons (ps_if (pt_cmpR op_eq (pv 0) pe_str (nomark _)) (pss_one (ps_ret (pe_call (E := E0) (ok_levels T) (hr.mono (by decide)) (by rfl) T.g_levels T.F_levels.kp T.b_levels .nil pass0 (pa_cons (pv 1) pa_nil)))) pss_nil)
    (pss_cons (ps_if (pt_cmpR op_eq (pv 0) pe_str (nomark _)) (pss_one (ps_ret (pe_op op_add (pe_call (E := E0) (ok_levels T) (hr.mono (by decide)) (by rfl) T.g_levels T.F_levels.kp T.b_levels .nil pass0 (pa_cons (pv 1) pa_nil)) (pe_call (E := E0) (ok_levels T) (hr.mono (by decide)) (by rfl) T.g_levels T.F_levels.kp T.b_levels .nil pass0 (pa_cons (pv 2) pa_nil))))) pss_nil)
    (pss_cons (ps_if (pt_cmpR op_eq (pv 0) pe_str (nomark _)) (pss_one (ps_ret (pe_op op_mul pe_int (pe_call (E := E0) (ok_levels T) (hr.mono (by decide)) (by rfl) T.g_levels T.F_levels.kp T.b_levels .nil pass0 (pa_cons (pv 1) pa_nil))))) pss_nil)
    (pss_one (ps_ret (pe_op op_mul pe_int (pe_call (E := E0) (ok_levels T) (hr.mono (by decide)) (by rfl) T.g_levels T.F_levels.kp T.b_levels .nil pass0 (pa_cons (pv 1) pa_nil))))))))
theorem ok_l_cell (T : Tx K mg) : FnOk P w K mg base CX0 1 T.f_l_cell T.fd_l_cell ["_law_script", "_law_k"] (sp_l_cell K T.A) := by
  refine T.F_l_cell.ok sc_l_cell (fun vs H Q E h => match vs, h with | [_, _], _ => rfl) (fun cdv Ar outer s H vs Q E hr h => ⟨t_l_cell K T.A E, ?_, match vs, h with | [v0, v1], h => pure_l_cell T.ok h⟩)
  exact (pss_cons (ps_if (pt_cmpR op_lt (pv 1) (pe_callB call_len' (by rfl) T.z_len PySem.boot_len (pa_cons (pv 0) pa_nil)) (nomark _)) (pss_one (ps_ret (pe_ix ix_list (pv 0) (pv 1) (fun _ _ => rfl)))) pss_nil)
    (pss_one (ps_ret pe_int)))
theorem ok_l_levels (T : Tx K mg) : FnOk P w K mg base CX0 1 T.f_l_levels T.fd_l_levels ["_law_number_here"] (sp_l_levels K T.A) := by
  refine T.F_l_levels.ok sc_l_levels (fun vs H Q E h => match vs, h with | [_], _ => rfl) (fun cdv Ar outer s H vs Q E hr h => ⟨t_l_levels K T.A E, ?_, match vs, h with | [v0], h => pure_l_levels T.ok h⟩)
  exact (pss_cons (ps_set (i := 1) sc_l_levels.nd rfl (by first | exact Or.inl rfl | exact Or.inr rfl) pe_int)
    (pss_cons (ps_set (i := 2) sc_l_levels.nd rfl (by first | exact Or.inl rfl | exact Or.inr rfl) pe_int)
    (pss_cons (ps_while PassesOwn.never (pt_cmpR op_le (pv 2) (pe_op op_add (pv 0) pe_int) (nomark _)) (pss_cons (ps_set (i := 2) sc_l_levels.nd rfl (by first | exact Or.inl rfl | exact Or.inr rfl) (pe_op op_add (pv 2) (pv 2)))
    (pss_one (ps_set (i := 1) sc_l_levels.nd rfl (by first | exact Or.inl rfl | exact Or.inr rfl) (pe_op op_add (pv 1) pe_int)))))
    (pss_one (ps_ret (pv 1))))))
theorem ok_l_number (T : Tx K mg) : FnOk P w K mg base CX0 1 T.f_l_number T.fd_l_number ["_law_cell_here"] (sp_l_number K T.A) := by
  refine T.F_l_number.ok sc_l_number (fun vs H Q E h => match vs, h with | [_], _ => rfl) (fun cdv Ar outer s H vs Q E hr h => ⟨t_l_number K T.A E, ?_, match vs, h with | [v0], h => pure_l_number T.ok h⟩)
  exact (pss_cons (ps_if (pt_cmpR op_eq (pe_op op_mod (pv 0) pe_int) pe_int (nomark _)) (pss_one (ps_ret (pe_op op_mod (pe_op op_mulX (pe_op op_fdiv (pv 0) pe_int) (pe_op op_pow pe_int pe_int)) (pe_op op_pow pe_int pe_int)))) pss_nil)
    (pss_one (ps_ret (pe_op op_mod (pe_op op_fdiv (pv 0) pe_int) pe_int))))
theorem ok_law (T : Tx K mg) : FnOk P w K mg base CX0 3 T.f_law T.fd_law ["_law_script"] (sp_law K T.A) := by
  refine T.F_law.ok sc_law (fun vs H Q E h => match vs, h with | [_], _ => rfl) (fun cdv Ar outer s H vs Q E hr h => ⟨t_law K T.A E, ?_, match vs, h with | [v0], h => pure_law T.ok h⟩)
  exact (pss_cons (ps_set (i := 1) sc_law.nd rfl (by first | exact Or.inl rfl | exact Or.inr rfl) (pe_call (E := E0) (ok_l_number T) (hr.mono (by decide)) (by rfl) T.g_l_number T.F_l_number.kp T.b_l_number .nil pass0 (pa_cons (pe_call (E := E0) (ok_l_cell T) (hr.mono (by decide)) (by rfl) T.g_l_cell T.F_l_cell.kp T.b_l_cell .nil pass0 (pa_cons (pv 0) (pa_cons pe_int pa_nil))) pa_nil)))
    (pss_cons (ps_set (i := 2) sc_law.nd rfl (by first | exact Or.inl rfl | exact Or.inr rfl) (pe_call (E := E0) (ok_l_number T) (hr.mono (by decide)) (by rfl) T.g_l_number T.F_l_number.kp T.b_l_number .nil pass0 (pa_cons (pe_call (E := E0) (ok_l_cell T) (hr.mono (by decide)) (by rfl) T.g_l_cell T.F_l_cell.kp T.b_l_cell .nil pass0 (pa_cons (pv 0) (pa_cons pe_int pa_nil))) pa_nil)))
    (pss_cons (ps_set (i := 3) sc_law.nd rfl (by first | exact Or.inl rfl | exact Or.inr rfl) (pe_op op_mod (pe_call (E := E0) (ok_l_cell T) (hr.mono (by decide)) (by rfl) T.g_l_cell T.F_l_cell.kp T.b_l_cell .nil pass0 (pa_cons (pv 0) (pa_cons pe_int pa_nil))) pe_int))
    (pss_cons (ps_set (i := 4) sc_law.nd rfl (by first | exact Or.inl rfl | exact Or.inr rfl) (pe_call (E := E0) (ok_most_work T) (hr.mono (by decide)) (by rfl) T.g_most_work T.F_most_work.kp T.b_most_work .nil pass0 (pa_cons (pe_ix ix_list (pe_lst (pa_cons pe_str (pa_cons pe_str (pa_cons pe_str (pa_cons pe_str pa_nil))))) (pv 3) (fun _ _ => rfl)) (pa_cons (pv 1) (pa_cons (pv 2) pa_nil)))))
    (pss_cons (ps_set (i := 5) sc_law.nd rfl (by first | exact Or.inl rfl | exact Or.inr rfl) (pe_call (E := E0) (ok_l_levels T) (hr.mono (by decide)) (by rfl) T.g_l_levels T.F_l_levels.kp T.b_l_levels .nil pass0 (pa_cons (pv 1) pa_nil)))
    (pss_cons (ps_set (i := 6) sc_law.nd rfl (by first | exact Or.inl rfl | exact Or.inr rfl) (pe_ix ix_list (pe_lst (pa_cons (pv 5) (pa_cons (pe_op op_add (pv 5) (pe_call (E := E0) (ok_l_levels T) (hr.mono (by decide)) (by rfl) T.g_l_levels T.F_l_levels.kp T.b_l_levels .nil pass0 (pa_cons (pv 2) pa_nil))) (pa_cons (pe_op op_add (pv 5) (pv 5)) (pa_cons (pe_op op_add (pe_op op_add (pv 5) (pv 5)) (pv 5)) pa_nil))))) (pv 3) (fun _ _ => rfl)))
    (pss_one (ps_ret (pe_and (pe_callB call_isi (by rfl) T.z_isinstance (by decide +kernel) (pa_cons (pv 4) (pa_cons (pe_bltn (v := .ty "int") (by rfl) T.z_int (by decide +kernel) rfl) pa_nil))) (pe_and (pe_not (pe_callB call_isi (by rfl) T.z_isinstance (by decide +kernel) (pa_cons (pv 4) (pa_cons (pe_bltn (v := .ty "bool") (by rfl) T.z_bool (by decide +kernel) rfl) pa_nil)))) (pe_one (pe_cmpR op_eq (pv 4) (pv 6) (nomark _)))))))))))))
end
theorem all_mk {P : Program} {w : World} {K : PySem.W.Frag} {h : Heap} {mg : Str → Option Value} {fa : Addr} (X : K.In h) (G : h.Ns mainGlobals mg) (hfa : mg "law" = some (.ref fa))
    {f_levels : Addr} {od_levels an_levels : Option Addr} {sl_levels : Array (Option Value)} {oc_levels kV_levels dc_levels pm_levels cd_levels ct_levels : Value}
    (a_levels : PySem.W.nsIn K mainGlobals "levels" = some (some (.ref f_levels)))
    (l_levels : K.lookup f_levels = some ⟨oc_levels, od_levels, .func (PySem.W.fnOf "levels" "levels" (defArgs s_levels) (defBody s_levels) (defScope s_levels) .none kV_levels dc_levels pm_levels an_levels cd_levels ct_levels), sl_levels⟩)
    (c_levels : PySem.W.codeIn K cd_levels "levels" = true)
    (k_levels : PySem.W.keepIn K (.ref f_levels) = true)
    {f_most_work : Addr} {od_most_work an_most_work : Option Addr} {sl_most_work : Array (Option Value)} {oc_most_work kV_most_work dc_most_work pm_most_work cd_most_work ct_most_work : Value}
    (a_most_work : PySem.W.nsIn K mainGlobals "most_work" = some (some (.ref f_most_work)))
    (l_most_work : K.lookup f_most_work = some ⟨oc_most_work, od_most_work, .func (PySem.W.fnOf "most_work" "most_work" (defArgs s_most_work) (defBody s_most_work) (defScope s_most_work) .none kV_most_work dc_most_work pm_most_work an_most_work cd_most_work ct_most_work), sl_most_work⟩)
    (c_most_work : PySem.W.codeIn K cd_most_work "most_work" = true)
    (k_most_work : PySem.W.keepIn K (.ref f_most_work) = true)
    {f_l_cell : Addr} {od_l_cell an_l_cell : Option Addr} {sl_l_cell : Array (Option Value)} {oc_l_cell kV_l_cell dc_l_cell pm_l_cell cd_l_cell ct_l_cell : Value}
    (a_l_cell : PySem.W.nsIn K mainGlobals "_law_cell" = some (some (.ref f_l_cell)))
    (l_l_cell : K.lookup f_l_cell = some ⟨oc_l_cell, od_l_cell, .func (PySem.W.fnOf "_law_cell" "_law_cell" (defArgs s_l_cell) (defBody s_l_cell) (defScope s_l_cell) .none kV_l_cell dc_l_cell pm_l_cell an_l_cell cd_l_cell ct_l_cell), sl_l_cell⟩)
    (c_l_cell : PySem.W.codeIn K cd_l_cell "_law_cell" = true)
    (k_l_cell : PySem.W.keepIn K (.ref f_l_cell) = true)
    {f_l_levels : Addr} {od_l_levels an_l_levels : Option Addr} {sl_l_levels : Array (Option Value)} {oc_l_levels kV_l_levels dc_l_levels pm_l_levels cd_l_levels ct_l_levels : Value}
    (a_l_levels : PySem.W.nsIn K mainGlobals "_law_levels" = some (some (.ref f_l_levels)))
    (l_l_levels : K.lookup f_l_levels = some ⟨oc_l_levels, od_l_levels, .func (PySem.W.fnOf "_law_levels" "_law_levels" (defArgs s_l_levels) (defBody s_l_levels) (defScope s_l_levels) .none kV_l_levels dc_l_levels pm_l_levels an_l_levels cd_l_levels ct_l_levels), sl_l_levels⟩)
    (c_l_levels : PySem.W.codeIn K cd_l_levels "_law_levels" = true)
    (k_l_levels : PySem.W.keepIn K (.ref f_l_levels) = true)
    {f_l_number : Addr} {od_l_number an_l_number : Option Addr} {sl_l_number : Array (Option Value)} {oc_l_number kV_l_number dc_l_number pm_l_number cd_l_number ct_l_number : Value}
    (a_l_number : PySem.W.nsIn K mainGlobals "_law_number" = some (some (.ref f_l_number)))
    (l_l_number : K.lookup f_l_number = some ⟨oc_l_number, od_l_number, .func (PySem.W.fnOf "_law_number" "_law_number" (defArgs s_l_number) (defBody s_l_number) (defScope s_l_number) .none kV_l_number dc_l_number pm_l_number an_l_number cd_l_number ct_l_number), sl_l_number⟩)
    (c_l_number : PySem.W.codeIn K cd_l_number "_law_number" = true)
    (k_l_number : PySem.W.keepIn K (.ref f_l_number) = true)
    {f_law : Addr} {od_law an_law : Option Addr} {sl_law : Array (Option Value)} {oc_law kV_law dc_law pm_law cd_law ct_law : Value}
    (a_law : PySem.W.nsIn K mainGlobals "law" = some (some (.ref f_law)))
    (l_law : K.lookup f_law = some ⟨oc_law, od_law, .func (PySem.W.fnOf "law" "law" (defArgs s_law) (defBody s_law) (defScope s_law) .none kV_law dc_law pm_law an_law cd_law ct_law), sl_law⟩)
    (c_law : PySem.W.codeIn K cd_law "law" = true)
    (k_law : PySem.W.keepIn K (.ref f_law) = true)
    (z_bool : PySem.W.nsIn K mainGlobals "bool" = some none)
    (z_int : PySem.W.nsIn K mainGlobals "int" = some none)
    (z_isinstance : PySem.W.nsIn K mainGlobals "isinstance" = some none)
    (z_len : PySem.W.nsIn K mainGlobals "len" = some none)
    : ∃ fd : FuncData, (∀ (s : Shared) (u : Value), BindsTo s fd ⟨[u], []⟩ [("_law_script", u)]) ∧ ∀ base : Heap, K.In base → base.Ns mainGlobals mg → FnOk P w K mg base CX0 3 fa fd ["_law_script"] (spLaw K) := by
  have e := hfa.symm.trans (PySem.W.mg_of X G a_law)
  cases e
  have F_levels := fun_mk (st := s_levels) l_levels c_levels k_levels
  have b_levels := F_levels.binds (ps := ["number"]) fun _ _ _ _ _ _ us hl => match us, hl with | [_], _ => rfl
  have F_most_work := fun_mk (st := s_most_work) l_most_work c_most_work k_most_work
  have b_most_work := F_most_work.binds (ps := ["deed", "things", "others"]) fun _ _ _ _ _ _ us hl => match us, hl with | [_, _, _], _ => rfl
  have F_l_cell := fun_mk (st := s_l_cell) l_l_cell c_l_cell k_l_cell
  have b_l_cell := F_l_cell.binds (ps := ["_law_script", "_law_k"]) fun _ _ _ _ _ _ us hl => match us, hl with | [_, _], _ => rfl
  have F_l_levels := fun_mk (st := s_l_levels) l_l_levels c_l_levels k_l_levels
  have b_l_levels := F_l_levels.binds (ps := ["_law_number_here"]) fun _ _ _ _ _ _ us hl => match us, hl with | [_], _ => rfl
  have F_l_number := fun_mk (st := s_l_number) l_l_number c_l_number k_l_number
  have b_l_number := F_l_number.binds (ps := ["_law_cell_here"]) fun _ _ _ _ _ _ us hl => match us, hl with | [_], _ => rfl
  have F_law := fun_mk (st := s_law) l_law c_law k_law
  have b_law := F_law.binds (ps := ["_law_script"]) fun _ _ _ _ _ _ us hl => match us, hl with | [_], _ => rfl
  let T : Tx K mg := {
    A := (Ad.mk 0 0 0 0 0 0 0 0)
    ok := trivial
    f_levels := f_levels, fd_levels := _, F_levels := F_levels, b_levels := b_levels
    g_levels := PySem.W.mg_of X G a_levels
    f_most_work := f_most_work, fd_most_work := _, F_most_work := F_most_work, b_most_work := b_most_work
    g_most_work := PySem.W.mg_of X G a_most_work
    f_l_cell := f_l_cell, fd_l_cell := _, F_l_cell := F_l_cell, b_l_cell := b_l_cell
    g_l_cell := PySem.W.mg_of X G a_l_cell
    f_l_levels := f_l_levels, fd_l_levels := _, F_l_levels := F_l_levels, b_l_levels := b_l_levels
    g_l_levels := PySem.W.mg_of X G a_l_levels
    f_l_number := f_l_number, fd_l_number := _, F_l_number := F_l_number, b_l_number := b_l_number
    g_l_number := PySem.W.mg_of X G a_l_number
    f_law := fa, fd_law := _, F_law := F_law, b_law := b_law
    g_law := PySem.W.mg_of X G a_law
    xs := trivial
    z_bool := PySem.W.mg_none_of X G z_bool
    z_int := PySem.W.mg_none_of X G z_int
    z_isinstance := PySem.W.mg_none_of X G z_isinstance
    z_len := PySem.W.mg_none_of X G z_len
    }
  exact ⟨_, fun s u => .of_eq rfl, fun base _ _ => ok_law T⟩
end Sk02
open PySem PySem.W PyProof.Rows
set_option maxRecDepth 100000 in
set_option maxHeartbeats 0 in
theorem PySem.Challenge.cw_splitheap_k02_most_work_holds : PySem.Challenge.rw_splitheap_k02_most_work.Holds := by
  w_on; o_law; k_head; (case hw => w_witness2)
  k_fill
  refine G.walk_law (k := 3) (x := "_law_script") (l := PySem.Challenge.rw_splitheap_k02_most_work) rfl rfl ⟨rfl, by decide, by decide⟩ (fun w h Y => PySem.W.kIn_of Y) ?F
  case F =>
    intro w mg fa h KX G hmg
    refine' Sk02.all_mk KX G hmg ?a_levels ?l_levels ?c_levels ?k_levels ?a_most_work ?l_most_work ?c_most_work ?k_most_work ?a_l_cell ?l_l_cell ?c_l_cell ?k_l_cell ?a_l_levels ?l_l_levels ?c_l_levels ?k_l_levels ?a_l_number ?l_l_number ?c_l_number ?k_l_number ?a_law ?l_law ?c_law ?k_law ?z_bool ?z_int ?z_isinstance ?z_len
    (case a_levels => k_is)
    (case l_levels => k_is)
    (case c_levels => k_is)
    (case k_levels => k_is)
    (case a_most_work => k_is)
    (case l_most_work => k_is)
    (case c_most_work => k_is)
    (case k_most_work => k_is)
    (case a_l_cell => k_is)
    (case l_l_cell => k_is)
    (case c_l_cell => k_is)
    (case k_l_cell => k_is)
    (case a_l_levels => k_is)
    (case l_l_levels => k_is)
    (case c_l_levels => k_is)
    (case k_l_levels => k_is)
    (case a_l_number => k_is)
    (case l_l_number => k_is)
    (case c_l_number => k_is)
    (case k_l_number => k_is)
    (case a_law => k_is)
    (case l_law => k_is)
    (case c_law => k_is)
    (case k_law => k_is)
    (case z_bool => k_is)
    (case z_int => k_is)
    (case z_isinstance => k_is)
    (case z_len => k_is)
#print axioms PySem.Challenge.cw_splitheap_k02_most_work_holds
