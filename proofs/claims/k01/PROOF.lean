import PyProof.Rows.All
import Wide.All
import OpenK.AllK
import Wide.FinOn
import HandS.ForMost
import HandS.ForExc
import HandS.IsInst
import HandS.Wide
import HandS.EndBits
import KE.RegMulBits
import HandS.TryMany
import PySem.Challenge.RW_splitheap_k01_levels
set_option Elab.async false
set_option linter.all false
set_option maxRecDepth 100000
set_option maxHeartbeats 4000000
/-! ### the walk: routine steps; w_ix by facts in the context -/
local macro_rules | `(tactic| walk_at "s1") => `(tactic| with_reducible first
  | (refine G.x_var rfl ?_)
  | (refine G.x_c ?_)
  | (refine G.x_op ?_)
  | (refine G.x_I0 ?_)
  | (refine G.x_seq ?_)
  | (refine G.x_asg ?_)
  | (refine G.x_ret ?_)
  | (refine G.x_drop ?_)
  | (refine G.x_next ?_)
  | (refine G.x_ifS ?_)
  | (refine G.x_tTest ?_)
  | (refine G.x_tB ?_)
  | (refine G.x_bl ?_)
  | (refine G.x_and ?_)
  | (refine G.x_or ?_)
  | (refine G.x_not ?_)
  | (refine G.x_andV ?_)
  | (refine G.x_orV ?_)
  | (refine G.x_notV ?_)
  | (refine G.x_chain ?_)
  | (refine G.x_nil ?_)
  | (refine G.x_cons ?_)
  | (refine G.x_tup ?_)
  | (refine G.x_lst ?_)
  | (refine G.x_call ?_)
  | (refine G.x_meth ?_)
  | (refine G.x_cb ?_)
  | (refine G.x_fld ?_)
  | (refine G.x_sfld ?_)
  | (refine G.x_un ?_)
  | (refine G.x_U ?_)
  | (refine G.x_eqI ?_)
  | (refine G.x_neI ?_)
  | (refine G.x_isN ?_)
  | (refine G.x_notN ?_)
  | (refine G.x_max2 ?_)
  | (refine G.x_min2 ?_)
  | (refine G.x_abs ?_)
  | (refine G.x_asgG ?_)
  | (refine G.x_retN ?_))
local macro_rules | `(tactic| walk_at "se") => `(tactic| with_reducible first
  | (refine G.x_var rfl ?_)
  | (refine G.x_c ?_)
  | (refine G.x_op ?_)
  | (refine G.x_I0 ?_)
  | (refine G.x_asg ?_)
  | (refine G.x_ret ?_)
  | (refine G.x_drop ?_)
  | (refine G.x_next ?_)
  | (refine G.x_ifS ?_)
  | (refine G.x_tTest ?_)
  | (refine G.x_tB ?_)
  | (refine G.x_bl ?_)
  | (refine G.x_and ?_)
  | (refine G.x_or ?_)
  | (refine G.x_not ?_)
  | (refine G.x_andV ?_)
  | (refine G.x_orV ?_)
  | (refine G.x_notV ?_)
  | (refine G.x_chain ?_)
  | (refine G.x_nil ?_)
  | (refine G.x_cons ?_)
  | (refine G.x_tup ?_)
  | (refine G.x_lst ?_)
  | (refine G.x_call ?_)
  | (refine G.x_meth ?_)
  | (refine G.x_cb ?_)
  | (refine G.x_fld ?_)
  | (refine G.x_sfld ?_)
  | (refine G.x_un ?_)
  | (refine G.x_U ?_)
  | (refine G.x_eqI ?_)
  | (refine G.x_neI ?_)
  | (refine G.x_isN ?_)
  | (refine G.x_notN ?_)
  | (refine G.x_max2 ?_)
  | (refine G.x_min2 ?_)
  | (refine G.x_abs ?_)
  | (refine G.x_asgG ?_)
  | (refine G.x_retN ?_))
/-! The base: readings walked from the left (x_..), heaps, frames. -/
namespace G
open PySem PySem.Spec PyProof.Rows L2

/-! ### operators' readings by name -/
abbrev oAdd : R2 := rI0 fun i j => .int (i + j)
abbrev oSub : R2 := rI0 fun i j => .int (i - j)
abbrev oMul : R2 := rI CMul fun i j => .int (i * j)
abbrev oMulX : R2 := rI IntMulOk fun i j => .int (i * j)
abbrev oDiv : R2 := rI CDiv fun i j => .int (i / j)
abbrev oMod : R2 := rI (fun _ j => 0 < j) fun i j => .int (i % j)
abbrev oPow : R2 := rI CPow fun i j => .int (i ^ j.toNat)
abbrev oLt : R2 := rI0 fun i j => .bl (decide (i < j))
abbrev oLe : R2 := rI0 fun i j => .bl (decide (i ≤ j))
abbrev oGt : R2 := rI0 fun i j => .bl (decide (j < i))
abbrev oGe : R2 := rI0 fun i j => .bl (decide (j ≤ i))
def oIsN : R2 := fun x y H Q => y = .non ∧ Q (.bl (decide (x = .non))) H
def oNotN : R2 := fun x y H Q => y = .non ∧ Q (.bl (!decide (x = .non))) H
abbrev oNeg : V → Hp → VK → Prop := rU fun i => .int (-i)
theorem op_mulX {X : Cx} : OpR X (binaryOp .Mult) oMulX := opI fun _ _ _ _ _ _ _ hc q => mul_int q hc
theorem op_isN' {X : Cx} : OpR X (compareOp .Is) oIsN := op_isN
theorem op_notN' {X : Cx} : OpR X (compareOp .IsNot) oNotN := op_notN
def oLen (K : PySem.W.Frag) : List V → Hp → VK → Prop := fun xs H Q => ∃ p ys, xs = [.ref p] ∧ (SqL K H p ys ∨ SqT K H p ys) ∧ Q (.int ys.length) H
theorem call_len' {X : Cx} : CallR X (.builtin "len") (oLen X.K) := call_len_seq
def oAbs : List V → Hp → VK → Prop := fun xs H Q => ∃ i, xs = [.int i] ∧ Q (.int (if i < 0 then -i else i)) H
theorem call_abs' {X : Cx} : CallR X (.builtin "abs") oAbs := call_abs
def oMax2 : List V → Hp → VK → Prop := fun xs H Q => ∃ i j, xs = [.int i, .int j] ∧ Q (.int (if j > i then j else i)) H
def oMin2 : List V → Hp → VK → Prop := fun xs H Q => ∃ i j, xs = [.int i, .int j] ∧ Q (.int (if j < i then j else i)) H
theorem call_max2' {X : Cx} (hc : X.calm = true) : CallR X (.builtin "max") oMax2 := call_max2 hc
theorem call_min2' {X : Cx} (hc : X.calm = true) : CallR X (.builtin "min") oMin2 := call_min2 hc
def oList (K : PySem.W.Frag) : List V → Hp → VK → Prop := fun xs H Q => ∃ p ys, xs = [.ref p] ∧ (SqL K H p ys ∨ SqT K H p ys) ∧ ∀ l, H l = none → Q (.ref l) (upd H l (.lst ys))
theorem call_list' {X : Cx} : CallR X (.type "list") (oList X.K) := call_list_of

/-! ### steps from the left -/
section
variable {K : PySem.W.Frag} {σ σ' : L2.St} {H H' : Hp} {Q : VK} {QB : Bool → Hp → Prop} {QA : List V → Hp → Prop} {ta tb tc te : TE} {t u : TT} {ts tu tw : TS} {r r' : R2} {v x y : V} {i j : Int} {D : Ends} {p a : Addr} {xs : List V}
theorem x_var {n : Nat} (h : σ[n]? = some (some v)) (k : Q v H) : tVar n σ H Q := ⟨v, h, k⟩
theorem x_c (k : Q v H) : tC v σ H Q := k
theorem x_op (k : ta σ H fun x H1 => tb σ H1 fun y H2 => r x y H2 Q) : tOp r ta tb σ H Q := k
theorem x_un {r : V → Hp → VK → Prop} (k : ta σ H fun x H1 => r x H1 Q) : tUn r ta σ H Q := k
theorem x_I0 {g : Int → Int → V} (k : Q (g i j) H) : rI0 g (.int i) (.int j) H Q := ⟨i, j, rfl, rfl, k⟩
theorem x_I {C : Int → Int → Prop} {g : Int → Int → V} (hc : C i j) (k : Q (g i j) H) : rI C g (.int i) (.int j) H Q := ⟨i, j, rfl, rfl, hc, k⟩
theorem x_U {g : Int → V} (k : Q (g i) H) : rU g (.int i) H Q := ⟨i, rfl, k⟩
theorem x_div (hc : 0 < j ∧ j < 1073741824) (k : Q (.int (i / j)) H) : rI CDiv (fun i j => .int (i / j)) (.int i) (.int j) H Q := x_I hc k
theorem x_mod (hc : 0 < j) (k : Q (.int (i % j)) H) : rI (fun _ j => 0 < j) (fun i j => .int (i % j)) (.int i) (.int j) H Q := x_I hc k
theorem x_pow (hc : 0 ≤ j ∧ j ≤ 1000000 ∧ i.natAbs < 2 ^ 64) (k : Q (.int (i ^ j.toNat)) H) : rI CPow (fun i j => .int (i ^ j.toNat)) (.int i) (.int j) H Q := x_I hc k
theorem x_mul (hc : (-(2 ^ 64) < i ∧ i < 2 ^ 64) ∨ (-(2 ^ 64) < j ∧ j < 2 ^ 64)) (k : Q (.int (i * j)) H) : rI CMul (fun i j => .int (i * j)) (.int i) (.int j) H Q := x_I hc k
theorem x_eqI (k : Q (.bl (decide (i = j))) H) : rEq (.int i) (.int j) H Q := ⟨rfl, by
  have e : decide (V.int i = V.int j) = decide (i = j) := by simp
  rw [e]; exact k⟩
theorem x_neI (k : Q (.bl (!decide (i = j))) H) : rNe (.int i) (.int j) H Q := ⟨rfl, by
  have e : decide (V.int i = V.int j) = decide (i = j) := by simp
  rw [e]; exact k⟩
theorem x_eq (hs : scal x y = true) (k : Q (.bl (decide (x = y))) H) : rEq x y H Q := ⟨hs, k⟩
theorem x_ne (hs : scal x y = true) (k : Q (.bl (!decide (x = y))) H) : rNe x y H Q := ⟨hs, k⟩
theorem x_isN (k : Q (.bl (decide (x = .non))) H) : oIsN x .non H Q := ⟨rfl, k⟩
theorem x_notN (k : Q (.bl (!decide (x = .non))) H) : oNotN x .non H Q := ⟨rfl, k⟩
theorem x_ixL {vi : V} (h : SqL K H p xs) (e : vi = .int i) (ha : atI xs i = some v) (k : Q v H) : rIxL K (.ref p) vi H Q := by subst e; exact ⟨p, xs, i, v, rfl, rfl, h, ha, k⟩
theorem x_ixT {vi : V} (h : SqT K H p xs) (e : vi = .int i) (ha : atI xs i = some v) (k : Q v H) : rIxT K (.ref p) vi H Q := by subst e; exact ⟨p, xs, i, v, rfl, rfl, h, ha, k⟩
/-! tests -/
theorem x_tTest (k : te σ H fun x H' => ∃ k, x = .bl k ∧ QB k H') : tTest te σ H QB := k
theorem x_tB (k : te σ H fun x H' => ∃ k, x = .bl k ∧ QB k H') : tB te σ H QB := k
theorem x_bl {b : Bool} {B : Bool → Prop} (k : B b) : ∃ k, V.bl b = .bl k ∧ B k := ⟨b, rfl, k⟩
theorem x_and (k : t σ H fun c H1 => if c = true then u σ H1 QB else QB false H1) : tAnd t u σ H QB := k
theorem x_or (k : t σ H fun c H1 => if c = true then QB true H1 else u σ H1 QB) : tOr t u σ H QB := k
theorem x_not (k : t σ H fun c H1 => QB (!c) H1) : tNot t σ H QB := k
theorem x_andV (k : ta σ H fun x H1 => ∃ c, x = .bl c ∧ if c = true then tb σ H1 Q else Q (.bl false) H1) : tAndV ta tb σ H Q := k
theorem x_orV (k : ta σ H fun x H1 => ∃ c, x = .bl c ∧ if c = true then Q (.bl true) H1 else tb σ H1 Q) : tOrV ta tb σ H Q := k
theorem x_notV (k : ta σ H fun x H1 => ∃ c, x = .bl c ∧ Q (.bl (!c)) H1) : tNotV ta σ H Q := k
theorem x_chain (k : ta σ H fun x H1 => tb σ H1 fun y H2 => r x y H2 fun z H3 => ∃ k, z = .bl k ∧ (if k = true then tc σ H3 fun w' H4 => r' y w' H4 Q else Q (.bl false) H3)) : tChain r r' ta tb tc σ H Q := k
theorem x_ite {c A B : Prop} [Decidable c] (h1 : c → A) (h2 : ¬ c → B) : if decide c = true then A else B := by
  by_cases h : c
  · rw [decide_eq_true h]; exact h1 h
  · rw [decide_eq_false h]; exact h2 h
theorem x_iteN {c A B : Prop} [Decidable c] (h1 : ¬ c → A) (h2 : c → B) : if (!decide c) = true then A else B := by
  by_cases h : c
  · rw [decide_eq_true h]; exact h2 h
  · rw [decide_eq_false h]; exact h1 h
theorem x_iteb {b : Bool} {A B : Prop} (h1 : b = true → A) (h2 : b = false → B) : if b = true then A else B := by
  cases b with
  | true => exact h1 rfl
  | false => exact h2 rfl
theorem x_itebN {b : Bool} {A B : Prop} (h1 : b = false → A) (h2 : b = true → B) : if (!b) = true then A else B := by
  cases b with
  | true => exact h2 rfl
  | false => exact h1 rfl
theorem x_T {b : Bool} {A B : Prop} (e : b = true) (h : A) : if b = true then A else B := by subst e; exact h
theorem x_F {b : Bool} {A B : Prop} (e : b = false) (h : B) : if b = true then A else B := by subst e; exact h
/-! statements -/
theorem x_seq (k : ts { D with nx := tu D } σ H) : tSeq ts tu D σ H := k
theorem x_asg {n : Nat} (k : te σ H fun x H1 => D.nx (σ.set n (some x)) H1) : tAsg te (gName n) D σ H := k
theorem x_asgG {g : TG} (k : te σ H fun x H1 => g x σ H1 D.nx) : tAsg te g D σ H := k
theorem x_ret (k : te σ H D.rt) : tRet te D σ H := k
theorem x_retN (k : D.rt .non H) : tRetN D σ H := k
theorem x_drop (k : te σ H fun _ H1 => D.nx σ H1) : tDrop te D σ H := k
theorem x_ifS (k : t σ H fun b H1 => if b = true then tu D σ H1 else tw D σ H1) : tIfS t tu tw D σ H := k
theorem x_next (k : D.nx σ H) : tNext D σ H := k
/-! arguments, calls -/
theorem x_nil (k : QA [] H) : tNil σ H QA := k
theorem x_cons {tr : TA} (k : ta σ H fun x H1 => tr σ H1 fun xs H2 => QA (x :: xs) H2) : tCons ta tr σ H QA := k
theorem x_tup {ta : TA} (k : ta σ H fun xs H1 => xs.length ≤ sizeLine ∧ ∀ p, H1 p = none → Q (.ref p) (upd H1 p (.tup xs))) : tTup ta σ H Q := k
theorem x_lst {ta : TA} (k : ta σ H fun xs H1 => xs.length ≤ sizeLine ∧ ∀ p, H1 p = none → Q (.ref p) (upd H1 p (.lst xs))) : tLst ta σ H Q := k
theorem x_call {sp : Sp} {dvs : List V} {E : XK} {ta : TA} (k : ta σ H fun vs H1 => sp (vs ++ dvs) H1 Q E) : tCall sp dvs E ta σ H Q := k
theorem x_meth {C : Addr} {m : Str} {sp : Sp} {dvs : List V} {E : XK} {tl : TA} (k : ta σ H fun x H1 => ∃ a dx fs, x = .ref a ∧ H1 a = some (.ins C dx fs) ∧ fs.lookup m = none ∧ tl σ H1 fun vs H2 => sp (x :: (vs ++ dvs)) H2 Q E) : tMeth C m sp dvs E ta tl σ H Q := k
theorem x_cb {r : List V → Hp → VK → Prop} {ta : TA} (k : ta σ H fun vs H1 => r vs H1 Q) : tCB r ta σ H Q := k
theorem x_lenL {xs : List V} (h : SqL K H p xs) (k : Q (.int xs.length) H) : oLen K [.ref p] H Q := ⟨p, xs, rfl, .inl h, k⟩
theorem x_lenT {xs : List V} (h : SqT K H p xs) (k : Q (.int xs.length) H) : oLen K [.ref p] H Q := ⟨p, xs, rfl, .inr h, k⟩
theorem x_max2 (k : Q (.int (if j > i then j else i)) H) : oMax2 [.int i, .int j] H Q := ⟨i, j, rfl, k⟩
theorem x_min2 (k : Q (.int (if j < i then j else i)) H) : oMin2 [.int i, .int j] H Q := ⟨i, j, rfl, k⟩
theorem x_abs (k : Q (.int (if i < 0 then -i else i)) H) : oAbs [.int i] H Q := ⟨i, rfl, k⟩
/-! attributes -/
def kFld (K : PySem.W.Frag) (f : Str) (Q : VK) : VK := fun x H1 => ∃ a C dx fs v, x = .ref a ∧ H1 a = some (.ins C dx fs) ∧ Cls K C ∧ NoAttr K C f ∧ fs.lookup f = some v ∧ Q v H1
theorem x_fld {f : Str} (k : ta σ H (kFld K f Q)) : tFld K ta f σ H Q := k
theorem x_kFld {f : Str} {C dx : Addr} {fs : List (Str × V)} (h : H a = some (.ins C dx fs)) (c : Cls K C) (n : NoAttr K C f) (l : fs.lookup f = some v) (k : Q v H) : kFld K f Q (.ref a) H := ⟨a, C, dx, fs, v, rfl, h, c, n, l, k⟩
def kSet (K : PySem.W.Frag) (f : Str) (y : V) (N : Hp → Prop) : VK := fun x H2 => ∃ a C dx fs, x = .ref a ∧ H2 a = some (.ins C dx fs) ∧ Cls K C ∧ NoAttr K C f ∧ fs.length < 1000 ∧ N (upd H2 a (.ins C dx (putF f y fs)))
theorem x_sfld {f : Str} (k : tb σ H fun y H1 => ta σ H1 (kSet K f y fun H3 => D.nx σ H3)) : sFld K ta tb f D σ H := k
/-! for over range(n), over a list: P, a word of the turn -/
theorem x_forR1 {j : Nat} {tb : TS} {tl : TA} (n : Nat) (hv : ∀ R : List V → Hp → Prop, R [.int n] H → tl σ H R) (hn : n ≤ 1000000) (P : Nat → L2.St → Hp → Prop) (h0 : P 0 σ H)
    (hs : ∀ i σ H, i < n → P i σ H → tb { D with nx := P (i + 1), ct := P (i + 1), bk := D.nx } (σ.set j (some (.int i))) H) (hd : ∀ σ H, P n σ H → D.nx σ H) : tFor (iRng1 tl) (gName j) tb D σ H :=
  hv _ ⟨n, rfl, by omega, by omega, for_range (lo := 0) (n := n) P h0 (fun i σ H hi p => by
    have e0 : (0 : Int) + (i : Int) = (i : Int) := Int.zero_add _
    show tb { D with nx := P (i + 1), ct := P (i + 1), bk := D.nx } (σ.set j (some (.int ((0 : Int) + (i : Int))))) H
    rw [e0]
    exact hs i σ H hi p) hd⟩
/-- range(a, b) -/
theorem x_forR2 {j : Nat} {tb : TS} {tl : TA} (a n : Nat) (hv : ∀ R : List V → Hp → Prop, R [.int a, .int (a + n : Nat)] H → tl σ H R) (hn : a + n ≤ 1000000) (P : Nat → L2.St → Hp → Prop) (h0 : P 0 σ H)
    (hs : ∀ i σ H, i < n → P i σ H → tb { D with nx := P (i + 1), ct := P (i + 1), bk := D.nx } (σ.set j (some (.int (a + i : Nat)))) H) (hd : ∀ σ H, P n σ H → D.nx σ H) : tFor (iRng2 tl) (gName j) tb D σ H :=
  hv _ ⟨a, (a + n : Nat), rfl, ⟨by omega, by omega, by omega, by omega⟩, by
    have e1 : (((a + n : Nat) : Int) - (a : Int)).toNat = n := by omega
    rw [e1]
    exact for_range (lo := (a : Int)) (n := n) P h0 (fun i σ H hi p => by
      have e0 : (a : Int) + (i : Int) = ((a + i : Nat) : Int) := by omega
      show tb { D with nx := P (i + 1), ct := P (i + 1), bk := D.nx } (σ.set j (some (.int ((a : Int) + (i : Int))))) H
      rw [e0]
      exact hs i σ H hi p) hd⟩
theorem x_forL {j : Nat} {tb : TS} {tl : TE} {a : Addr} {xs : List V} (hv : ∀ R : VK, R (.ref a) H → tl σ H R) (hx : SqL K H a xs) (P : Nat → L2.St → Hp → Prop) (h0 : P 0 σ H) (hl : ∀ i σ H, i ≤ xs.length → P i σ H → SqL K H a xs)
    (hs : ∀ i x σ H, xs[i]? = some x → P i σ H → tb { D with nx := P (i + 1), ct := P (i + 1), bk := D.nx } (σ.set j (some x)) H) (hd : ∀ σ H, P xs.length σ H → D.nx σ H) : tFor (iList K tl) (gName j) tb D σ H :=
  hv _ ⟨a, rfl, ⟨xs, hx⟩, for_list P h0 hl hs hd⟩
/-! while: P, a word with a measure -/
theorem x_while {c : TT} {tb : TS} (P : Nat → L2.St → Hp → Prop) (m0 : Nat) (h0 : P m0 σ H)
    (hs : ∀ m σ H, P m σ H → c σ H fun b H1 => if b = true then ∃ N : L2.St → Hp → Prop, (∀ σ' H', N σ' H' → ∃ m', m' < m ∧ P m' σ' H') ∧ tb { D with nx := N, ct := N, bk := D.nx } σ H1 else D.nx σ H1) : tWhile c tb D σ H :=
  ⟨P, ⟨m0, h0⟩, hs⟩
end

/-! ### heaps and frames -/
/-- all that stands, but for M, stands as before; tuples in any case -/
def Fr (M : Addr → Prop) (H H' : Hp) : Prop := ∀ b o, H b = some o → ¬ M b → H' b = some o
theorem Fr.refl {M : Addr → Prop} {H : Hp} : Fr M H H := fun _ _ h _ => h
theorem Fr.trans {M : Addr → Prop} {H H1 H2 : Hp} (a : Fr M H H1) (b : Fr M H1 H2) : Fr M H H2 := fun c o h n => b c o (a c o h n) n
theorem Fr.mono {M M' : Addr → Prop} {H H' : Hp} (a : Fr M H H') (h : ∀ b, M b → M' b) : Fr M' H H' := fun c o e n => a c o e fun z => n (h c z)
theorem Fr.new {M : Addr → Prop} {H : Hp} {p : Addr} {o : HO} (h : H p = none) : Fr M H (upd H p o) := fun b u e _ => by
  rw [upd_ne (ne_of_none e h)]; exact e
theorem Fr.at {M : Addr → Prop} {H : Hp} {p : Addr} {o : HO} (h : M p) : Fr M H (upd H p o) := fun b u e n => by
  rw [upd_ne (fun z => n (by rw [z]; exact h))]; exact e
/-- an address that was free ahead may change -/
theorem Fr.mut {M : Addr → Prop} {H H' : Hp} {p : Addr} {o : HO} (e : Fr M H H') (h : H p = none) : Fr M H (upd H' p o) := fun a u ha n => by
  rw [upd_ne (ne_of_none ha h)]; exact e a u ha n
abbrev M0 : Addr → Prop := fun _ => False
theorem Fr.free {H H' : Hp} (e : Fr M0 H H') {p : Addr} (h : H' p = none) : H p = none := by
  cases q : H p with
  | none => rfl
  | some o => rw [e p o q (fun z => z)] at h; cases h
theorem rd_fr {M : Addr → Prop} {H H' : Hp} {a : Addr} {u : HO} (e : Fr M H H') (n : ¬ M a) (h : Rd H a u) : Rd H' a u := by
  rcases h with h | ⟨o, h⟩
  · exact Or.inl (e a _ h n)
  · exact Or.inr ⟨o, e a _ h n⟩
theorem sql_fr {M : Addr → Prop} {K : PySem.W.Frag} {H H' : Hp} {a : Addr} {xs : List V} (e : Fr M H H') (n : ¬ M a) (h : SqL K H a xs) : SqL K H' a xs := by
  rcases h with h | h
  · exact Or.inl (rd_fr e n h)
  · exact Or.inr h
theorem sl_of {K : PySem.W.Frag} {H : Hp} {a : Addr} {xs : List V} (h : H a = some (.lst xs)) : SqL K H a xs := Or.inl (Or.inl h)
theorem st_of {K : PySem.W.Frag} {H : Hp} {a : Addr} {xs : List V} (h : H a = some (.tup xs)) : SqT K H a xs := Or.inl (Or.inl h)
theorem sz_le {n : Nat} (h : n ≤ 100000) : n ≤ sizeLine := Nat.le_trans h (by decide)
theorem sz_lt {n : Nat} (h : n < 100000) : n < sizeLine := Nat.lt_of_lt_of_le h (by decide)

/-! ### attribute rows -/
theorem lk_here {k : Str} {v : V} {r : List (Str × V)} : List.lookup k ((k, v) :: r) = some v := by
  have e : (k == k) = true := beq_self_eq_true k
  simp only [List.lookup, e]
theorem lk_past {k g : Str} {v : V} {r : List (Str × V)} (h : (k == g) = false) : List.lookup k ((g, v) :: r) = List.lookup k r := by
  simp only [List.lookup, h]
theorem put_here {f : Str} {v x : V} {r : List (Str × V)} : putF f v ((f, x) :: r) = (f, v) :: r := if_pos rfl
theorem put_past {f g : Str} {v x : V} {r : List (Str × V)} (h : ¬ g = f) : putF f v ((g, x) :: r) = (g, x) :: putF f v r := if_neg h

/-! ### lists of ints, of places -/
def oV : Option Nat → V
  | none => .non
  | some k => .int k
theorem at_map {α : Type} {f : α → V} {l : List α} {n : Nat} {a : α} (h : l[n]? = some a) : atI (l.map f) (n : Int) = some (f a) := atI_nat (by rw [List.getElem?_map, h]; rfl)
theorem dec_oV {o : Option Nat} : decide (oV o = V.non) = o.isNone := by
  cases o with
  | none => rfl
  | some k => exact decide_eq_false (fun z => by cases z)
theorem ixN_nat {n j : Nat} (hj : j < n) : ixN n (j : Int) = some j := by
  unfold ixN
  rw [if_pos (by omega), if_pos (by omega)]
  simp
theorem oV_ne {o : Option Nat} {k : Nat} (h : ¬ oV o = V.int k) : o ≠ some k := fun e => h (by rw [e]; rfl)
theorem oV_eq {o : Option Nat} {k : Nat} : oV o = V.int k ↔ o = some k := by
  cases o with
  | none => exact ⟨fun z => (nomatch z), fun z => (nomatch z)⟩
  | some j =>
    constructor
    · intro z
      have z' : ((j : Nat) : Int) = (k : Int) := by injection z
      exact congrArg some (by omega)
    · intro z; cases z; rfl
theorem scal_oV {o : Option Nat} {i : Int} : scal (oV o) (.int i) = true := by cases o <;> rfl

/-! ### the addresses that the top has made; the law's own promise and its row -/
structure Ad where
  CF : Addr
  CT : Addr
  xHE : Addr
  xNH : Addr
  xNT : Addr
  xBA : Addr
  xSA : Addr
  xHV : Addr
def spLaw (K : PySem.W.Frag) : Sp := fun vs H Q _ => match vs with
  | [v] => ∃ (a : Addr) (ns : List Int), v = .ref a ∧ SqL K H a (ns.map V.int) ∧ ns.length ≤ 63 ∧ (∀ z ∈ ns, Builtin.Int.intBits z ≤ 1048576) ∧ Only H ∧ ∀ H', Q (.bl true) H'
  | _ => False
theorem walk_law {l : PySem.W.OpenLaw} {q : Program} {loose : List Str} {XP : (Str → Option Value) → Heap → Prop} {YP : World → Heap → Prop} {d : DefRec} {K : Params → PySem.W.Frag} {k : Nat} {x : Str}
    (hn : l.most = some 63) (hdf : d.params.defaults = []) (hr : Room k callerA)
    (hY : ∀ (w : World) (h : Heap), YP w h → (K w.params).In h)
    (F : ∀ (w : World) (mg : Str → Option Value) (fa : Addr) (h : Heap), (K w.params).In h → h.Ns mainGlobals mg → mg d.name = some (.ref fa) →
      ∃ fd : FuncData, (∀ (s : Shared) (u : Value), BindsTo s fd ⟨[u], []⟩ [(x, u)]) ∧ ∀ base : Heap, (K w.params).In base → base.Ns mainGlobals mg → FnOk l.prog w (K w.params) mg base CX0 k fa fd [x] (spLaw (K w.params))) :
    PySem.W.WalkO q loose XP YP l.row.toRowW d [] (fun f vs => PySem.call f vs) :=
  L2.walk_ofB (n := 63) (k := k) (x := x) (CX := fun _ => CX0) (sp := fun w => spLaw (K w.params)) hn (by decide) hdf hr hY F (fun _ H a ns hl hb hO hS => ⟨a, ns, rfl, hS, hl, hb, hO, fun _ => rfl⟩) fun _ _ _ _ _ z => z
theorem units64 {k : Nat} {A : Around} (hr : Room k A) : A.units + 64 < cLine := by have := hr.un; omega
/-- a try with one clause, with its error's name, with several -/
def tTry1 (K : PySem.W.Frag) (c : Value) (tb : WX → TS) (ts : TS) : TS := fun D σ H => tb (wOnly K c (fun _ _ _ => ts) (fun _ _ _ _ => False) D) D σ H
def tTryN (K : PySem.W.Frag) (l : List (Value × (Addr → Value → Option Addr → TS))) (tb : WX → TS) : TS := fun D σ H => tb (wMany K (fun _ _ _ _ => False) D l) D σ H
def tTryAs (K : PySem.W.Frag) (c : Value) (i : Nat) (tb : WX → TS) (ts : Addr → Value → Option Addr → TS) : TS := fun D σ H => tb (wAs K c i ts (fun _ _ _ _ => False) D) D σ H
def tRaiseE (E : XK) (C : Addr) : TS := fun _ _ H => E (.ref C) none H
end G

/-! ### the walk: routine steps; w_ix by facts in the context -/
local macro_rules | `(tactic| walk_at "s1") => `(tactic| with_reducible first
  | (refine G.x_var rfl ?_)
  | (refine G.x_c ?_)
  | (refine G.x_op ?_)
  | (refine G.x_I0 ?_)
  | (refine G.x_seq ?_)
  | (refine G.x_asg ?_)
  | (refine G.x_ret ?_)
  | (refine G.x_drop ?_)
  | (refine G.x_next ?_)
  | (refine G.x_ifS ?_)
  | (refine G.x_tTest ?_)
  | (refine G.x_tB ?_)
  | (refine G.x_bl ?_)
  | (refine G.x_and ?_)
  | (refine G.x_or ?_)
  | (refine G.x_not ?_)
  | (refine G.x_andV ?_)
  | (refine G.x_orV ?_)
  | (refine G.x_notV ?_)
  | (refine G.x_chain ?_)
  | (refine G.x_nil ?_)
  | (refine G.x_cons ?_)
  | (refine G.x_tup ?_)
  | (refine G.x_lst ?_)
  | (refine G.x_call ?_)
  | (refine G.x_meth ?_)
  | (refine G.x_cb ?_)
  | (refine G.x_fld ?_)
  | (refine G.x_sfld ?_)
  | (refine G.x_un ?_)
  | (refine G.x_U ?_)
  | (refine G.x_eqI ?_)
  | (refine G.x_neI ?_)
  | (refine G.x_isN ?_)
  | (refine G.x_notN ?_)
  | (refine G.x_max2 ?_)
  | (refine G.x_min2 ?_)
  | (refine G.x_abs ?_)
  | (refine G.x_asgG ?_)
  | (refine G.x_retN ?_))
section
open PySem L2 G
example {Q : VK} {H : Hp} (h : Q (.int (3 + 4)) H) : tOp oAdd (tVar 0) (tC (.int 4)) [some (.int 3)] H Q := by
  repeat walk_at "s1"
  exact h
example {D : Ends} {H : Hp} (h : D.rt (.int (3 + 4)) H) : tSeq (tAsg (tOp oAdd (tVar 0) (tC (.int 4))) (gName 1)) (tRet (tVar 1)) D [some (.int 3), none] H := by
  repeat walk_at "s1"
  exact h
end

/-! what several laws say in the same words -/
namespace G
open PySem PySem.Spec PyProof.Rows L2
section
variable {K : PySem.W.Frag} {σ : L2.St} {H : Hp} {Q : VK} {D : Ends}
theorem x_isiI {i : Int} {n : String} {b : Bool} (h : kitB "int" n = some b) (k : Q (.bl b) H) : rIsi K [.int i, .ty n] H Q := ⟨_, _, _, _, b, rfl, .ty n, .base (.int i), kit_ty h, k⟩
theorem x_isiT {p : Addr} {xs : List V} {n : String} {b : Bool} (hp : H p = some (.tup xs)) (h : kitB "tuple" n = some b) (k : Q (.bl b) H) : rIsi K [.ref p, .ty n] H Q := ⟨_, _, _, _, b, rfl, .ty n, .base (.tup hp), kit_ty h, k⟩
theorem x_isiL {p : Addr} {xs : List V} {n : String} {b : Bool} (hp : H p = some (.lst xs)) (h : kitB "list" n = some b) (k : Q (.bl b) H) : rIsi K [.ref p, .ty n] H Q := ⟨_, _, _, _, b, rfl, .ty n, .base (.lst hp), kit_ty h, k⟩
end
/-! whole(x): of an int -/
def spWhole : Sp := fun vs H Q _ => match vs with
  | [v] => ∃ i : Int, v = .int i ∧ Q (.bl true) H
  | _ => False
def tWhole (K : PySem.W.Frag) : TS := tRet (tAndV (tCB (rIsi K) (tCons (tVar 0) (tCons (tC (.ty "int")) tNil))) (tNotV (tCB (rIsi K) (tCons (tVar 0) (tCons (tC (.ty "bool")) tNil)))))
theorem pure_whole {K : PySem.W.Frag} {v : V} {H : Hp} {Q : VK} {E : XK} (h : spWhole [v] H Q E) : tWhole K { nx := fun _ H' => Q .non H', rt := Q } [some v] H := by
  obtain ⟨i, rfl, k⟩ := h
  unfold tWhole
  repeat walk_at "s1"
  refine x_isiI (b := true) (by decide +kernel) ?_
  repeat walk_at "s1"
  refine x_T rfl ?_
  repeat walk_at "s1"
  refine x_isiI (b := false) (by decide +kernel) ?_
  repeat walk_at "s1"
  exact k

/-- a script's number through divisions keeps its bits -/
abbrev Bits (c : Int) : Prop := Builtin.Int.intBits c ≤ 1048576
theorem Bits.div {c d : Int} (h : Bits c) (hd : 0 ≤ d) : Bits (c / d) := by
  have := PyProof.Rows.bits_fdiv (b := d) h
  rwa [Int.fdiv_eq_ediv_of_nonneg _ hd] at this
theorem Bits.mulOk {c j : Int} (h : Bits c) (hj : Builtin.Int.intBits j ≤ 1000) : IntMulOk c j := PyProof.Rows.mulOk_of_bits h hj (by decide)
theorem Bits.of_small {c : Int} (h : c.natAbs < 2 ^ 64) : Bits c := PyProof.Rows.bits_of_natAbs_le (b := 2 ^ 64) (by rw [show (2 ^ 64 : Int).natAbs = 2 ^ 64 by decide]; omega) (by decide)
/-! levels -/
def lev (n : Nat) : Nat := Nat.log2 (n + 1)
theorem lev_of {n c : Nat} (h1 : 2 ^ c ≤ n + 1) (h2 : n + 1 < 2 ^ (c + 1)) : lev n = c := (Nat.log2_eq_iff (by omega)).2 ⟨h1, h2⟩
theorem lev_le {n : Nat} : 2 ^ lev n ≤ n + 1 := Nat.log2_self_le (by omega)
theorem lev_lt {n : Nat} : n + 1 < 2 ^ (lev n + 1) := Nat.lt_log2_self
def spLevels : Sp := fun vs H Q _ => match vs with
  | [v] => ∃ n : Nat, v = .int n ∧ Q (.int (lev n)) H
  | _ => False
theorem i_pow (c : Nat) : ((2 ^ c : Nat) : Int) = (2 : Int) ^ c := by simp
/-- the loop's own state: count c, power 2 ^ (c + 1) -/
theorem lev_while {n : Nat} {tc : TT} {tb : TS} {D : Ends} {σ : L2.St} {H : Hp} (f : Int → Int → L2.St)
    (hσ : σ = f 0 2)
    (hc : ∀ (c p : Int) (QB : Bool → Hp → Prop), QB (decide (p ≤ (n : Int) + 1)) H → tc (f c p) H QB)
    (hb : ∀ (c p : Int) (D : Ends), 0 ≤ c → 0 < p → p ≤ (n : Int) + 1 → D.nx (f (c + 1) (p + p)) H → tb D (f c p) H)
    (hd : D.nx (f (lev n) (2 ^ (lev n + 1))) H) : tWhile tc tb D σ H := by
  refine x_while (fun m σ' H' => H' = H ∧ ∃ c : Nat, σ' = f c (2 ^ (c + 1)) ∧ 2 ^ c ≤ n + 1 ∧ m = n + 2 - 2 ^ c) (n + 1) ⟨rfl, 0, hσ, by simp, by simp⟩ ?_
  rintro m σ' H' ⟨rfl, c, rfl, h1, rfl⟩
  refine hc _ _ _ ?_
  refine x_ite (fun h => ?_) (fun h => ?_)
  · have h' : 2 ^ (c + 1) ≤ n + 1 := by
      have e := i_pow (c + 1)
      omega
    refine ⟨_, fun _ _ z => z, ?_⟩
    refine hb _ _ _ (Int.natCast_nonneg c) (by rw [← i_pow]; have := Nat.two_pow_pos (c + 1); omega) h ?_
    refine ⟨n + 2 - 2 ^ (c + 1), ?_, rfl, c + 1, ?_, h', rfl⟩
    · have e : 2 ^ (c + 1) = 2 ^ c + 2 ^ c := by rw [Nat.pow_succ]; omega
      have := Nat.two_pow_pos c
      omega
    · have e : (2 : Int) ^ (c + 1 + 1) = 2 ^ (c + 1) + 2 ^ (c + 1) := by rw [Int.pow_succ]; omega
      rw [e]
      rfl
  · have h' : n + 1 < 2 ^ (c + 1) := by
      have e := i_pow (c + 1)
      omega
    have e := lev_of h1 h'
    rw [← e]
    exact hd
end G

namespace Sk01
open PySem PySem.Spec PyProof.Rows L2 G
def Ok (_ : PySem.W.Frag) (_ : Ad) : Prop := True
def ExcFacts_k01 (_ : PySem.W.Frag) (_ : Ad) : Prop := True
def sp_levels (_ : PySem.W.Frag) (_ : Ad) : Sp := spLevels
def sp_l_whole (_ : PySem.W.Frag) (_ : Ad) : Sp := spWhole
def sp_l_doubled (_ : PySem.W.Frag) (_ : Ad) : Sp := fun vs H Q _ => match vs with
  | [v] => ∃ n : Nat, v = .int n ∧ n ≤ 1000 ∧ Q (.int (2 ^ n)) H
  | _ => False
def sp_law (K : PySem.W.Frag) (_ : Ad) : Sp := spLaw K
def t_l_whole (K : PySem.W.Frag) (A : Ad) (E : XK) : TS :=
  (tRet (tAndV (tCB (rIsi K) (tCons (tVar 0) (tCons (tC (.ty "int")) tNil))) (tNotV (tCB (rIsi K) (tCons (tVar 0) (tCons (tC (.ty "bool")) tNil))))))
def t_l_doubled (K : PySem.W.Frag) (A : Ad) (E : XK) : TS :=
  (tSeq (tAsg (tC (.int 1)) (gName 1))
    (tSeq (tFor (iRng1 (tCons (tVar 0) tNil)) (gName 2) (tAsg (tOp oAdd (tVar 1) (tVar 1)) (gName 1)))
    (tRet (tVar 1))))
def t_levels (K : PySem.W.Frag) (A : Ad) (E : XK) : TS :=
  (tSeq (tAsg (tC (.int 0)) (gName 1))
    (tSeq (tAsg (tC (.int 2)) (gName 2))
    (tSeq (tWhile (tTest (tOp oLe (tVar 2) (tOp oAdd (tVar 0) (tC (.int 1))))) (tSeq (tAsg (tOp oMul (tC (.int 2)) (tVar 2)) (gName 2))
    (tAsg (tOp oAdd (tVar 1) (tC (.int 1))) (gName 1))))
    (tRet (tVar 1)))))
def t_law (K : PySem.W.Frag) (A : Ad) (E : XK) : TS :=
  (tSeq (tAsg (tC (.int 0)) (gName 1))
    (tSeq (tIfS (tTest (tOp oGt (tCB (oLen K) (tCons (tVar 0) tNil)) (tC (.int 0)))) (tAsg (tOp (rIxL K) (tVar 0) (tC (.int 0))) (gName 1)) tNext)
    (tSeq (tAsg (tOp oMod (tOp oDiv (tVar 1) (tC (.int 3))) (tC (.int 70))) (gName 2))
    (tSeq (tIfS (tTest (tOp rEq (tOp oMod (tVar 1) (tC (.int 3))) (tC (.int 1)))) (tAsg (tCB oMax2 (tCons (tC (.int 0)) (tCons (tOp oAdd (tOp oSub (tCall (sp_l_doubled K A) [] E0 (tCons (tOp oMod (tOp oDiv (tVar 1) (tC (.int 3))) (tC (.int 131))) tNil)) (tC (.int 2))) (tOp oMod (tOp oDiv (tVar 1) (tC (.int 393))) (tC (.int 6)))) tNil))) (gName 2)) tNext)
    (tSeq (tIfS (tTest (tOp rEq (tOp oMod (tVar 1) (tC (.int 3))) (tC (.int 2)))) (tAsg (tOp oMod (tOp oMulX (tOp oDiv (tVar 1) (tC (.int 3))) (tOp oPow (tC (.int 999999999989)) (tC (.int 4)))) (tOp oPow (tC (.int 10)) (tC (.int 40)))) (gName 2)) tNext)
    (tSeq (tAsg (tCall (sp_levels K A) [] E0 (tCons (tVar 2) tNil)) (gName 3))
    (tSeq (tIfS (tOr (tNot (tB (tCall (sp_l_whole K A) [] E0 (tCons (tVar 3) tNil)))) (tOr (tTest (tOp oLt (tVar 3) (tC (.int 0)))) (tTest (tOp oGt (tVar 3) (tC (.int 140)))))) (tRet (tC (.bl false))) tNext)
    (tSeq (tAsg (tCall (sp_l_doubled K A) [] E0 (tCons (tVar 3) tNil)) (gName 4))
    (tRet (tChain oLe oLt (tVar 4) (tOp oAdd (tVar 2) (tC (.int 1))) (tOp oAdd (tVar 4) (tVar 4))))))))))))
section
variable {K : PySem.W.Frag} {A : Ad} {H : Hp} {Q : VK} {E : XK} {v0 v1 v2 : V}
theorem pure_levels (_ : Ok K A) (h : sp_levels K A [v0] H Q E) : t_levels K A E { nx := fun _ H' => Q .non H', rt := Q } [some v0, none, none] H := by
  obtain ⟨n, rfl, k⟩ := h
  unfold t_levels
  repeat walk_at "s1"
  refine lev_while (n := n) (fun c p => [some (V.int (n : Int)), some (.int c), some (.int p)]) rfl (fun c p QB hq => ?_) (fun c p D h0 h1 h2 hn => ?_) ?_
  · repeat walk_at "s1"
    exact hq
  · repeat walk_at "s1"
    refine x_mul (by omega) ?_
    repeat walk_at "s1"
    have e : 2 * p = p + p := by omega
    rw [e]
    exact hn
  · repeat walk_at "s1"
    exact k
theorem pure_l_whole (_ : Ok K A) (h : sp_l_whole K A [v0] H Q E) : t_l_whole K A E { nx := fun _ H' => Q .non H', rt := Q } [some v0] H := pure_whole h
theorem pure_l_doubled (_ : Ok K A) (h : sp_l_doubled K A [v0] H Q E) : t_l_doubled K A E { nx := fun _ H' => Q .non H', rt := Q } [some v0, none, none] H := by
  obtain ⟨n, rfl, hn, k⟩ := h
  unfold t_l_doubled
  repeat walk_at "s1"
  refine x_forR1 n (fun R h => x_cons (x_var rfl (x_nil h))) (by omega) (fun i σ H' => H' = H ∧ ∃ x, σ = [some (.int n), some (.int (2 ^ i)), x]) ⟨rfl, _, rfl⟩ ?_ ?_
  · rintro i σ H' hi ⟨rfl, x, rfl⟩
    repeat walk_at "s1"
    refine ⟨rfl, some (.int i), ?_⟩
    have e : (2 : Int) ^ (i + 1) = 2 ^ i + 2 ^ i := by rw [Int.pow_succ]; omega
    rw [e]
    rfl
  · rintro σ H' ⟨rfl, x, rfl⟩
    repeat walk_at "s1"
    exact k
/-- behind the number is reckoned: what is left of the law -/
theorem law_rest {n : Nat} {s0 s1 : V} (hn : n < 2 ^ 139) (k : ∀ H', Q (.bl true) H') :
    (tSeq (tAsg (tCall (sp_levels K A) [] E0 (tCons (tVar 2) tNil)) (gName 3))
    (tSeq (tIfS (tOr (tNot (tB (tCall (sp_l_whole K A) [] E0 (tCons (tVar 3) tNil)))) (tOr (tTest (tOp oLt (tVar 3) (tC (.int 0)))) (tTest (tOp oGt (tVar 3) (tC (.int 140)))))) (tRet (tC (.bl false))) tNext)
    (tSeq (tAsg (tCall (sp_l_doubled K A) [] E0 (tCons (tVar 3) tNil)) (gName 4))
    (tRet (tChain oLe oLt (tVar 4) (tOp oAdd (tVar 2) (tC (.int 1))) (tOp oAdd (tVar 4) (tVar 4))))))) { nx := fun _ H' => Q .non H', rt := Q } [some s0, some s1, some (.int n), none, none] H := by
  have hl : lev n ≤ 139 := by
    have h1 := lev_le (n := n)
    have h2 : (2 : Nat) ^ lev n < 2 ^ 140 := by
      have : (2 : Nat) ^ 140 = 2 ^ 139 + 2 ^ 139 := by decide
      omega
    have := (Nat.pow_lt_pow_iff_right (by decide : 1 < 2)).1 h2
    omega
  have l1 := lev_le (n := n)
  have l2 := lev_lt (n := n)
  repeat walk_at "s1"
  refine ⟨n, rfl, ?_⟩
  repeat walk_at "s1"
  refine ⟨_, rfl, ?_⟩
  repeat walk_at "s1"
  refine x_F rfl ?_
  repeat walk_at "s1"
  refine x_F (decide_eq_false (by omega)) ?_
  repeat walk_at "s1"
  refine x_F (decide_eq_false (by omega)) ?_
  repeat walk_at "s1"
  refine ⟨lev n, rfl, by omega, ?_⟩
  have e := i_pow (lev n)
  have e2 : 2 ^ (lev n + 1) = 2 ^ lev n + 2 ^ lev n := by rw [Nat.pow_succ]; omega
  repeat walk_at "s1"
  refine x_T (decide_eq_true (by omega)) ?_
  repeat walk_at "s1"
  rw [decide_eq_true (by omega)]
  exact k _
theorem pure_law (_ : Ok K A) (h : sp_law K A [v0] H Q E) : t_law K A E { nx := fun _ H' => Q .non H', rt := Q } [some v0, none, none, none, none] H := by
  obtain ⟨a, ns, rfl, hS, hl, hb, hO, k⟩ := h
  -- the cell
  have main : ∀ c : Int, Builtin.Int.intBits c ≤ 1048576 → (tSeq (tAsg (tOp oMod (tOp oDiv (tVar 1) (tC (.int 3))) (tC (.int 70))) (gName 2))
    (tSeq (tIfS (tTest (tOp rEq (tOp oMod (tVar 1) (tC (.int 3))) (tC (.int 1)))) (tAsg (tCB oMax2 (tCons (tC (.int 0)) (tCons (tOp oAdd (tOp oSub (tCall (sp_l_doubled K A) [] E0 (tCons (tOp oMod (tOp oDiv (tVar 1) (tC (.int 3))) (tC (.int 131))) tNil)) (tC (.int 2))) (tOp oMod (tOp oDiv (tVar 1) (tC (.int 393))) (tC (.int 6)))) tNil))) (gName 2)) tNext)
    (tSeq (tIfS (tTest (tOp rEq (tOp oMod (tVar 1) (tC (.int 3))) (tC (.int 2)))) (tAsg (tOp oMod (tOp oMulX (tOp oDiv (tVar 1) (tC (.int 3))) (tOp oPow (tC (.int 999999999989)) (tC (.int 4)))) (tOp oPow (tC (.int 10)) (tC (.int 40)))) (gName 2)) tNext)
    (tSeq (tAsg (tCall (sp_levels K A) [] E0 (tCons (tVar 2) tNil)) (gName 3))
    (tSeq (tIfS (tOr (tNot (tB (tCall (sp_l_whole K A) [] E0 (tCons (tVar 3) tNil)))) (tOr (tTest (tOp oLt (tVar 3) (tC (.int 0)))) (tTest (tOp oGt (tVar 3) (tC (.int 140)))))) (tRet (tC (.bl false))) tNext)
    (tSeq (tAsg (tCall (sp_l_doubled K A) [] E0 (tCons (tVar 3) tNil)) (gName 4))
    (tRet (tChain oLe oLt (tVar 4) (tOp oAdd (tVar 2) (tC (.int 1))) (tOp oAdd (tVar 4) (tVar 4)))))))))) { nx := fun _ H' => Q .non H', rt := Q } [some (.ref a), some (.int c), none, none, none] H := by
    intro c hc
    repeat walk_at "s1"
    refine x_div (by decide) ?_
    repeat walk_at "s1"
    refine x_mod (by decide) ?_
    repeat walk_at "s1"
    refine x_mod (by decide) ?_
    repeat walk_at "s1"
    have fin : ∀ z : Int, 0 ≤ z → z < 2 ^ 139 → (tSeq (tAsg (tCall (sp_levels K A) [] E0 (tCons (tVar 2) tNil)) (gName 3))
    (tSeq (tIfS (tOr (tNot (tB (tCall (sp_l_whole K A) [] E0 (tCons (tVar 3) tNil)))) (tOr (tTest (tOp oLt (tVar 3) (tC (.int 0)))) (tTest (tOp oGt (tVar 3) (tC (.int 140)))))) (tRet (tC (.bl false))) tNext)
    (tSeq (tAsg (tCall (sp_l_doubled K A) [] E0 (tCons (tVar 3) tNil)) (gName 4))
    (tRet (tChain oLe oLt (tVar 4) (tOp oAdd (tVar 2) (tC (.int 1))) (tOp oAdd (tVar 4) (tVar 4))))))) { nx := fun _ H' => Q .non H', rt := Q } [some (.ref a), some (.int c), some (.int z), none, none] H := by
      intro z h0 h1
      obtain ⟨n, rfl⟩ : ∃ n : Nat, z = n := ⟨z.toNat, by omega⟩
      exact law_rest (by omega) k
    refine x_ite (fun h1 => ?_) (fun h1 => ?_)
    · repeat walk_at "s1"
      refine x_div (by decide) ?_
      repeat walk_at "s1"
      refine x_mod (by decide) ?_
      repeat walk_at "s1"
      obtain ⟨m, hm⟩ : ∃ m : Nat, c / 3 % 131 = m := ⟨(c / 3 % 131).toNat, by omega⟩
      have hm2 : m < 131 := by omega
      refine ⟨m, by rw [hm], by omega, ?_⟩
      repeat walk_at "s1"
      refine x_div (by decide) ?_
      repeat walk_at "s1"
      refine x_mod (by decide) ?_
      repeat walk_at "s1"
      refine x_mod (by decide) ?_
      repeat walk_at "s1"
      refine x_F (decide_eq_false (by omega)) ?_
      repeat walk_at "se"
      have hp : (2 : Int) ^ m ≤ 2 ^ 130 := by
        have := Nat.pow_le_pow_right (n := 2) (by decide) (show m ≤ 130 by omega)
        have e1 := i_pow m
        have e2 := i_pow 130
        omega
      refine fin _ ?_ ?_
      · split <;> omega
      · have : (2 : Int) ^ 130 + 10 < 2 ^ 139 := by decide
        split <;> omega
    · repeat walk_at "s1"
      refine x_mod (by decide) ?_
      repeat walk_at "s1"
      refine x_ite (fun h2 => ?_) (fun h2 => ?_)
      · repeat walk_at "s1"
        refine x_div (by decide) ?_
        repeat walk_at "s1"
        refine x_pow (by decide) ?_
        repeat walk_at "s1"
        refine x_I (Bits.mulOk (Bits.div hc (by decide)) (by decide)) ?_
        repeat walk_at "s1"
        refine x_pow (by decide) ?_
        repeat walk_at "s1"
        refine x_mod (by decide) ?_
        repeat walk_at "se"
        refine fin _ (Int.emod_nonneg _ (by decide)) (Int.lt_trans (Int.emod_lt_of_pos _ (by decide)) (by decide))
      · repeat walk_at "se"
        exact fin _ (by omega) (by omega)
  unfold t_law
  repeat walk_at "s1"
  refine x_lenL hS ?_
  repeat walk_at "s1"
  refine x_ite (fun hp => ?_) (fun hp => ?_)
  · repeat walk_at "s1"
    cases ns with
    | nil => simp at hp
    | cons c r =>
      refine x_ixL hS rfl (v := .int c) (at_map (n := 0) (l := c :: r) (f := V.int) rfl) ?_
      exact main c (hb c List.mem_cons_self)
  · exact main 0 (by decide)
end
end Sk01

/-! the text by places, the scopes, what the top has written, the derivations: printed by gen.py out of the linked text of law_k01_levels -/
namespace Sk01
open PySem PySem.Spec PyProof.Rows L2 G
def top (i : Nat) : Stmt := PySem.Challenge.pw_splitheap_k01_levels.main.body.getD i (.Pass ⟨0, 0, 0, 0⟩)
abbrev s_levels : Stmt := top 1
abbrev N_levels : List Str := ["number", "count", "power"]
abbrev s_l_whole : Stmt := top 3
abbrev N_l_whole : List Str := ["_law_found"]
abbrev s_l_doubled : Stmt := top 4
abbrev N_l_doubled : List Str := ["_law_times", "_law_power", "_law_turn"]
abbrev s_law : Stmt := top 5
abbrev N_law : List Str := ["_law_script", "_law_cell", "_law_number", "_law_found", "_law_power"]
theorem sc_levels : FnScope N_levels ["number"] (defScope s_levels) := ⟨rfl, rfl, rfl, by decide +kernel, rfl, by decide +kernel, by decide +kernel⟩
theorem sc_l_whole : FnScope N_l_whole ["_law_found"] (defScope s_l_whole) := ⟨rfl, rfl, rfl, by decide +kernel, rfl, by decide +kernel, by decide +kernel⟩
theorem sc_l_doubled : FnScope N_l_doubled ["_law_times"] (defScope s_l_doubled) := ⟨rfl, rfl, rfl, by decide +kernel, rfl, by decide +kernel, by decide +kernel⟩
theorem sc_law : FnScope N_law ["_law_script"] (defScope s_law) := ⟨rfl, rfl, rfl, by decide +kernel, rfl, by decide +kernel, by decide +kernel⟩
structure Tx (K : PySem.W.Frag) (mg : Str → Option Value) where
  A : Ad
  ok : Ok K A
  f_levels : Addr
  fd_levels : FuncData
  F_levels : Fun K "levels" "levels" s_levels f_levels fd_levels
  b_levels : Binds K fd_levels ["number"] []
  g_levels : mg "levels" = some (.ref f_levels)
  f_l_whole : Addr
  fd_l_whole : FuncData
  F_l_whole : Fun K "_law_whole" "_law_whole" s_l_whole f_l_whole fd_l_whole
  b_l_whole : Binds K fd_l_whole ["_law_found"] []
  g_l_whole : mg "_law_whole" = some (.ref f_l_whole)
  f_l_doubled : Addr
  fd_l_doubled : FuncData
  F_l_doubled : Fun K "_law_doubled" "_law_doubled" s_l_doubled f_l_doubled fd_l_doubled
  b_l_doubled : Binds K fd_l_doubled ["_law_times"] []
  g_l_doubled : mg "_law_doubled" = some (.ref f_l_doubled)
  f_law : Addr
  fd_law : FuncData
  F_law : Fun K "law" "law" s_law f_law fd_law
  b_law : Binds K fd_law ["_law_script"] []
  g_law : mg "law" = some (.ref f_law)
  xs : ExcFacts_k01 K A
  z_bool : mg "bool" = none
  z_int : mg "int" = none
  z_isinstance : mg "isinstance" = none
  z_len : mg "len" = none
  z_max : mg "max" = none
  z_range : mg "range" = none
section
variable {P : Program} {w : World} {K : PySem.W.Frag} {mg : Str → Option Value} {base : Heap}
theorem ok_levels (T : Tx K mg) : FnOk P w K mg base CX0 1 T.f_levels T.fd_levels ["number"] (sp_levels K T.A) := by
  refine T.F_levels.ok sc_levels (fun vs H Q E h => match vs, h with | [_], _ => rfl) (fun cdv Ar outer s H vs Q E hr h => ⟨t_levels K T.A E, ?_, match vs, h with | [v0], h => pure_levels T.ok h⟩)
  exact (pss_cons (ps_set (i := 1) sc_levels.nd rfl (by first | exact Or.inl rfl | exact Or.inr rfl) pe_int)
    (pss_cons (ps_set (i := 2) sc_levels.nd rfl (by first | exact Or.inl rfl | exact Or.inr rfl) pe_int)
    (pss_cons (ps_while PassesOwn.never (pt_cmpR op_le (pv 2) (pe_op op_add (pv 0) pe_int) (nomark _)) (pss_cons (ps_set (i := 2) sc_levels.nd rfl (by first | exact Or.inl rfl | exact Or.inr rfl) (pe_op op_mul pe_int (pv 2)))
    (pss_one (ps_set (i := 1) sc_levels.nd rfl (by first | exact Or.inl rfl | exact Or.inr rfl) (pe_op op_add (pv 1) pe_int)))))
    (pss_one (ps_ret (pv 1))))))
theorem ok_l_whole (T : Tx K mg) : FnOk P w K mg base CX0 1 T.f_l_whole T.fd_l_whole ["_law_found"] (sp_l_whole K T.A) := by
  refine T.F_l_whole.ok sc_l_whole (fun vs H Q E h => match vs, h with | [_], _ => rfl) (fun cdv Ar outer s H vs Q E hr h => ⟨t_l_whole K T.A E, ?_, match vs, h with | [v0], h => pure_l_whole T.ok h⟩)
  exact (pss_one (ps_ret (pe_and (pe_callB call_isi (by rfl) T.z_isinstance (by decide +kernel) (pa_cons (pv 0) (pa_cons (pe_bltn (v := .ty "int") (by rfl) T.z_int (by decide +kernel) rfl) pa_nil))) (pe_one (pe_not (pe_callB call_isi (by rfl) T.z_isinstance (by decide +kernel) (pa_cons (pv 0) (pa_cons (pe_bltn (v := .ty "bool") (by rfl) T.z_bool (by decide +kernel) rfl) pa_nil))))))))
theorem ok_l_doubled (T : Tx K mg) : FnOk P w K mg base CX0 1 T.f_l_doubled T.fd_l_doubled ["_law_times"] (sp_l_doubled K T.A) := by
  refine T.F_l_doubled.ok sc_l_doubled (fun vs H Q E h => match vs, h with | [_], _ => rfl) (fun cdv Ar outer s H vs Q E hr h => ⟨t_l_doubled K T.A E, ?_, match vs, h with | [v0], h => pure_l_doubled T.ok h⟩)
  exact (pss_cons (ps_set (i := 1) sc_l_doubled.nd rfl (by first | exact Or.inl rfl | exact Or.inr rfl) pe_int)
    (pss_cons (ps_for PassesOwn.never rfl (pi_range1 (by rfl) T.z_range (pa_cons (pv 0) pa_nil)) (pg_name (i := 2) sc_l_doubled.nd rfl (by first | exact Or.inl rfl | exact Or.inr rfl)) (pss_one (ps_set (i := 1) sc_l_doubled.nd rfl (by first | exact Or.inl rfl | exact Or.inr rfl) (pe_op op_add (pv 1) (pv 1)))))
    (pss_one (ps_ret (pv 1)))))
theorem ok_law (T : Tx K mg) : FnOk P w K mg base CX0 2 T.f_law T.fd_law ["_law_script"] (sp_law K T.A) := by
  refine T.F_law.ok sc_law (fun vs H Q E h => match vs, h with | [_], _ => rfl) (fun cdv Ar outer s H vs Q E hr h => ⟨t_law K T.A E, ?_, match vs, h with | [v0], h => pure_law T.ok h⟩)
  exact (pss_cons (ps_set (i := 1) sc_law.nd rfl (by first | exact Or.inl rfl | exact Or.inr rfl) pe_int)
    (pss_cons (ps_if (pt_cmpR op_gt (pe_callB call_len' (by rfl) T.z_len PySem.boot_len (pa_cons (pv 0) pa_nil)) pe_int (nomark _)) (pss_one (ps_set (i := 1) sc_law.nd rfl (by first | exact Or.inl rfl | exact Or.inr rfl) (pe_ix ix_list (pv 0) pe_int (fun _ _ => rfl)))) pss_nil)
    (pss_cons (ps_set (i := 2) sc_law.nd rfl (by first | exact Or.inl rfl | exact Or.inr rfl) (pe_op op_mod (pe_op op_fdiv (pv 1) pe_int) pe_int))
    (pss_cons (ps_if (pt_cmpR op_eq (pe_op op_mod (pv 1) pe_int) pe_int (nomark _)) (pss_one (ps_set (i := 2) sc_law.nd rfl (by first | exact Or.inl rfl | exact Or.inr rfl) (pe_callB (call_max2' rfl) (by rfl) T.z_max (by decide +kernel) (pa_cons pe_int (pa_cons (pe_op op_add (pe_op op_sub (pe_call (E := E0) (ok_l_doubled T) (hr.mono (by decide)) (by rfl) T.g_l_doubled T.F_l_doubled.kp T.b_l_doubled .nil pass0 (pa_cons (pe_op op_mod (pe_op op_fdiv (pv 1) pe_int) pe_int) pa_nil)) pe_int) (pe_op op_mod (pe_op op_fdiv (pv 1) pe_int) pe_int)) pa_nil))))) pss_nil)
    (pss_cons (ps_if (pt_cmpR op_eq (pe_op op_mod (pv 1) pe_int) pe_int (nomark _)) (pss_one (ps_set (i := 2) sc_law.nd rfl (by first | exact Or.inl rfl | exact Or.inr rfl) (pe_op op_mod (pe_op op_mulX (pe_op op_fdiv (pv 1) pe_int) (pe_op op_pow pe_int pe_int)) (pe_op op_pow pe_int pe_int)))) pss_nil)
    (pss_cons (ps_set (i := 3) sc_law.nd rfl (by first | exact Or.inl rfl | exact Or.inr rfl) (pe_call (E := E0) (ok_levels T) (hr.mono (by decide)) (by rfl) T.g_levels T.F_levels.kp T.b_levels .nil pass0 (pa_cons (pv 2) pa_nil)))
    (pss_cons (ps_if (PW.pt (pw_or (pt_not (pt_val (pe_call (E := E0) (ok_l_whole T) (hr.mono (by decide)) (by rfl) T.g_l_whole T.F_l_whole.kp T.b_l_whole .nil pass0 (pa_cons (pv 3) pa_nil)))) (pw_or (pt_cmpR op_lt (pv 3) pe_int (nomark _)) (pw_or1 (pt_cmpR op_gt (pv 3) pe_int (nomark _)))))) (pss_one (ps_ret pe_bl)) pss_nil)
    (pss_cons (ps_set (i := 4) sc_law.nd rfl (by first | exact Or.inl rfl | exact Or.inr rfl) (pe_call (E := E0) (ok_l_doubled T) (hr.mono (by decide)) (by rfl) T.g_l_doubled T.F_l_doubled.kp T.b_l_doubled .nil pass0 (pa_cons (pv 3) pa_nil)))
    (pss_one (ps_ret (pe_chain op_le op_lt (pv 4) (pe_op op_add (pv 2) pe_int) (pe_op op_add (pv 4) (pv 4)))))))))))))
end
theorem all_mk {P : Program} {w : World} {K : PySem.W.Frag} {h : Heap} {mg : Str → Option Value} {fa : Addr} (X : K.In h) (G : h.Ns mainGlobals mg) (hfa : mg "law" = some (.ref fa))
    {f_levels : Addr} {od_levels an_levels : Option Addr} {sl_levels : Array (Option Value)} {oc_levels kV_levels dc_levels pm_levels cd_levels ct_levels : Value}
    (a_levels : PySem.W.nsIn K mainGlobals "levels" = some (some (.ref f_levels)))
    (l_levels : K.lookup f_levels = some ⟨oc_levels, od_levels, .func (PySem.W.fnOf "levels" "levels" (defArgs s_levels) (defBody s_levels) (defScope s_levels) .none kV_levels dc_levels pm_levels an_levels cd_levels ct_levels), sl_levels⟩)
    (c_levels : PySem.W.codeIn K cd_levels "levels" = true)
    (k_levels : PySem.W.keepIn K (.ref f_levels) = true)
    {f_l_whole : Addr} {od_l_whole an_l_whole : Option Addr} {sl_l_whole : Array (Option Value)} {oc_l_whole kV_l_whole dc_l_whole pm_l_whole cd_l_whole ct_l_whole : Value}
    (a_l_whole : PySem.W.nsIn K mainGlobals "_law_whole" = some (some (.ref f_l_whole)))
    (l_l_whole : K.lookup f_l_whole = some ⟨oc_l_whole, od_l_whole, .func (PySem.W.fnOf "_law_whole" "_law_whole" (defArgs s_l_whole) (defBody s_l_whole) (defScope s_l_whole) .none kV_l_whole dc_l_whole pm_l_whole an_l_whole cd_l_whole ct_l_whole), sl_l_whole⟩)
    (c_l_whole : PySem.W.codeIn K cd_l_whole "_law_whole" = true)
    (k_l_whole : PySem.W.keepIn K (.ref f_l_whole) = true)
    {f_l_doubled : Addr} {od_l_doubled an_l_doubled : Option Addr} {sl_l_doubled : Array (Option Value)} {oc_l_doubled kV_l_doubled dc_l_doubled pm_l_doubled cd_l_doubled ct_l_doubled : Value}
    (a_l_doubled : PySem.W.nsIn K mainGlobals "_law_doubled" = some (some (.ref f_l_doubled)))
    (l_l_doubled : K.lookup f_l_doubled = some ⟨oc_l_doubled, od_l_doubled, .func (PySem.W.fnOf "_law_doubled" "_law_doubled" (defArgs s_l_doubled) (defBody s_l_doubled) (defScope s_l_doubled) .none kV_l_doubled dc_l_doubled pm_l_doubled an_l_doubled cd_l_doubled ct_l_doubled), sl_l_doubled⟩)
    (c_l_doubled : PySem.W.codeIn K cd_l_doubled "_law_doubled" = true)
    (k_l_doubled : PySem.W.keepIn K (.ref f_l_doubled) = true)
    {f_law : Addr} {od_law an_law : Option Addr} {sl_law : Array (Option Value)} {oc_law kV_law dc_law pm_law cd_law ct_law : Value}
    (a_law : PySem.W.nsIn K mainGlobals "law" = some (some (.ref f_law)))
    (l_law : K.lookup f_law = some ⟨oc_law, od_law, .func (PySem.W.fnOf "law" "law" (defArgs s_law) (defBody s_law) (defScope s_law) .none kV_law dc_law pm_law an_law cd_law ct_law), sl_law⟩)
    (c_law : PySem.W.codeIn K cd_law "law" = true)
    (k_law : PySem.W.keepIn K (.ref f_law) = true)
    (z_bool : PySem.W.nsIn K mainGlobals "bool" = some none)
    (z_int : PySem.W.nsIn K mainGlobals "int" = some none)
    (z_isinstance : PySem.W.nsIn K mainGlobals "isinstance" = some none)
    (z_len : PySem.W.nsIn K mainGlobals "len" = some none)
    (z_max : PySem.W.nsIn K mainGlobals "max" = some none)
    (z_range : PySem.W.nsIn K mainGlobals "range" = some none)
    : ∃ fd : FuncData, (∀ (s : Shared) (u : Value), BindsTo s fd ⟨[u], []⟩ [("_law_script", u)]) ∧ ∀ base : Heap, K.In base → base.Ns mainGlobals mg → FnOk P w K mg base CX0 2 fa fd ["_law_script"] (spLaw K) := by
  have e := hfa.symm.trans (PySem.W.mg_of X G a_law)
  cases e
  have F_levels := fun_mk (st := s_levels) l_levels c_levels k_levels
  have b_levels := F_levels.binds (ps := ["number"]) fun _ _ _ _ _ _ us hl => match us, hl with | [_], _ => rfl
  have F_l_whole := fun_mk (st := s_l_whole) l_l_whole c_l_whole k_l_whole
  have b_l_whole := F_l_whole.binds (ps := ["_law_found"]) fun _ _ _ _ _ _ us hl => match us, hl with | [_], _ => rfl
  have F_l_doubled := fun_mk (st := s_l_doubled) l_l_doubled c_l_doubled k_l_doubled
  have b_l_doubled := F_l_doubled.binds (ps := ["_law_times"]) fun _ _ _ _ _ _ us hl => match us, hl with | [_], _ => rfl
  have F_law := fun_mk (st := s_law) l_law c_law k_law
  have b_law := F_law.binds (ps := ["_law_script"]) fun _ _ _ _ _ _ us hl => match us, hl with | [_], _ => rfl
  let T : Tx K mg := {
    A := (Ad.mk 0 0 0 0 0 0 0 0)
    ok := trivial
    f_levels := f_levels, fd_levels := _, F_levels := F_levels, b_levels := b_levels
    g_levels := PySem.W.mg_of X G a_levels
    f_l_whole := f_l_whole, fd_l_whole := _, F_l_whole := F_l_whole, b_l_whole := b_l_whole
    g_l_whole := PySem.W.mg_of X G a_l_whole
    f_l_doubled := f_l_doubled, fd_l_doubled := _, F_l_doubled := F_l_doubled, b_l_doubled := b_l_doubled
    g_l_doubled := PySem.W.mg_of X G a_l_doubled
    f_law := fa, fd_law := _, F_law := F_law, b_law := b_law
    g_law := PySem.W.mg_of X G a_law
    xs := trivial
    z_bool := PySem.W.mg_none_of X G z_bool
    z_int := PySem.W.mg_none_of X G z_int
    z_isinstance := PySem.W.mg_none_of X G z_isinstance
    z_len := PySem.W.mg_none_of X G z_len
    z_max := PySem.W.mg_none_of X G z_max
    z_range := PySem.W.mg_none_of X G z_range
    }
  exact ⟨_, fun s u => .of_eq rfl, fun base _ _ => ok_law T⟩
end Sk01
open PySem PySem.W PyProof.Rows
set_option maxRecDepth 100000 in
set_option maxHeartbeats 0 in
theorem PySem.Challenge.cw_splitheap_k01_levels_holds : PySem.Challenge.rw_splitheap_k01_levels.Holds := by
  w_on; o_law; k_head; (case hw => w_witness2)
  k_fill
  refine G.walk_law (k := 2) (x := "_law_script") (l := PySem.Challenge.rw_splitheap_k01_levels) rfl rfl ⟨rfl, by decide, by decide⟩ (fun w h Y => PySem.W.kIn_of Y) ?F
  case F =>
    intro w mg fa h KX G hmg
    refine' Sk01.all_mk KX G hmg ?a_levels ?l_levels ?c_levels ?k_levels ?a_l_whole ?l_l_whole ?c_l_whole ?k_l_whole ?a_l_doubled ?l_l_doubled ?c_l_doubled ?k_l_doubled ?a_law ?l_law ?c_law ?k_law ?z_bool ?z_int ?z_isinstance ?z_len ?z_max ?z_range
    (case a_levels => k_is)
    (case l_levels => k_is)
    (case c_levels => k_is)
    (case k_levels => k_is)
    (case a_l_whole => k_is)
    (case l_l_whole => k_is)
    (case c_l_whole => k_is)
    (case k_l_whole => k_is)
    (case a_l_doubled => k_is)
    (case l_l_doubled => k_is)
    (case c_l_doubled => k_is)
    (case k_l_doubled => k_is)
    (case a_law => k_is)
    (case l_law => k_is)
    (case c_law => k_is)
    (case k_law => k_is)
    (case z_bool => k_is)
    (case z_int => k_is)
    (case z_isinstance => k_is)
    (case z_len => k_is)
    (case z_max => k_is)
    (case z_range => k_is)
#print axioms PySem.Challenge.cw_splitheap_k01_levels_holds
