import PyProof.Rows.All
import Wide.All
import OpenK.AllK
import Wide.FinOn
import HandS.ForMost
import HandS.Deep
import HandS.Style
import HandS.IsInst
import PySem.Challenge.RW_sidekeep_k68_records_are_judged
set_option Elab.async false
set_option maxRecDepth 100000
set_option maxHeartbeats 4000000
set_option linter.all false

namespace Sk
open PySem L2

/-! ### rules by values, joined over the kinds -/
section
variable {X : Cx}
def rAddU (K : PySem.W.Frag) : R2 := fun x y H Q => match x, y with
  | .int i, .int j => Q (.int (i + j)) H
  | .str i, .str j => i.length + j.length ≤ sizeLine ∧ Q (.str (i ++ j)) H
  | x, y => rCat x y H Q ∨ rCatT K x y H Q
theorem opAddU0 : OpR X (binaryOp .Add) (rAddU X.K) := by
  intro pins s σ H x y v u Q I rx ry h
  unfold rAddU at h
  split at h
  · exact op_add pins s σ H _ _ v u Q I rx ry ⟨_, _, rfl, rfl, h⟩
  · exact op_add_str pins s σ H _ _ v u Q I rx ry ⟨_, _, rfl, rfl, h.1, h.2⟩
  · rcases h with h | h
    · exact op_cat pins s σ H _ _ v u Q I rx ry h
    · exact op_catT pins s σ H _ _ v u Q I rx ry h
theorem opAddU {K : PySem.W.Frag} (hK : X.K = K := by rfl) : OpR X (binaryOp .Add) (rAddU K) := hK ▸ opAddU0
def rSubU : R2 := fun x y H Q => match x, y with
  | .int i, .int j => Q (.int (i - j)) H
  | _, _ => False
theorem opSubU : OpR X (binaryOp .Sub) rSubU := by
  intro pins s σ H x y v u Q I rx ry h
  unfold rSubU at h
  split at h
  · exact op_sub pins s σ H _ _ v u Q I rx ry ⟨_, _, rfl, rfl, h⟩
  · exact h.elim
def rMulU : R2 := fun x y H Q => match x, y with
  | .int i, .int j => CMul i j ∧ Q (.int (i * j)) H
  | x, y => rRep x y H Q
theorem opMultU : OpR X (binaryOp .Mult) rMulU := by
  intro pins s σ H x y v u Q I rx ry h
  unfold rMulU at h
  split at h
  · exact op_mul pins s σ H _ _ v u Q I rx ry ⟨_, _, rfl, rfl, h.1, h.2⟩
  · exact op_rep pins s σ H _ _ v u Q I rx ry h
def rModU : R2 := fun x y H Q => match x, y with
  | .int i, .int j => 0 < j ∧ Q (.int (i % j)) H
  | _, _ => False
theorem opModU : OpR X (binaryOp .Mod) rModU := by
  intro pins s σ H x y v u Q I rx ry h
  unfold rModU at h
  split at h
  · exact op_mod pins s σ H _ _ v u Q I rx ry ⟨_, _, rfl, rfl, h.1, h.2⟩
  · exact h.elim
def rDivU : R2 := fun x y H Q => match x, y with
  | .int i, .int j => CDiv i j ∧ Q (.int (i / j)) H
  | _, _ => False
theorem opFloorDivU : OpR X (binaryOp .FloorDiv) rDivU := by
  intro pins s σ H x y v u Q I rx ry h
  unfold rDivU at h
  split at h
  · exact op_fdiv pins s σ H _ _ v u Q I rx ry ⟨_, _, rfl, rfl, h.1, h.2⟩
  · exact h.elim
def rPowU : R2 := fun x y H Q => match x, y with
  | .int i, .int j => CPow i j ∧ Q (.int (i ^ j.toNat)) H
  | _, _ => False
theorem opPowU : OpR X (binaryOp .Pow) rPowU := by
  intro pins s σ H x y v u Q I rx ry h
  unfold rPowU at h
  split at h
  · exact op_pow pins s σ H _ _ v u Q I rx ry ⟨_, _, rfl, rfl, h.1, h.2⟩
  · exact h.elim
/-- == of scalars, or of data at any depth -/
def rEqU (K : PySem.W.Frag) : R2 := fun x y H Q => match x, y with
  | .int i, .int j => Q (.bl (decide (i = j))) H
  | .str i, .str j => Q (.bl (decide (i = j))) H
  | .bl i, .bl j => Q (.bl (decide (i = j))) H
  | x, y => rEqD K x y H Q
theorem opEqU0 (hu : X.A.units + 64 < cLine) : OpR X (compareOp .Eq) (rEqU X.K) := by
  intro pins s σ H x y v u Q I rx ry h
  unfold rEqU at h
  split at h
  · exact op_eq pins s σ H _ _ v u Q I rx ry ⟨rfl, by simpa using h⟩
  · exact op_eq pins s σ H _ _ v u Q I rx ry ⟨rfl, by simpa using h⟩
  · exact op_eq pins s σ H _ _ v u Q I rx ry ⟨rfl, by simpa using h⟩
  · exact op_eqD hu pins s σ H _ _ v u Q I rx ry h
theorem opEqU {K : PySem.W.Frag} (hu : X.A.units + 64 < cLine) (hK : X.K = K := by rfl) : OpR X (compareOp .Eq) (rEqU K) := hK ▸ opEqU0 hu
def rNeU (K : PySem.W.Frag) : R2 := fun x y H Q => match x, y with
  | .int i, .int j => Q (.bl (!decide (i = j))) H
  | .str i, .str j => Q (.bl (!decide (i = j))) H
  | .bl i, .bl j => Q (.bl (!decide (i = j))) H
  | x, y => rNeD K x y H Q
theorem opNeU0 (hu : X.A.units + 64 < cLine) : OpR X (compareOp .NotEq) (rNeU X.K) := by
  intro pins s σ H x y v u Q I rx ry h
  unfold rNeU at h
  split at h
  · exact op_ne pins s σ H _ _ v u Q I rx ry ⟨rfl, by simpa using h⟩
  · exact op_ne pins s σ H _ _ v u Q I rx ry ⟨rfl, by simpa using h⟩
  · exact op_ne pins s σ H _ _ v u Q I rx ry ⟨rfl, by simpa using h⟩
  · exact op_neD hu pins s σ H _ _ v u Q I rx ry h
theorem opNeU {K : PySem.W.Frag} (hu : X.A.units + 64 < cLine) (hK : X.K = K := by rfl) : OpR X (compareOp .NotEq) (rNeU K) := hK ▸ opNeU0 hu
def rIsU : R2 := fun x y H Q => match y with
  | .non => Q (.bl (decide (x = .non))) H
  | .bl b => ∃ a, x = .bl a ∧ Q (.bl (decide (a = b))) H
  | _ => False
theorem opIsU : OpR X (compareOp .Is) rIsU := by
  intro pins s σ H x y v u Q I rx ry h
  unfold rIsU at h
  split at h
  · exact op_isN pins s σ H _ _ v u Q I rx ry ⟨rfl, h⟩
  · obtain ⟨a, rfl, q⟩ := h; exact op_isBl pins s σ H _ _ v u Q I rx ry ⟨_, _, rfl, rfl, q⟩
  · exact h.elim
def rNotU : R2 := fun x y H Q => match y with
  | .non => Q (.bl (!decide (x = .non))) H
  | .bl b => ∃ a, x = .bl a ∧ Q (.bl (!decide (a = b))) H
  | _ => False
theorem opNotU : OpR X (compareOp .IsNot) rNotU := by
  intro pins s σ H x y v u Q I rx ry h
  unfold rNotU at h
  split at h
  · exact op_notN pins s σ H _ _ v u Q I rx ry ⟨rfl, h⟩
  · obtain ⟨a, rfl, q⟩ := h; exact op_notBl pins s σ H _ _ v u Q I rx ry ⟨_, _, rfl, rfl, q⟩
  · exact h.elim
theorem opInF0 : OpR X (compareOp .In) (rIn X.K false) := op_in_seq
theorem opInF {K : PySem.W.Frag} (hK : X.K = K := by rfl) : OpR X (compareOp .In) (rIn K false) := hK ▸ opInF0
theorem opNinF0 : OpR X (compareOp .NotIn) (rIn X.K true) := op_notIn_seq
theorem opNinF {K : PySem.W.Frag} (hK : X.K = K := by rfl) : OpR X (compareOp .NotIn) (rIn K true) := hK ▸ opNinF0
theorem ps_never {st : Stmt} : PS X st (fun _ _ _ => False) := ⟨fun _ _ _ _ _ _ h => h.elim⟩
theorem pe_never {e : Expr} : PE X e (fun _ _ _ => False) := ⟨fun _ _ _ _ _ _ h => h.elim⟩
theorem hu65 {A : Around} {k : Nat} (hr : Room k A) : A.units + 65 < cLine := by have := hr.un; omega
theorem opInU0 (hu : X.A.units + 65 < cLine) : OpR X (compareOp .In) (rInD X.K) := op_inD hu
theorem opInU {K : PySem.W.Frag} (hu : X.A.units + 65 < cLine) (hK : X.K = K := by rfl) : OpR X (compareOp .In) (rInD K) := hK ▸ opInU0 hu
theorem opNinU0 (hu : X.A.units + 65 < cLine) : OpR X (compareOp .NotIn) (rNotInD X.K) := op_notInD hu
theorem opNinU {K : PySem.W.Frag} (hu : X.A.units + 65 < cLine) (hK : X.K = K := by rfl) : OpR X (compareOp .NotIn) (rNotInD K) := hK ▸ opNinU0 hu
theorem ixU0 : IxR X (rIx X.K) := ix_seq
theorem ixU {K : PySem.W.Frag} (hK : X.K = K := by rfl) : IxR X (rIx K) := hK ▸ ixU0
def rSlU (K : PySem.W.Frag) : V → Option Int → Option Int → Hp → VK → Prop := fun x lo hi H Q => rSlL K x lo hi H Q ∨ rSlT K x lo hi H Q
theorem slU0 : SlR X (rSlU X.K) := sl_list.or sl_tup
theorem slU {K : PySem.W.Frag} (hK : X.K = K := by rfl) : SlR X (rSlU K) := hK ▸ slU0
def rLenU (K : PySem.W.Frag) : List V → Hp → VK → Prop := fun xs H Q => ∃ x n, xs = [x] ∧ LenV K x H n ∧ Q (.int n) H
theorem callLenU0 : CallR X (.builtin "len") (rLenU X.K) := call_len
theorem callLenU {K : PySem.W.Frag} (hK : X.K = K := by rfl) : CallR X (.builtin "len") (rLenU K) := hK ▸ callLenU0
def rListU (K : PySem.W.Frag) : List V → Hp → VK → Prop := fun xs H Q => ∃ p ys, xs = [.ref p] ∧ (SqL K H p ys ∨ SqT K H p ys) ∧ ∀ l, H l = none → Q (.ref l) (upd H l (.lst ys))
theorem callListU0 : CallR X (.type "list") (rListU X.K) := call_list_of
theorem callListU {K : PySem.W.Frag} (hK : X.K = K := by rfl) : CallR X (.type "list") (rListU K) := hK ▸ callListU0
def rTupU (K : PySem.W.Frag) : List V → Hp → VK → Prop := fun xs H Q => ∃ p ys, xs = [.ref p] ∧ ((SqL K H p ys ∧ ∀ l, H l = none → Q (.ref l) (upd H l (.tup ys))) ∨ (SqT K H p ys ∧ Q (.ref p) H))
theorem callTupU0 : CallR X (.type "tuple") (rTupU X.K) := call_tuple_of
theorem callTupU {K : PySem.W.Frag} (hK : X.K = K := by rfl) : CallR X (.type "tuple") (rTupU K) := hK ▸ callTupU0
def rInt1 : List V → Hp → VK → Prop := fun xs H Q => (∃ i, xs = [.int i] ∧ Q (.int i) H) ∨ ∃ k, xs = [.bl k] ∧ Q (.int (if k then 1 else 0)) H
theorem callIntU : CallR X (.type "int") rInt1 := call_int1
/-! the layer's rules with the written part K named (a comprehension's block has it by computing) -/
variable {e : Expr} {es : List Expr} {te : TE} {t : TA} {pos : Pos} {tg : Expr} {K : PySem.W.Frag}
theorem pe_fldK {f : Str} (he : PE X e te) (hb : attributeBase e f X.env (eval e X.env) = eval e X.env) (hK : X.K = K := by rfl) : PE X (.Attribute e f pos) (tFld K te f) := hK ▸ pe_fld he hb
def tTruK (K : PySem.W.Frag) (ta : TE) : TT := fun σ H Q => ta σ H fun x H' => ∃ k, TruV K x H' k ∧ Q k H'
theorem pt_truthK (ha : PE X e te) (he : ∀ whole, isTrue e X.env whole = (do let v ← whole; standAt e.pos; holding [v] (truthy v))) (hK : X.K = K := by rfl) : PT X e (tTruK K te) := hK ▸ pt_truth ha he
theorem pi_listK (hl : PE X e te) (hK : X.K = K := by rfl) : PI X tg e (iList K te) := hK ▸ pi_list hl
theorem pi_tupK (hl : PE X e te) (hK : X.K = K := by rfl) : PI X tg e (iTup K te) := hK ▸ pi_tup hl
theorem pg_tupK {k : Nat} {t : TGs} {n : Nat} (hc : X.calm = true) (h : PGs X es t)
    (hn : (assignEach es X.env).length = n := by rfl) (hst : (assignEach es X.env).findIdx? (·.1) = none := by rfl) (hK : X.K = K := by rfl) : PG X (.Tuple es k pos) (gTup K n t) := hK ▸ pg_tup hc h hn hst
end

/-! ### steps of a reading -/
section
variable {K : PySem.W.Frag} {σ : St} {H H1 : Hp} {Q : VK} {QB : Bool → Hp → Prop} {QA : List V → Hp → Prop} {D : Ends} {i : Nat} {v x y : V} {te ta tb : TE} {t u : TS} {c cd : TT} {tr : TA} {E : XK} {A B : Prop}
theorem g_var (h : σ[i]? = some (some v)) (q : Q v H) : tVar i σ H Q := ⟨v, h, q⟩
theorem g_c (q : Q v H) : tC v σ H Q := q
theorem g_op {r : R2} (q : ta σ H fun x H1 => tb σ H1 fun y H2 => r x y H2 Q) : tOp r ta tb σ H Q := q
theorem g_un {r : V → Hp → VK → Prop} (q : ta σ H fun x H1 => r x H1 Q) : tUn r ta σ H Q := q
theorem g_neg {n : Int} (q : Q (.int (-n)) H) : rU (fun i => .int (-i)) (.int n) H Q := ⟨n, rfl, q⟩
theorem g_add {a b : Int} (q : Q (.int (a + b)) H) : rAddU K (.int a) (.int b) H Q := q
theorem g_sub {a b : Int} (q : Q (.int (a - b)) H) : rSubU (.int a) (.int b) H Q := q
theorem g_mul {a b : Int} (h : CMul a b) (q : Q (.int (a * b)) H) : rMulU (.int a) (.int b) H Q := ⟨h, q⟩
theorem g_mod {a b : Int} (h : 0 < b) (q : Q (.int (a % b)) H) : rModU (.int a) (.int b) H Q := ⟨h, q⟩
theorem g_div {a b : Int} (h : CDiv a b) (q : Q (.int (a / b)) H) : rDivU (.int a) (.int b) H Q := ⟨h, q⟩
theorem g_pow {a b : Int} (h : CPow a b) (q : Q (.int (a ^ b.toNat)) H) : rPowU (.int a) (.int b) H Q := ⟨h, q⟩
theorem g_cmp {g : Int → Int → V} {a b : Int} (q : Q (g a b) H) : rI0 g (.int a) (.int b) H Q := ⟨a, b, rfl, rfl, q⟩
theorem g_eqI {a b : Int} (q : Q (.bl (decide (a = b))) H) : rEqU K (.int a) (.int b) H Q := q
theorem g_eqS {a b : Str} (q : Q (.bl (decide (a = b))) H) : rEqU K (.str a) (.str b) H Q := q
theorem g_eqB {a b : Bool} (q : Q (.bl (decide (a = b))) H) : rEqU K (.bl a) (.bl b) H Q := q
theorem g_neI {a b : Int} (q : Q (.bl (!decide (a = b))) H) : rNeU K (.int a) (.int b) H Q := q
theorem g_neS {a b : Str} (q : Q (.bl (!decide (a = b))) H) : rNeU K (.str a) (.str b) H Q := q
theorem g_isN (q : Q (.bl (decide (x = .non))) H) : rIsU x .non H Q := q
theorem g_notN (q : Q (.bl (!decide (x = .non))) H) : rNotU x .non H Q := q
theorem g_isB {a b : Bool} (q : Q (.bl (decide (a = b))) H) : rIsU (.bl a) (.bl b) H Q := ⟨a, rfl, q⟩
theorem g_notB {a b : Bool} (q : Q (.bl (!decide (a = b))) H) : rNotU (.bl a) (.bl b) H Q := ⟨a, rfl, q⟩
theorem g_rep {p : Addr} {xs : List V} {k : Int} (h : H p = some (.lst xs)) (h1 : -(2 ^ 63) ≤ k) (h2 : k < 2 ^ 63) (z : xs.length * k.toNat ≤ sizeLine) (q : ∀ p, H p = none → Q (.ref p) (upd H p (.lst (List.replicate k.toNat xs).flatten))) : rMulU (.ref p) (.int k) H Q := ⟨p, k, xs, rfl, rfl, h, h1, h2, z, q⟩
theorem g_cat {a b : Addr} {xs zs : List V} (h : H a = some (.lst xs)) (g : H b = some (.lst zs)) (z : xs.length + zs.length ≤ sizeLine) (q : ∀ p, H p = none → Q (.ref p) (upd H p (.lst (xs ++ zs)))) : rAddU K (.ref a) (.ref b) H Q := .inl ⟨a, b, xs, zs, rfl, rfl, h, g, z, q⟩
theorem g_ninF {p : Addr} {xs : List V} (h : SqL K H p xs ∨ SqT K H p xs) (f : flatV x = true) (fs : xs.all flatV = true) (q : Q (.bl (!inV x xs)) H) : rIn K true x (.ref p) H Q := ⟨p, xs, rfl, h, f, fs, q⟩
theorem g_inF {p : Addr} {xs : List V} (h : SqL K H p xs ∨ SqT K H p xs) (f : flatV x = true) (fs : xs.all flatV = true) (q : Q (.bl (inV x xs)) H) : rIn K false x (.ref p) H Q := ⟨p, xs, rfl, h, f, fs, q⟩
theorem g_tupL {p : Addr} {xs : List V} (h : SqL K H p xs) (q : ∀ l, H l = none → Q (.ref l) (upd H l (.tup xs))) : rTupU K [.ref p] H Q := ⟨p, xs, rfl, .inl ⟨h, q⟩⟩
theorem g_listT {p : Addr} {ys : List V} (h : SqT K H p ys) (q : ∀ l, H l = none → Q (.ref l) (upd H l (.lst ys))) : rListU K [.ref p] H Q := ⟨p, ys, rfl, .inr h, q⟩
theorem g_ixL {p : Addr} {xs : List V} {j : Int} (h : SqL K H p xs) (e : atI xs j = some v) (q : Q v H) : rIx K (.ref p) (.int j) H Q := .inl ⟨p, xs, j, v, rfl, rfl, h, e, q⟩
theorem g_ixT {p : Addr} {xs : List V} {j : Int} (h : SqT K H p xs) (e : atI xs j = some v) (q : Q v H) : rIx K (.ref p) (.int j) H Q := .inr (.inl ⟨p, xs, j, v, rfl, rfl, h, e, q⟩)
theorem g_lenL {p : Addr} {xs : List V} (h : SqL K H p xs) (q : Q (.int (xs.length : Int)) H) : rLenU K [.ref p] H Q := ⟨_, _, rfl, .inl ⟨xs, h, rfl⟩, q⟩
theorem g_lenT {p : Addr} {xs : List V} (h : SqT K H p xs) (q : Q (.int (xs.length : Int)) H) : rLenU K [.ref p] H Q := ⟨_, _, rfl, .inr ⟨xs, h, rfl⟩, q⟩
theorem g_int {n : Int} (q : Q (.int n) H) : rInt1 [.int n] H Q := .inl ⟨n, rfl, q⟩
theorem g_intB {k : Bool} (q : Q (.int (if k then 1 else 0)) H) : rInt1 [.bl k] H Q := .inr ⟨k, rfl, q⟩
theorem g_setL {p : Addr} {xs : List V} {k : Int} {j : Nat} {QH : Hp → Prop} (h : H p = some (.lst xs)) (e : ixN xs.length k = some j) (q : QH (upd H p (.lst (xs.set j v)))) : rSetL (.ref p) (.int k) v H QH := ⟨p, xs, k, j, rfl, rfl, h, e, q⟩
theorem g_nil (q : QA [] H) : tNil σ H QA := q
theorem g_cons (q : te σ H fun x H1 => tr σ H1 fun xs H2 => QA (x :: xs) H2) : tCons te tr σ H QA := q
theorem g_cb {r : List V → Hp → VK → Prop} (q : tr σ H fun vs H1 => r vs H1 Q) : tCB r tr σ H Q := q
theorem g_tup (q : tr σ H fun xs H1 => xs.length ≤ sizeLine ∧ ∀ p, H1 p = none → Q (.ref p) (upd H1 p (.tup xs))) : tTup tr σ H Q := q
theorem g_lst (q : tr σ H fun xs H1 => xs.length ≤ sizeLine ∧ ∀ p, H1 p = none → Q (.ref p) (upd H1 p (.lst xs))) : tLst tr σ H Q := q
theorem g_test (q : te σ H fun x H' => ∃ k, x = .bl k ∧ QB k H') : tTest te σ H QB := q
theorem g_tB (q : te σ H fun x H' => ∃ k, x = .bl k ∧ QB k H') : tB te σ H QB := q
theorem g_bl {k : Bool} {P : Bool → Prop} (q : P k) : ∃ k', V.bl k = .bl k' ∧ P k' := ⟨k, rfl, q⟩
theorem g_not (q : c σ H fun b H1 => QB (!b) H1) : tNot c σ H QB := q
theorem g_and (q : c σ H fun b H1 => if b = true then cd σ H1 QB else QB false H1) : tAnd c cd σ H QB := q
theorem g_or (q : c σ H fun b H1 => if b = true then QB true H1 else cd σ H1 QB) : tOr c cd σ H QB := q
theorem g_if (q : c σ H fun b H1 => if b = true then t D σ H1 else u D σ H1) : tIfS c t u D σ H := q
theorem g_ife (q : c σ H fun b H1 => if b = true then ta σ H1 Q else tb σ H1 Q) : tIf c ta tb σ H Q := q
theorem g_ite {p : Prop} [Decidable p] (h1 : p → A) (h2 : ¬ p → B) : if decide p = true then A else B := by
  by_cases h : p
  · rw [if_pos (decide_eq_true h)]; exact h1 h
  · rw [if_neg (by simp [h])]; exact h2 h
theorem g_iteN {p : Prop} [Decidable p] (h1 : ¬ p → A) (h2 : p → B) : if (!decide p) = true then A else B := by
  by_cases h : p
  · rw [if_neg (by simp [h])]; exact h2 h
  · rw [if_pos (by simp [h])]; exact h1 h
theorem g_iteB {b : Bool} (h1 : b = true → A) (h2 : b = false → B) : if b = true then A else B := by
  cases b
  · rw [if_neg Bool.false_ne_true]; exact h2 rfl
  · rw [if_pos rfl]; exact h1 rfl
theorem g_iteT {b : Bool} (h : b = true) (q : A) : if b = true then A else B := by rw [if_pos h]; exact q
theorem g_iteF {b : Bool} (h : b = false) (q : B) : if b = true then A else B := by rw [if_neg (by rw [h]; exact Bool.false_ne_true)]; exact q
theorem g_seq (q : t { D with nx := u D } σ H) : tSeq t u D σ H := q
theorem g_next (q : D.nx σ H) : tNext D σ H := q
theorem g_ret (q : te σ H D.rt) : tRet te D σ H := q
theorem g_retN (q : D.rt .non H) : tRetN D σ H := q
theorem g_drop (q : te σ H fun _ H1 => D.nx σ H1) : tDrop te D σ H := q
theorem g_asg (q : te σ H fun x H1 => D.nx (σ.set i (some x)) H1) : tAsg te (gName i) D σ H := q
theorem g_asgS {to ti : TE} {ts : TSet} (q : te σ H fun x H1 => to σ H1 fun o H2 => ti σ H2 fun k H3 => ts o k x H3 fun H4 => D.nx σ H4) : tAsg te (gSub to ti ts) D σ H := q
theorem g_seqA (q : te σ H fun x H1 => u D (σ.set i (some x)) H1) : tSeq (tAsg te (gName i)) u D σ H := q
theorem g_seqS {to ti : TE} {ts : TSet} (q : te σ H fun x H1 => to σ H1 fun o H2 => ti σ H2 fun k H3 => ts o k x H3 fun H4 => u D σ H4) : tSeq (tAsg te (gSub to ti ts)) u D σ H := q
theorem g_seqD (q : te σ H fun _ H1 => u D σ H1) : tSeq (tDrop te) u D σ H := q
theorem g_seqI {w : TS} (q : c σ H fun b H1 => if b = true then t { D with nx := w D } σ H1 else u { D with nx := w D } σ H1) : tSeq (tIfS c t u) w D σ H := q
theorem g_joinI {p : Prop} [Decidable p] {v0 : V} (Rv : V → Prop) (h0 : σ[i]? = some (some v0)) (ht : p → ∀ Q : VK, (∀ x, Rv x → Q x H) → te σ H Q) (hf : ¬ p → Rv v0) (rest : ∀ x, Rv x → u D (σ.set i (some x)) H) :
    if decide p = true then tAsg te (gName i) { D with nx := u D } σ H else tNext { D with nx := u D } σ H := by
  refine g_ite (fun h => ht h _ fun x r => rest x r) (fun h => ?_)
  have e : σ.set i (some v0) = σ := by
    apply List.ext_getElem? 
    intro j
    by_cases hj : i = j
    · subst hj
      rw [h0]
      have hl : i < σ.length := (List.getElem?_eq_some_iff.mp h0).1
      simp [hl]
    · rw [List.getElem?_set_ne hj]
  have := rest v0 (hf h)
  rw [e] at this
  exact this
theorem g_truth (q : te σ H fun x H' => ∃ k, TruV K x H' k ∧ QB k H') : tTruK K te σ H QB := q
theorem g_call {sp : Sp} {dvs : List V} (q : tr σ H fun vs H1 => sp (vs ++ dvs) H1 Q E) : tCall sp dvs E tr σ H Q := q
/-- o.f, by values -/
def FldW (K : PySem.W.Frag) (x : V) (f : Str) (H : Hp) (Q : VK) : Prop := ∃ a C dx fs v, x = .ref a ∧ H a = some (.ins C dx fs) ∧ Cls K C ∧ NoAttr K C f ∧ fs.lookup f = some v ∧ Q v H
theorem g_fld {f : Str} (q : te σ H fun x H1 => FldW K x f H1 Q) : tFld K te f σ H Q := q
theorem g_fldW {a C dx : Addr} {fs : List (Str × V)} {f : Str} (h : H a = some (.ins C dx fs)) (c : Cls K C) (n : NoAttr K C f) (l : fs.lookup f = some v) (q : Q v H) : FldW K (.ref a) f H Q := ⟨a, C, dx, fs, v, rfl, h, c, n, l, q⟩
/-- o.f = y, by values -/
def SetW (K : PySem.W.Frag) (x y : V) (f : Str) (H : Hp) (QH : Hp → Prop) : Prop := ∃ a C dx fs, x = .ref a ∧ H a = some (.ins C dx fs) ∧ Cls K C ∧ NoAttr K C f ∧ fs.length < 1000 ∧ QH (upd H a (.ins C dx (putF f y fs)))
theorem g_sfld {f : Str} (q : ta σ H fun y H1 => te σ H1 fun x H2 => SetW K x y f H2 fun H3 => D.nx σ H3) : sFld K te ta f D σ H := q
theorem g_seqF {f : Str} (q : ta σ H fun y H1 => te σ H1 fun x H2 => SetW K x y f H2 fun H3 => u D σ H3) : tSeq (sFld K te ta f) u D σ H := q
theorem g_setW {a C dx : Addr} {fs : List (Str × V)} {f : Str} {QH : Hp → Prop} (h : H a = some (.ins C dx fs)) (c : Cls K C) (n : NoAttr K C f) (z : fs.length < 1000) (q : QH (upd H a (.ins C dx (putF f y fs)))) : SetW K (.ref a) y f H QH := ⟨a, C, dx, fs, rfl, h, c, n, z, q⟩
/-- a method of a list, of another built-in type -/
theorem g_bm {ty : String} {r : V → List V → Hp → VK → Prop} (q : te σ H fun x H1 => tyV K ty x H1 ∧ tr σ H1 fun xs H2 => r x xs H2 Q) : tBM K ty r te tr σ H Q := q
theorem g_bm0 {ty : String} {r : V → List V → Hp → VK → Prop} (q : te σ H fun x H1 => tyV K ty x H1 ∧ r x [] H1 Q) : tBM0 K ty r te σ H Q := q
theorem g_tyL {p : Addr} {xs : List V} {P : Prop} (h : H p = some (.lst xs)) (q : P) : tyV K "list" (.ref p) H ∧ P := ⟨.inl ⟨rfl, _, SqL.of h⟩, q⟩
theorem g_app {p : Addr} {xs : List V} (h : H p = some (.lst xs)) (z : xs.length < sizeLine) (q : Q .non (upd H p (.lst (xs ++ [v])))) : rAppend (.ref p) [v] H Q := ⟨p, xs, v, rfl, rfl, h, z, q⟩
def MW (C : Addr) (m : Str) (x : V) (H : Hp) (P : Prop) : Prop := ∃ a dx fs, x = .ref a ∧ H a = some (.ins C dx fs) ∧ fs.lookup m = none ∧ P
theorem g_meth {C : Addr} {m : Str} {sp : Sp} {dvs : List V} (q : te σ H fun x H1 => MW C m x H1 (tr σ H1 fun vs H2 => sp (x :: (vs ++ dvs)) H2 Q E)) : tMeth C m sp dvs E te tr σ H Q := q
theorem g_MW {C a dx : Addr} {fs : List (Str × V)} {m : Str} {P : Prop} (h : H a = some (.ins C dx fs)) (l : fs.lookup m = none) (q : P) : MW C m (.ref a) H P := ⟨a, dx, fs, rfl, h, l, q⟩
/-- C(..) -/
theorem g_make {C : Addr} {sp : Sp} {dvs : List V} (q : tr σ H fun vs H1 => ∀ x dx, H1 x = none → H1 dx = none → dx ≠ x →
  sp (.ref x :: (vs ++ dvs)) (upd (upd H1 dx (.own x)) x (.ins C dx [])) (fun v H2 => v = .non ∧ Q (.ref x) H2) E) : tMake C sp dvs E tr σ H Q := q
theorem g_sl {r : V → Option Int → Option Int → Hp → VK → Prop} {tl th : TO} (q : te σ H fun x H1 => tl σ H1 fun l H2 => th σ H2 fun u H3 => r x l u H3 Q) : tSl r te tl th σ H Q := q
def PartW (x : V) (H : Hp) (Q : Option Int → Hp → Prop) : Prop := ∃ i, x = .int i ∧ Q (some i) H
theorem g_part {QO : Option Int → Hp → Prop} (q : te σ H fun x H1 => PartW x H1 QO) : tPart te σ H QO := q
theorem g_partW {QO : Option Int → Hp → Prop} {n : Int} (q : QO (some n) H) : PartW (.int n) H QO := ⟨n, rfl, q⟩
theorem g_noPart {QO : Option Int → Hp → Prop} (q : QO none H) : tNoPart σ H QO := q
theorem g_slL {p : Addr} {xs : List V} {lo hi : Option Int} (h : SqL K H p xs) (q : ∀ p, H p = none → Q (.ref p) (upd H p (.lst (cutV xs lo hi)))) : rSlU K (.ref p) lo hi H Q := .inl ⟨p, xs, rfl, h, q⟩
/-! loops: what is walked, then the loop's own question -/
def ForW (J : It) (g : TG) (tb : TS) (D : Ends) (σ : St) (H1 : Hp) : Prop := ∃ W : Nat → Nat → St → Hp → Prop, (∃ m, W 0 m σ H1) ∧ ∀ i m σ H, W i m σ H →
  (J.stop i H ∧ D.nx σ H) ∨ (J.go i H ∧ ∃ N : St → Hp → Prop, (∀ σ' H', N σ' H' → ∃ m', m' < m ∧ W (i + 1) m' σ' H') ∧ ∀ x H', J.yld i H x H' → g x σ H' fun σ2 H2 => tb { D with nx := N, ct := N, bk := D.nx } σ2 H2)
theorem g_for {wi : TI} {g : TG} {tb : TS} (q : wi σ H fun J H1 => ForW J g tb D σ H1) : tFor wi g tb D σ H := q
theorem g_seqFor {wi : TI} {g : TG} {tb : TS} (q : wi σ H fun J H1 => ForW J g tb { D with nx := u D } σ H1) : tSeq (tFor wi g tb) u D σ H := q
def LcW (J : It) (g : TG) (tt : TT) (te : TE) (vs : List Nat) (σ : St) (Q : VK) (H1 : Hp) : Prop := ∀ D, H1 D = none → ∃ W : Nat → Nat → Hp → Prop, (∃ m, W 0 m (upd H1 D (.lst []))) ∧ ∀ i m H, W i m H →
  (J.stop i H ∧ Q (.ref D) H) ∨ (J.go i H ∧ ∃ Nx : Hp → Prop, (∀ H', Nx H' → ∃ m', m' < m ∧ W (i + 1) m' H') ∧ ∀ x H', J.yld i H x H' → g x (wipe σ vs) H' fun σ2 H2 => wipe σ2 vs = wipe σ vs ∧ tt σ2 H2 fun b H3 =>
    if b = true then te σ2 H3 fun y H4 => ∃ acc, H4 D = some (.lst acc) ∧ acc.length < sizeLine ∧ Nx (upd H4 D (.lst (acc ++ [y]))) else Nx H3)
theorem g_lc {wi : TI} {g : TG} {tt : TT} {vs : List Nat} (q : wi σ H fun J H1 => LcW J g tt te vs σ Q H1) : tLc wi g tt te vs σ H Q := q
def LsW (K : PySem.W.Frag) (x : V) (H : Hp) (R : It → Hp → Prop) : Prop := ∃ a, x = .ref a ∧ (∃ xs, SqL K H a xs) ∧ R (Itl K a) H
theorem g_iList {R : It → Hp → Prop} (q : te σ H fun x H1 => LsW K x H1 R) : iList K te σ H R := q
theorem g_LsW {R : It → Hp → Prop} {a : Addr} {xs : List V} (h : SqL K H a xs) (q : R (Itl K a) H) : LsW K (.ref a) H R := ⟨a, rfl, ⟨xs, h⟩, q⟩
def R1W (vs : List V) (H : Hp) (R : It → Hp → Prop) : Prop := ∃ j : Int, vs = [.int j] ∧ -(2 ^ 62) ≤ j ∧ j < 2 ^ 62 ∧ R (Itr 0 j.toNat) H
theorem g_iR1 {R : It → Hp → Prop} (q : tr σ H fun vs H1 => R1W vs H1 R) : iRng1 tr σ H R := q
theorem g_R1W {R : It → Hp → Prop} {n : Nat} {j : Int} (e : j = (n : Int)) (h : n ≤ 100000) (q : R (Itr 0 n) H) : R1W [.int j] H R := by subst e; exact ⟨n, rfl, by omega, by omega, q⟩
def R2W (vs : List V) (H : Hp) (R : It → Hp → Prop) : Prop := ∃ i j : Int, vs = [.int i, .int j] ∧ (-(2 ^ 62) ≤ i ∧ i < 2 ^ 62 ∧ -(2 ^ 62) ≤ j ∧ j < 2 ^ 62) ∧ R (Itr i (j - i).toNat) H
theorem g_iR2 {R : It → Hp → Prop} (q : tr σ H fun vs H1 => R2W vs H1 R) : iRng2 tr σ H R := q
theorem g_gName {QG : St → Hp → Prop} (q : QG (σ.set i (some v)) H) : gName i v σ H QG := q
end
end Sk

namespace Sk
open PySem L2
/-! ### what is read for ever (R) within what is tracked (H) -/
structure Gr (M : List Addr) (R H R' H' : Hp) : Prop where
  rr : Same R R'
  rh : Same R' H'
  hh : ∀ a o, a ∉ M → H a = some o → H' a = some o
  fr : ∀ b o, H b = some o → R b = none → R' b = none
  th : ∀ b o, H b = some o → ∃ o', H' b = some o'
section
variable {M : List Addr} {R H R1 H1 R2 H2 : Hp} {p : Addr} {o : HO} {Q : VK} {K : PySem.W.Frag}
theorem Gr.refl (h : Same R H) : Gr M R H R H := ⟨Same.refl _, h, fun _ _ _ e => e, fun _ _ _ e => e, fun _ o e => ⟨o, e⟩⟩
theorem Gr.trans (a : Gr M R H R1 H1) (b : Gr M R1 H1 R2 H2) : Gr M R H R2 H2 :=
  ⟨a.rr.trans b.rr, b.rh, fun c o m e => b.hh c o m (a.hh c o m e), fun c o e n => let ⟨o', e'⟩ := a.th c o e; b.fr c o' e' (a.fr c o e n), fun c o e => let ⟨o', e'⟩ := a.th c o e; b.th c o' e'⟩
theorem Gr.mono {M' : List Addr} (a : Gr M R H R1 H1) (h : ∀ x ∈ M, x ∈ M') : Gr M' R H R1 H1 := ⟨a.rr, a.rh, fun c o m e => a.hh c o (fun z => m (h _ z)) e, a.fr, a.th⟩
theorem Gr.nil (a : Gr [] R H R1 H1) : Gr M R H R1 H1 := a.mono fun _ z => nomatch z
theorem Gr.same (a : Gr [] R H R1 H1) : Same H H1 := fun b o e => a.hh b o (by simp) e
theorem Gr.free (a : Gr M R H R1 H1) (h : H1 p = none) : H p = none := by
  cases e : H p with
  | none => rfl
  | some o => obtain ⟨o', e'⟩ := a.th p o e; rw [h] at e'; cases e'
/-- an object that changes is behind all changes still one that is not read for ever -/
theorem Gr.mut (h : Same R H) (n : R p = none) (e : H p = some o) {o' : HO} : Gr [p] R H R (upd H p o') := by
  refine ⟨Same.refl _, fun b u q => ?_, fun b u m q => ?_, fun _ _ _ q => q, fun b u q => ?_⟩
  · rw [upd_ne (ne_of_none q n)]; exact h b u q
  · rw [upd_ne (by simpa using m)]; exact q
  · by_cases hb : b = p
    · subst hb; exact ⟨o', upd_same⟩
    · exact ⟨u, by rw [upd_ne hb]; exact q⟩
theorem Same.free' (h : Same R H) (n : H p = none) : R p = none := h.free n
theorem Gr.newR (h : Same R H) (n : H p = none) : Gr M R H (upd R p o) (upd H p o) := by
  refine ⟨fun b u q => ?_, fun b u q => ?_, fun b u _ q => ?_, fun b u q m => ?_, fun b u q => ⟨u, ?_⟩⟩
  · rw [upd_ne (ne_of_none q (h.free n))]; exact q
  · by_cases hb : b = p
    · subst hb; rw [upd_same] at q ⊢; exact q
    · rw [upd_ne hb] at q ⊢; exact h b u q
  · rw [upd_ne (ne_of_none q n)]; exact q
  · rw [upd_ne (ne_of_none q n)]; exact m
  · rw [upd_ne (ne_of_none q n)]; exact q
theorem Gr.newM (h : Same R H) (n : H p = none) : Gr M R H R (upd H p o) := by
  refine ⟨Same.refl _, fun b u q => ?_, fun b u _ q => ?_, fun _ _ _ m => m, fun b u q => ⟨u, ?_⟩⟩
  · rw [upd_ne (ne_of_none (h b u q) n)]; exact h b u q
  · rw [upd_ne (ne_of_none q n)]; exact q
  · rw [upd_ne (ne_of_none q n)]; exact q
/-- not tracked (a word of its own, so that a search finds the heap) -/
def Free (H : Hp) (p : Addr) : Prop := H p = none
theorem Free.ne {a b : Addr} {o : HO} (n : Free H b) (h : H a = some o) : a ≠ b := ne_of_none h n
theorem Gr.frI (a : Gr M R H R1 H1) {b : Addr} {o : HO} (h : H b = some o) (n : R b = none) : R1 b = none := a.fr b o h n
theorem newR_ex {H1 : Hp} (h : Same R H) (n : H p = none) (q : upd H p o = H1) : ∃ R1, Free H p ∧ Gr [] R H R1 H1 ∧ R1 p = some o ∧ Same R1 H1 := by
  subst q
  exact ⟨upd R p o, n, .newR h n, upd_same, (Gr.newR (M := []) h n).rh⟩
/-- the same, R unchanged (kept apart so that a search along R does not run in a circle) -/
structure Mu (M : List Addr) (R H H1 : Hp) : Prop where
  g : Gr M R H R H1
theorem newM_ex {H1 : Hp} (h : Same R H) (n : H p = none) (q : upd H p o = H1) : Free H p ∧ Mu [] R H H1 ∧ R p = none ∧ H1 p = some o ∧ Same R H1 := by
  subst q
  exact ⟨n, ⟨.newM h n⟩, h.free n, upd_same, (Gr.newM (M := []) h n).rh⟩
theorem mut_ex {H1 : Hp} {o' : HO} (h : Same R H) (n : R p = none) (e : H p = some o) (q : upd H p o' = H1) : Mu [p] R H H1 ∧ H1 p = some o' ∧ Same R H1 := by
  subst q
  exact ⟨⟨.mut h n e⟩, upd_same, (Gr.mut h n e).rh⟩
theorem allocR (h : Same R H) (k : ∀ p R' H', Gr [] R H R' H' → R' p = some o → H p = none → Q (.ref p) H') : ∀ p, H p = none → Q (.ref p) (upd H p o) :=
  fun p n => k p (upd R p o) _ (.newR h n) upd_same n
theorem allocM (h : Same R H) (k : ∀ p H', Gr [] R H R H' → H p = none → R p = none → H' p = some o → Q (.ref p) H') : ∀ p, H p = none → Q (.ref p) (upd H p o) :=
  fun p n => k p _ (.newM h n) n (h.free n) upd_same
theorem Same.rd {H H' : Hp} (e : Same H H') {a : Addr} {u : HO} (h : Rd H a u) : Rd H' a u := by
  rcases h with h | ⟨o, h⟩
  · exact .inl (e _ _ h)
  · exact .inr ⟨o, e _ _ h⟩
theorem sqT_mono {H H' : Hp} {a : Addr} {xs : List V} (e : Same H H') (h : SqT K H a xs) : SqT K H' a xs := by
  rcases h with h | h
  · exact .inl (Same.rd e h)
  · exact .inr h
theorem sqL_mono {H H' : Hp} {a : Addr} {xs : List V} (e : Same H H') (h : SqL K H a xs) : SqL K H' a xs := e.seq h
mutual
theorem dp_mono {H H' : Hp} (e : Same H H') : ∀ {d : PyData} {v : V}, Dp K H v d → Dp K H' v d
  | .none, _, h => by cases h; exact .non
  | .bool b, _, h => by cases h; exact .bl b
  | .int i, _, h => by cases h; exact .int i
  | .str x, _, h => by cases h; exact .str x
  | .list ds, _, h => by cases h with | lst a b => exact .lst (sqL_mono e a) (dpAll_mono e b)
  | .tuple ds, _, h => by cases h with | tup a b => exact .tup (sqT_mono e a) (dpAll_mono e b)
  | .dict _, _, h => by cases h
theorem dpAll_mono {H H' : Hp} (e : Same H H') : ∀ {ds : List PyData} {vs : List V}, DpAll K H vs ds → DpAll K H' vs ds
  | [], _, h => by cases h; exact .nil
  | d :: ds, _, h => by cases h with | cons a b => exact .cons (dp_mono e a) (dpAll_mono e b)
end
theorem dpAll_len : ∀ {ds : List PyData} {vs : List V}, DpAll K H vs ds → vs.length = ds.length
  | [], _, h => by cases h; rfl
  | d :: ds, _, h => by cases h with | cons a b => simp [dpAll_len b]
theorem dpAll_get : ∀ {ds : List PyData} {vs : List V} {i : Nat} {d : PyData}, DpAll K H vs ds → ds[i]? = some d → ∃ v, vs[i]? = some v ∧ Dp K H v d
  | [], _, _, _, _, e => by simp at e
  | d :: ds, _, 0, d', h, e => by cases h with | cons a b => simp at e; subst e; exact ⟨_, rfl, a⟩
  | d :: ds, _, i + 1, d', h, e => by
    cases h with
    | cons a b =>
      obtain ⟨v, q, r⟩ := dpAll_get (i := i) b (by simpa using e)
      exact ⟨v, by simpa using q, r⟩
theorem dpAll_get' : ∀ {ds : List PyData} {vs : List V} {i : Nat} {v : V}, DpAll K H vs ds → vs[i]? = some v → ∃ d, ds[i]? = some d ∧ Dp K H v d
  | [], _, _, _, h, e => by cases h; simp at e
  | d :: ds, _, 0, v', h, e => by cases h with | cons a b => simp at e; subst e; exact ⟨_, rfl, a⟩
  | d :: ds, _, i + 1, v', h, e => by
    cases h with
    | cons a b =>
      obtain ⟨v, q, r⟩ := dpAll_get' (i := i) b (by simpa using e)
      exact ⟨v, by simpa using q, r⟩
theorem dpAll_app : ∀ {ds es : List PyData} {vs us : List V}, DpAll K H vs ds → DpAll K H us es → DpAll K H (vs ++ us) (ds ++ es)
  | [], _, _, _, h, g => by cases h; exact g
  | d :: ds, _, _, _, h, g => by cases h with | cons a b => exact .cons a (dpAll_app b g)
theorem dpAll_take : ∀ {ds : List PyData} {vs : List V} (n : Nat), DpAll K H vs ds → DpAll K H (vs.take n) (ds.take n)
  | _, _, 0, _ => by simpa using DpAll.nil
  | [], _, n + 1, h => by cases h; simpa using DpAll.nil
  | d :: ds, _, n + 1, h => by cases h with | cons a b => simpa using DpAll.cons a (dpAll_take n b)
theorem dpAll_drop : ∀ {ds : List PyData} {vs : List V} (n : Nat), DpAll K H vs ds → DpAll K H (vs.drop n) (ds.drop n)
  | _, _, 0, h => by simpa using h
  | [], _, n + 1, h => by cases h; simpa using DpAll.nil
  | d :: ds, _, n + 1, h => by cases h with | cons a b => simpa using dpAll_drop n b
theorem dpAll_set : ∀ {ds : List PyData} {vs : List V} (i : Nat) {v : V} {d : PyData}, DpAll K H vs ds → Dp K H v d → DpAll K H (vs.set i v) (ds.set i d)
  | [], _, i, _, _, h, _ => by cases h; simpa using DpAll.nil
  | d :: ds, _, 0, _, _, h, g => by cases h with | cons a b => simpa using DpAll.cons g b
  | d :: ds, _, i + 1, _, _, h, g => by cases h with | cons a b => simpa using DpAll.cons a (dpAll_set i b g)
theorem dpAll_ints : ∀ (ns : List Int), DpAll K H (ns.map V.int) (ns.map PyData.int)
  | [] => .nil
  | n :: ns => .cons (.int n) (dpAll_ints ns)
theorem dpAll_cut {ds : List PyData} {vs : List V} (h : DpAll K H vs ds) (lo hi : Option Int) :
    DpAll K H (cutV vs lo hi) ((ds.drop (HT.sIx ds.length 0 lo)).take (HT.sIx ds.length ds.length hi - HT.sIx ds.length 0 lo)) := by
  unfold cutV
  rw [dpAll_len h]
  exact dpAll_take _ (dpAll_drop _ h)
theorem dp_list {v : V} {ds : List PyData} (h : Dp K H v (.list ds)) : ∃ a vs, v = .ref a ∧ SqL K H a vs ∧ DpAll K H vs ds := by
  cases h with | lst a b => exact ⟨_, _, rfl, a, b⟩
theorem dp_tup {v : V} {ds : List PyData} (h : Dp K H v (.tuple ds)) : ∃ a vs, v = .ref a ∧ SqT K H a vs ∧ DpAll K H vs ds := by
  cases h with | tup a b => exact ⟨_, _, rfl, a, b⟩
theorem dp_int {v : V} {i : Int} (h : Dp K H v (.int i)) : v = .int i := by cases h; rfl
theorem dp_str {v : V} {i : Str} (h : Dp K H v (.str i)) : v = .str i := by cases h; rfl
theorem dp_non {v : V} (h : Dp K H v .none) : v = .non := by cases h; rfl
end
/-! ### equal data -/
mutual
/-- no bools, no dicts -/
def clean : PyData → Bool
  | .none | .int _ | .str _ => true
  | .bool _ | .dict _ => false
  | .list xs | .tuple xs => cleanAll xs
def cleanAll : List PyData → Bool
  | [] => true
  | x :: xs => clean x && cleanAll xs
end
mutual
theorem eqv_iff : ∀ {d e : PyData}, clean d = true → clean e = true → (PyData.eqv d e = true ↔ d = e)
  | .none, e, _, he => by cases e <;> simp_all [PyData.eqv, clean]
  | .int i, e, _, he => by cases e <;> simp_all [PyData.eqv, clean]
  | .str i, e, _, he => by cases e <;> simp_all [PyData.eqv, clean]
  | .bool i, e, hd, _ => by simp [clean] at hd
  | .dict i, e, hd, _ => by simp [clean] at hd
  | .list xs, e, hd, he => by
    cases e with
    | list ys => rw [PyData.eqv, eqvAll_iff (by simpa [clean] using hd) (by simpa [clean] using he)]; simp
    | _ => simp_all [PyData.eqv, clean]
  | .tuple xs, e, hd, he => by
    cases e with
    | tuple ys => rw [PyData.eqv, eqvAll_iff (by simpa [clean] using hd) (by simpa [clean] using he)]; simp
    | _ => simp_all [PyData.eqv, clean]
theorem eqvAll_iff : ∀ {ds es : List PyData}, cleanAll ds = true → cleanAll es = true → (PyData.eqvAll ds es = true ↔ ds = es)
  | [], [], _, _ => by simp [PyData.eqvAll]
  | [], e :: es, _, _ => by simp [PyData.eqvAll]
  | d :: ds, [], _, _ => by simp [PyData.eqvAll]
  | d :: ds, e :: es, hd, he => by
    have hd' : clean d = true ∧ cleanAll ds = true := by simpa [cleanAll] using hd
    have he' : clean e = true ∧ cleanAll es = true := by simpa [cleanAll] using he
    rw [PyData.eqvAll, Bool.and_eq_true, eqv_iff hd'.1 he'.1, eqvAll_iff hd'.2 he'.2]; simp
end
/-! ### enumerate -/
theorem for_enum {K : PySem.W.Frag} {a : Addr} {xs : List V} {g : TG} {tb : TS} {D : Ends} {σ : St} {H : Hp} (Pv : Nat → St → Hp → Prop) (h0 : Pv 0 σ H) (hl : ∀ i σ H, i ≤ xs.length → Pv i σ H → SqL K H a xs)
    (hs : ∀ i x T σ H, xs[i]? = some x → Pv i σ H → H T = none → g (.ref T) σ (upd H T (.tup [.int ((i : Nat) : Int), x])) fun σ2 H2 => tb { D with nx := Pv (i + 1), ct := Pv (i + 1), bk := D.nx } σ2 H2) (hd : ∀ σ H, Pv xs.length σ H → D.nx σ H) :
    ∃ W : Nat → Nat → St → Hp → Prop, (∃ m, W 0 m σ H) ∧ ∀ i m σ H, W i m σ H →
      ((Ite K a).stop i H ∧ D.nx σ H) ∨ ((Ite K a).go i H ∧ ∃ N : St → Hp → Prop, (∀ σ' H', N σ' H' → ∃ m', m' < m ∧ W (i + 1) m' σ' H') ∧ ∀ x H', (Ite K a).yld i H x H' → g x σ H' fun σ2 H2 => tb { D with nx := N, ct := N, bk := D.nx } σ2 H2) := by
  refine ⟨fun i m σ H => m = xs.length - i ∧ i ≤ xs.length ∧ Pv i σ H, ⟨xs.length, by simp, Nat.zero_le _, h0⟩, ?_⟩
  rintro i m σ H ⟨rfl, hi, p⟩
  have q := hl i σ H hi p
  by_cases hlt : i < xs.length
  · refine .inr ⟨⟨xs, xs[i], q, by simp [hlt]⟩, Pv (i + 1), fun σ' H' p' => ⟨xs.length - (i + 1), by omega, rfl, hlt, p'⟩, fun x H' y => ?_⟩
    obtain ⟨T, x, rfl, hT, rfl, y⟩ := y
    exact hs i x T σ _ (y xs q) p hT
  · have e : i = xs.length := by omega
    subst e
    exact .inl ⟨⟨xs, q, Nat.le_refl _⟩, hd σ H p⟩
theorem shaped_list {ds : List PyData} (h : ∀ d ∈ ds, d.canLay0 = true ∧ d.depth ≤ 60) : PySem.SeqAt.shaped (.list ds) = true := by
  have h1 : ∀ (l : List PyData), (∀ d ∈ l, d.canLay0 = true ∧ d.depth ≤ 60) → PyData.canLayAll0 l = true ∧ PyData.depthAll l ≤ 60 := by
    intro l
    induction l with
    | nil => intro _; exact ⟨by simp [PyData.canLayAll0], by simp [PyData.depthAll]⟩
    | cons d r ih =>
      intro h
      obtain ⟨a, b⟩ := ih fun d m => h d (List.mem_cons_of_mem _ m)
      obtain ⟨c, e⟩ := h d List.mem_cons_self
      exact ⟨by rw [PyData.canLayAll0, c, a]; rfl, by rw [PyData.depthAll]; omega⟩
  obtain ⟨a, b⟩ := h1 ds h
  unfold PySem.SeqAt.shaped
  rw [PyData.canLay0, a, Bool.true_and, decide_eq_true_eq, PyData.depth]
  omega
def EnW (K : PySem.W.Frag) (vs : List V) (H : Hp) (R : It → Hp → Prop) : Prop := ∃ a xs, vs = [.ref a] ∧ SqL K H a xs ∧ R (Ite K a) H
theorem g_iEnum {K : PySem.W.Frag} {σ : St} {H : Hp} {tr : TA} {R : It → Hp → Prop} (q : tr σ H fun vs H1 => EnW K vs H1 R) : iEnum K tr σ H R := q
theorem g_EnW {K : PySem.W.Frag} {H : Hp} {R : It → Hp → Prop} {a : Addr} {xs : List V} (h : SqL K H a xs) (q : R (Ite K a) H) : EnW K [.ref a] H R := ⟨a, xs, rfl, h, q⟩
theorem dpAll_cons {K : PySem.W.Frag} {H : Hp} {us : List V} {d : PyData} {ds : List PyData} (h : DpAll K H us (d :: ds)) : ∃ v vs, us = v :: vs ∧ Dp K H v d ∧ DpAll K H vs ds := by cases h with | cons a b => exact ⟨_, _, rfl, a, b⟩
theorem dpAll_nil {K : PySem.W.Frag} {H : Hp} {us : List V} (h : DpAll K H us []) : us = [] := by cases h; rfl
theorem dpT1 {K : PySem.W.Frag} {H : Hp} {v : V} {d : PyData} (h : Dp K H v (.tuple [d])) : ∃ a x, v = .ref a ∧ SqT K H a [x] ∧ Dp K H x d := by
  obtain ⟨a, us, rfl, hs, hu⟩ := dp_tup h
  obtain ⟨x, us, rfl, hx, hu⟩ := dpAll_cons hu
  obtain rfl := dpAll_nil hu
  exact ⟨a, x, rfl, hs, hx⟩
theorem dpT2 {K : PySem.W.Frag} {H : Hp} {v : V} {d e : PyData} (h : Dp K H v (.tuple [d, e])) : ∃ a x y, v = .ref a ∧ SqT K H a [x, y] ∧ Dp K H x d ∧ Dp K H y e := by
  obtain ⟨a, us, rfl, hs, hu⟩ := dp_tup h
  obtain ⟨x, us, rfl, hx, hu⟩ := dpAll_cons hu
  obtain ⟨y, us, rfl, hy, hu⟩ := dpAll_cons hu
  obtain rfl := dpAll_nil hu
  exact ⟨a, x, y, rfl, hs, hx, hy⟩
theorem dpT3 {K : PySem.W.Frag} {H : Hp} {v : V} {d e f : PyData} (h : Dp K H v (.tuple [d, e, f])) : ∃ a x y z, v = .ref a ∧ SqT K H a [x, y, z] ∧ Dp K H x d ∧ Dp K H y e ∧ Dp K H z f := by
  obtain ⟨a, us, rfl, hs, hu⟩ := dp_tup h
  obtain ⟨x, us, rfl, hx, hu⟩ := dpAll_cons hu
  obtain ⟨y, us, rfl, hy, hu⟩ := dpAll_cons hu
  obtain ⟨z, us, rfl, hz, hu⟩ := dpAll_cons hu
  obtain rfl := dpAll_nil hu
  exact ⟨a, x, y, z, rfl, hs, hx, hy, hz⟩
/-! ### isinstance -/
theorem callIsU {X : Cx} {K : PySem.W.Frag} (hK : X.K = K := by rfl) : CallR X (.builtin "isinstance") (rIsi K) := hK ▸ call_isi
theorem ty_tup {K : PySem.W.Frag} {H : Hp} {a : Addr} {xs : List V} (h : SqT K H a xs) : TyX K H (.ref a) (.type "tuple") := by
  rcases h with (h | ⟨o, h⟩) | ⟨o, its, n, hk, hc, _⟩
  · exact .base (.tup h)
  · exact .fTuple h
  · exact .kTuple hk hc
theorem ty_lst {K : PySem.W.Frag} {H : Hp} {a : Addr} {xs : List V} (h : SqL K H a xs) : TyX K H (.ref a) (.type "list") := by
  rcases h with (h | ⟨o, h⟩) | ⟨o, its, n, hk, hc, _⟩
  · exact .base (.lst h)
  · exact .base (.frz h)
  · exact .kList hk hc
theorem g_isi {K : PySem.W.Frag} {H : Hp} {Q : VK} {x : V} {n : String} {t : Value} {b : Bool} (ty : TyX K H x t) (e : PySem.W.kitOne K t (.type n) = some b) (q : Q (.bl b) H) : rIsi K [x, .ty n] H Q := ⟨x, .ty n, t, _, b, rfl, .ty n, ty, e, q⟩
theorem g_yes {σ : St} {H : Hp} {QB : Bool → Hp → Prop} (q : QB true H) : tYes σ H QB := q
theorem g_listL {K : PySem.W.Frag} {H : Hp} {Q : VK} {p : Addr} {ys : List V} (h : SqL K H p ys) (q : ∀ l, H l = none → Q (.ref l) (upd H l (.lst ys))) : rListU K [.ref p] H Q := ⟨p, ys, rfl, .inl h, q⟩
theorem g_seqIP {w t u : TS} {c : TT} {D : Ends} {σ : St} {H : Hp} (P : St → Hp → Prop) (hw : ∀ σ H, P σ H → w D σ H) (q : (∀ σ H, P σ H → w D σ H) → c σ H fun b H1 => if b = true then t { D with nx := w D } σ H1 else u { D with nx := w D } σ H1) : tSeq (tIfS c t u) w D σ H := q hw
end Sk

namespace Sk
open PySem L2
local macro_rules | `(tactic| fail "ne") => `(tactic| first
  | assumption
  | exact Ne.symm (by assumption)
  | exact Free.ne (by with_reducible assumption) (by fail "hp")
  | exact Ne.symm (Free.ne (by with_reducible assumption) (by fail "hp")))
local macro_rules | `(tactic| fail "rp") => `(tactic| first
  | assumption
  | exact Gr.rr (by assumption) _ _ (by fail "rp"))
local macro_rules | `(tactic| fail "nm") => `(tactic| first
  | exact List.not_mem_nil
  | (rw [List.mem_singleton]; fail "ne")
  | (simp only [List.mem_cons, List.not_mem_nil, not_or, or_false]; (repeat' constructor) <;> fail "ne"))
local macro_rules | `(tactic| fail "hp") => `(tactic| first
  | assumption
  | (with_reducible exact upd_same)
  | ((with_reducible show upd _ _ _ _ = _); refine Eq.trans (upd_ne ?_) ?_; (fail "ne"); (fail "hp"))
  | exact (show Same _ _ by assumption) _ _ (by fail "rp")
  | exact Gr.hh (by assumption) _ _ (by fail "nm") (by fail "hp")
  | exact Gr.hh (Mu.g (by assumption)) _ _ (by fail "nm") (by fail "hp"))
local macro_rules | `(tactic| fail "sr") => `(tactic| first
  | assumption
  | exact SqL.of (by assumption)
  | exact SqT.of (by assumption)
  | exact sqL_mono (Gr.rr (by assumption)) (by fail "sr")
  | exact sqT_mono (Gr.rr (by assumption)) (by fail "sr"))
local macro_rules | `(tactic| fail "sq") => `(tactic| first
  | assumption
  | exact SqL.of (by fail "hp")
  | exact SqT.of (by fail "hp")
  | exact sqL_mono (show Same _ _ by assumption) (by fail "sr")
  | exact sqT_mono (show Same _ _ by assumption) (by fail "sr"))
local macro_rules | `(tactic| fail "dr") => `(tactic| first
  | assumption
  | ((with_reducible show DpAll _ _ _ _); first
    | exact DpAll.nil
    | (refine DpAll.cons ?_ ?_ <;> fail "dr")
    | exact dpAll_mono (Gr.rr (by assumption)) (by fail "dr"))
  | ((with_reducible show Dp _ _ _ _); first
    | exact Dp.non
    | exact Dp.int _
    | exact Dp.str _
    | exact Dp.bl _
    | exact Dp.tup (SqT.of (by fail "rp")) (by fail "dr")
    | exact Dp.lst (SqL.of (by fail "rp")) (by fail "dr")
    | exact dp_mono (Gr.rr (by assumption)) (by fail "dr")))
local macro_rules | `(tactic| fail "dp") => `(tactic| first
  | assumption
  | ((with_reducible show DpAll _ _ _ _); exact dpAll_mono (show Same _ _ by assumption) (by fail "dr"))
  | ((with_reducible show Dp _ _ _ _); first
    | exact Dp.non
    | exact Dp.int _
    | exact Dp.str _
    | exact Dp.bl _
    | exact dp_mono (show Same _ _ by assumption) (by fail "dr")))
local macro_rules | `(tactic| fail "gr") => `(tactic| first
  | assumption
  | exact Gr.nil (by assumption)
  | exact Mu.g (by assumption)
  | exact Gr.nil (Mu.g (by assumption))
  | (refine Gr.trans ?_ (by first | assumption | exact Gr.nil (by assumption) | exact Mu.g (by assumption) | exact Gr.nil (Mu.g (by assumption))); fail "gr")
  | exact Gr.refl (by assumption))
local macro_rules | `(tactic| fail "rn") => `(tactic| first
  | assumption
  | exact Gr.frI (by assumption) (by fail "hp") (by fail "rn"))
local macro_rules | `(tactic| fail "newR") => `(tactic| (
  intro p n; generalize hq : upd _ p _ = H1; have z := newR_ex (by assumption) n hq; obtain ⟨R1, f, g, h, s⟩ := z; clear hq n))
local macro_rules | `(tactic| fail "newM") => `(tactic| (
  intro p n; generalize hq : upd _ p _ = H1; have z := newM_ex (by assumption) n hq; obtain ⟨f, g, m, h, s⟩ := z; clear hq n))
local macro_rules | `(tactic| fail "mut") => `(tactic| (
  generalize hq : upd _ _ _ = H1; have z := mut_ex (by assumption) (by fail "rn") (by fail "hp") hq; obtain ⟨g, h, s⟩ := z; clear hq))
local macro_rules | `(tactic| fail "ar") => `(tactic| first
  | assumption
  | decide
  | omega
  | exact Or.inr ⟨by decide, by decide⟩
  | exact Or.inl ⟨by decide, by decide⟩
  | exact ⟨by decide, by decide, by decide⟩
  | exact ⟨by omega, by omega⟩
  | exact Or.inr ⟨by omega, by omega⟩
  | exact Or.inl ⟨by omega, by omega⟩)
local macro_rules | `(tactic| fail "st") => `(tactic| first
  | (with_reducible refine g_seqA ?_)
  | (with_reducible refine g_seqI ?_)
  | (with_reducible refine g_seqFor ?_)
  | (with_reducible refine g_seqD ?_)
  | (with_reducible refine g_seqS ?_)
  | (with_reducible refine g_seq ?_)
  | (with_reducible refine g_asg ?_)
  | (with_reducible refine g_asgS ?_)
  | (with_reducible refine g_drop ?_)
  | (with_reducible refine g_if ?_)
  | (with_reducible refine g_ret ?_)
  | (with_reducible refine g_retN ?_)
  | (with_reducible refine g_next ?_)
  | (with_reducible refine g_op ?_)
  | (with_reducible refine g_un ?_)
  | (with_reducible refine g_c ?_)
  | ((with_reducible show tVar _ _ _ _); refine g_var rfl ?_)
  | (with_reducible refine g_add ?_)
  | (with_reducible refine g_sub ?_)
  | (with_reducible refine g_neg ?_)
  | (with_reducible refine g_cmp ?_)
  | (with_reducible refine g_eqI ?_)
  | (with_reducible refine g_eqS ?_)
  | (with_reducible refine g_neI ?_)
  | (with_reducible refine g_neS ?_)
  | (with_reducible refine g_isN ?_)
  | (with_reducible refine g_notN ?_)
  | (with_reducible refine g_isB ?_)
  | (with_reducible refine g_notB ?_)
  | ((with_reducible refine g_mul ?_ ?_); (fail "ar"))
  | ((with_reducible refine g_mod ?_ ?_); (fail "ar"))
  | ((with_reducible refine g_div ?_ ?_); (fail "ar"))
  | ((with_reducible refine g_pow ?_ ?_); (fail "ar"))
  | (with_reducible refine g_nil ?_)
  | (with_reducible refine g_cons ?_)
  | (with_reducible refine g_cb ?_)
  | (with_reducible refine g_tup ?_)
  | (with_reducible refine g_lst ?_)
  | (with_reducible refine g_test ?_)
  | (with_reducible refine g_tB ?_)
  | (with_reducible refine g_yes ?_)
  | (with_reducible refine g_truth ?_)
  | (with_reducible refine g_bl ?_)
  | (with_reducible refine g_not ?_)
  | (with_reducible refine g_and ?_)
  | (with_reducible refine g_or ?_)
  | (with_reducible refine g_ife ?_)
  | (with_reducible refine g_int ?_)
  | (with_reducible refine g_intB ?_)
  | (with_reducible refine g_for ?_)
  | (with_reducible refine g_gName ?_)
  | (with_reducible refine g_call ?_)
  | (with_reducible refine g_lc ?_)
  | (with_reducible refine g_iList ?_)
  | (with_reducible refine g_iR1 ?_)
  | (with_reducible refine g_iR2 ?_)
  | (with_reducible refine g_iEnum ?_)
  | (with_reducible refine g_iteT rfl ?_)
  | (with_reducible refine g_iteF rfl ?_)
  | (with_reducible refine g_sl ?_)
  | (with_reducible refine g_part ?_)
  | (with_reducible refine g_partW ?_)
  | (with_reducible refine g_noPart ?_)
  | (with_reducible refine g_fld ?_)
  | (with_reducible refine g_seqF ?_)
  | (with_reducible refine g_sfld ?_)
  | (with_reducible refine g_bm ?_)
  | (with_reducible refine g_bm0 ?_)
  | (with_reducible refine g_meth ?_)
  | (with_reducible refine g_make ?_)
  | ((with_reducible show FldW _ (.ref _) _ _ _); refine g_fldW (by fail "hp") (by assumption) (by assumption) (by rfl) ?_)
  | ((with_reducible show MW _ _ (.ref _) _ _); refine g_MW (by fail "hp") (by rfl) ?_)
  | ((with_reducible show SetW _ (.ref _) _ _ _ _); refine g_setW (by fail "hp") (by assumption) (by assumption) (by (simp only [List.length_cons, List.length_nil]; decide)) ?_; fail "putf"; try fail "mut")
  | ((with_reducible show tyV _ "list" (.ref _) _ ∧ _); refine g_tyL (by fail "hp") ?_)
  | ((with_reducible show rAppend (.ref _) [_] _ _); refine g_app (by fail "hp") (by fail "sz") ?_; try fail "mut")
  | ((with_reducible show rLenU _ [_] _ _); first | refine g_lenL (by fail "sq") ?_ | refine g_lenT (by fail "sq") ?_)
  | ((with_reducible first | show rIx _ _ (.int (@OfNat.ofNat Int _ _)) _ _ | show rIx _ _ (.int (-(@OfNat.ofNat Int _ _))) _ _); first | refine g_ixL (by fail "sq") (by exact rfl) ?_ | refine g_ixT (by fail "sq") (by exact rfl) ?_)
  | ((with_reducible show rSetL _ _ _ _ _); refine g_setL (by fail "hp") (by first | exact rfl | assumption) ?_)
  | (dsimp only))
local macro_rules | `(tactic| fail "go") => `(tactic| repeat (fail "st"))
local macro_rules | `(tactic| fail "st") => `(tactic| (fail "calls"))
local macro_rules | `(tactic| fail "sz") => `(tactic| first
  | assumption
  | decide
  | (refine Nat.le_trans (m := 1000) ?_ (by decide); (first | omega | (simp only [List.length_cons, List.length_nil]; omega) | (simp; omega) | simp))
  | (refine Nat.lt_of_le_of_lt (m := 1000) ?_ (by decide); (first | omega | (simp only [List.length_cons, List.length_nil]; omega) | (simp; omega) | simp)))

def topS (i : Nat) : Stmt := PySem.Challenge.pw_sidekeep_k68_records_are_judged.main.body.getD i (.Pass ⟨0, 0, 0, 0⟩)
abbrev s__law_number : Stmt := (topS 6)
abbrev N__law_number : List Str := ["script", "k", "cell", "first", "second"]
theorem sc__law_number : FnScope N__law_number ["script", "k"] (defScope s__law_number) := ⟨rfl, rfl, rfl, by decide +kernel, rfl, by decide +kernel, by decide +kernel⟩
abbrev s__law_take : Stmt := (topS 7)
abbrev N__law_take : List Str := ["box", "size", "digit"]
theorem sc__law_take : FnScope N__law_take ["box", "size"] (defScope s__law_take) := ⟨rfl, rfl, rfl, by decide +kernel, rfl, by decide +kernel, by decide +kernel⟩
abbrev s__law_state : Stmt := (topS 8)
abbrev N__law_state : List Str := ["box"]
theorem sc__law_state : FnScope N__law_state ["box"] (defScope s__law_state) := ⟨rfl, rfl, rfl, by decide +kernel, rfl, by decide +kernel, by decide +kernel⟩
abbrev s__law_row : Stmt := (topS 9)
abbrev N__law_row : List Str := ["box", "kind"]
theorem sc__law_row : FnScope N__law_row ["box"] (defScope s__law_row) := ⟨rfl, rfl, rfl, by decide +kernel, rfl, by decide +kernel, by decide +kernel⟩
abbrev s_Story___init__ : Stmt := (inClass (topS 3) 0)
abbrev N_Story___init__ : List Str := ["self"]
theorem sc_Story___init__ : FnScope N_Story___init__ ["self"] (defScope s_Story___init__) := ⟨rfl, rfl, rfl, by decide +kernel, rfl, by decide +kernel, by decide +kernel⟩
abbrev s_Story_fault_of_boot : Stmt := (inClass (topS 3) 4)
abbrev N_Story_fault_of_boot : List Str := ["self", "force", "state"]
theorem sc_Story_fault_of_boot : FnScope N_Story_fault_of_boot ["self", "force", "state"] (defScope s_Story_fault_of_boot) := ⟨rfl, rfl, rfl, by decide +kernel, rfl, by decide +kernel, by decide +kernel⟩
abbrev s_Story_begin : Stmt := (inClass (topS 3) 1)
abbrev N_Story_begin : List Str := ["self", "state"]
theorem sc_Story_begin : FnScope N_Story_begin ["self", "state"] (defScope s_Story_begin) := ⟨rfl, rfl, rfl, by decide +kernel, rfl, by decide +kernel, by decide +kernel⟩
abbrev s_Story_change : Stmt := (inClass (topS 3) 2)
abbrev N_Story_change : List Str := ["self", "state"]
theorem sc_Story_change : FnScope N_Story_change ["self", "state"] (defScope s_Story_change) := ⟨rfl, rfl, rfl, by decide +kernel, rfl, by decide +kernel, by decide +kernel⟩
abbrev s_Story_make_sure : Stmt := (inClass (topS 3) 3)
abbrev N_Story_make_sure : List Str := ["self"]
theorem sc_Story_make_sure : FnScope N_Story_make_sure ["self"] (defScope s_Story_make_sure) := ⟨rfl, rfl, rfl, by decide +kernel, rfl, by decide +kernel, by decide +kernel⟩
abbrev s_fault_of_record : Stmt := (topS 4)
abbrev N_fault_of_record : List Str := ["record", "story", "place", "row", "fault"]
theorem sc_fault_of_record : FnScope N_fault_of_record ["record"] (defScope s_fault_of_record) := ⟨rfl, rfl, rfl, by decide +kernel, rfl, by decide +kernel, by decide +kernel⟩
abbrev s__law_let : Stmt := (topS 10)
abbrev N__law_let : List Str := ["record", "place", "k", "boots", "first", "states"]
theorem sc__law_let : FnScope N__law_let ["record", "place"] (defScope s__law_let) := ⟨rfl, rfl, rfl, by decide +kernel, rfl, by decide +kernel, by decide +kernel⟩
abbrev s__law_fault : Stmt := (topS 11)
abbrev N__law_fault : List Str := ["record", "place", "row", "let", "ever", "other"]
theorem sc__law_fault : FnScope N__law_fault ["record"] (defScope s__law_fault) := ⟨rfl, rfl, rfl, by decide +kernel, rfl, by decide +kernel, by decide +kernel⟩
abbrev s_law : Stmt := (topS 12)
abbrev N_law : List Str := ["script", "turn", "box", "record", "given", "told", "k", "row"]
theorem sc_law : FnScope N_law ["script"] (defScope s_law) := ⟨rfl, rfl, rfl, by decide +kernel, rfl, by decide +kernel, by decide +kernel⟩
theorem putI_Story_known {y : V} : putF "known" y ([] : List (Str × V)) = ([(("known" : Str), y)] : List (Str × V)) := by rfl
theorem putU_Story_known {v0 v1 v2 y : V} : putF "known" y ([(("known" : Str), v0), (("sure" : Str), v1), (("ever" : Str), v2)] : List (Str × V)) = ([(("known" : Str), y), (("sure" : Str), v1), (("ever" : Str), v2)] : List (Str × V)) := by rfl
theorem putI_Story_sure {v0 y : V} : putF "sure" y ([(("known" : Str), v0)] : List (Str × V)) = ([(("known" : Str), v0), (("sure" : Str), y)] : List (Str × V)) := by rfl
theorem putU_Story_sure {v0 v1 v2 y : V} : putF "sure" y ([(("known" : Str), v0), (("sure" : Str), v1), (("ever" : Str), v2)] : List (Str × V)) = ([(("known" : Str), v0), (("sure" : Str), y), (("ever" : Str), v2)] : List (Str × V)) := by rfl
theorem putI_Story_ever {v0 v1 y : V} : putF "ever" y ([(("known" : Str), v0), (("sure" : Str), v1)] : List (Str × V)) = ([(("known" : Str), v0), (("sure" : Str), v1), (("ever" : Str), y)] : List (Str × V)) := by rfl
theorem putU_Story_ever {v0 v1 v2 y : V} : putF "ever" y ([(("known" : Str), v0), (("sure" : Str), v1), (("ever" : Str), v2)] : List (Str × V)) = ([(("known" : Str), v0), (("sure" : Str), v1), (("ever" : Str), y)] : List (Str × V)) := by rfl
local macro_rules | `(tactic| fail "putf") => `(tactic| first
  | rw [putI_Story_known]
  | rw [putU_Story_known]
  | rw [putI_Story_sure]
  | rw [putU_Story_sure]
  | rw [putI_Story_ever]
  | rw [putU_Story_ever]
  | skip)
structure Txt (K : PySem.W.Frag) (mg : Str → Option Value) where
  C_Story : Addr
  f__law_number : Addr
  fd__law_number : FuncData
  F__law_number : Fun K "_law_number" "_law_number" s__law_number f__law_number fd__law_number
  b__law_number : Binds K fd__law_number ["script", "k"] []
  g__law_number : mg "_law_number" = some (.ref f__law_number)
  f__law_take : Addr
  fd__law_take : FuncData
  F__law_take : Fun K "_law_take" "_law_take" s__law_take f__law_take fd__law_take
  b__law_take : Binds K fd__law_take ["box", "size"] []
  g__law_take : mg "_law_take" = some (.ref f__law_take)
  f__law_state : Addr
  fd__law_state : FuncData
  F__law_state : Fun K "_law_state" "_law_state" s__law_state f__law_state fd__law_state
  b__law_state : Binds K fd__law_state ["box"] []
  g__law_state : mg "_law_state" = some (.ref f__law_state)
  f__law_row : Addr
  fd__law_row : FuncData
  F__law_row : Fun K "_law_row" "_law_row" s__law_row f__law_row fd__law_row
  b__law_row : Binds K fd__law_row ["box"] []
  g__law_row : mg "_law_row" = some (.ref f__law_row)
  f_Story___init__ : Addr
  fd_Story___init__ : FuncData
  F_Story___init__ : Fun K "__init__" "Story.__init__" s_Story___init__ f_Story___init__ fd_Story___init__
  b_Story___init__ : Binds K fd_Story___init__ ["self"] []
  mk_Story : Mk K C_Story f_Story___init__
  f_Story_fault_of_boot : Addr
  fd_Story_fault_of_boot : FuncData
  F_Story_fault_of_boot : Fun K "fault_of_boot" "Story.fault_of_boot" s_Story_fault_of_boot f_Story_fault_of_boot fd_Story_fault_of_boot
  b_Story_fault_of_boot : Binds K fd_Story_fault_of_boot ["self", "force", "state"] []
  m_Story_fault_of_boot : Meth K C_Story "fault_of_boot" f_Story_fault_of_boot
  f_Story_begin : Addr
  fd_Story_begin : FuncData
  F_Story_begin : Fun K "begin" "Story.begin" s_Story_begin f_Story_begin fd_Story_begin
  b_Story_begin : Binds K fd_Story_begin ["self", "state"] []
  m_Story_begin : Meth K C_Story "begin" f_Story_begin
  f_Story_change : Addr
  fd_Story_change : FuncData
  F_Story_change : Fun K "change" "Story.change" s_Story_change f_Story_change fd_Story_change
  b_Story_change : Binds K fd_Story_change ["self", "state"] []
  m_Story_change : Meth K C_Story "change" f_Story_change
  f_Story_make_sure : Addr
  fd_Story_make_sure : FuncData
  F_Story_make_sure : Fun K "make_sure" "Story.make_sure" s_Story_make_sure f_Story_make_sure fd_Story_make_sure
  b_Story_make_sure : Binds K fd_Story_make_sure ["self"] []
  m_Story_make_sure : Meth K C_Story "make_sure" f_Story_make_sure
  f_fault_of_record : Addr
  fd_fault_of_record : FuncData
  F_fault_of_record : Fun K "fault_of_record" "fault_of_record" s_fault_of_record f_fault_of_record fd_fault_of_record
  b_fault_of_record : Binds K fd_fault_of_record ["record"] []
  g_fault_of_record : mg "fault_of_record" = some (.ref f_fault_of_record)
  f__law_let : Addr
  fd__law_let : FuncData
  F__law_let : Fun K "_law_let" "_law_let" s__law_let f__law_let fd__law_let
  b__law_let : Binds K fd__law_let ["record", "place"] []
  g__law_let : mg "_law_let" = some (.ref f__law_let)
  f__law_fault : Addr
  fd__law_fault : FuncData
  F__law_fault : Fun K "_law_fault" "_law_fault" s__law_fault f__law_fault fd__law_fault
  b__law_fault : Binds K fd__law_fault ["record"] []
  g__law_fault : mg "_law_fault" = some (.ref f__law_fault)
  f_law : Addr
  fd_law : FuncData
  F_law : Fun K "law" "law" s_law f_law fd_law
  b_law : Binds K fd_law ["script"] []
  g_law : mg "law" = some (.ref f_law)
  cl_Story : Cls K C_Story
  g_Story : mg "Story" = some (.ref C_Story)
  a_Story_known : NoAttr K C_Story "known"
  a_Story_sure : NoAttr K C_Story "sure"
  a_Story_ever : NoAttr K C_Story "ever"
  n_len : mg "len" = none
  n_int : mg "int" = none
  n_enumerate : mg "enumerate" = none
  n_range : mg "range" = none
  n_list : mg "list" = none
  n_isinstance : mg "isinstance" = none
  n_tuple : mg "tuple" = none
  u_BOOT : Value
  g_BOOT : mg "BOOT" = some u_BOOT
  r_BOOT : RelV (.str "boot") u_BOOT
  u_CHANGE : Value
  g_CHANGE : mg "CHANGE" = some u_CHANGE
  r_CHANGE : RelV (.str "change") u_CHANGE
def lawCell0 (ns : List Int) (k : Int) : Int := if (0 : Int) < (ns.length : Int) then ns.getD (k % (ns.length : Int)).toNat 0 else 0
def lawCell (ns : List Int) (k : Int) : Int := if lawCell0 ns k < 0 then 1 - 2 * lawCell0 ns k else lawCell0 ns k
def lawMix1 (c k : Int) : Int := ((c + 7) * 48271 + (k + 3) * 69621) % 2147483647
def lawMix2 (c k : Int) : Int := ((lawMix1 c k + 11) * 16807 + (c + 1) * 40692 + k) % 2147483399
def lawMix (c k : Int) : Int := (lawMix1 c k * 2147483399 + lawMix2 c k * 31 + c) % 4611686014132420609
def lawNumber (ns : List Int) (k : Int) : Int := if 1000000000 ≤ lawCell ns k ∧ k < (ns.length : Int) then lawCell ns k else lawMix (lawCell ns k) k
def spNum (K : PySem.W.Frag) : Sp := fun vs H Q _ => ∃ (a : Addr) (ns : List Int) (k : Int), vs = [.ref a, .int k] ∧ SqL K H a (ns.map V.int) ∧ 0 ≤ k ∧ Q (.int (lawNumber ns k)) H
theorem atI_mod {ns : List Int} {k : Int} (h : (0 : Int) < (ns.length : Int)) : atI (ns.map V.int) (k % (ns.length : Int)) = some (.int (ns.getD (k % (ns.length : Int)).toNat 0)) := by
  have h1 := Int.emod_nonneg k (b := (ns.length : Int)) (by omega)
  have h2 := Int.emod_lt_of_pos k h
  obtain ⟨j, hj⟩ := Int.eq_ofNat_of_zero_le h1
  rw [hj]
  have hl : j < ns.length := by omega
  refine atI_nat ?_
  simp [hl, List.getD_eq_getElem?_getD]
theorem len_map {ns : List Int} : ((List.map V.int ns).length : Int) = (ns.length : Int) := by simp
section
variable {P : Program} {w : World} {K : PySem.W.Frag} {mg : Str → Option Value} {base : Heap}
theorem ok__law_number (T : Txt K mg) : FnOk P w K mg base CX0 1 T.f__law_number T.fd__law_number ["script", "k"] (spNum K) := by
  refine T.F__law_number.ok sc__law_number (fun vs H Q E h => ?_) (fun cdv A outer s H vs Q E hr h => ?_)
  · obtain ⟨a, ns, k, rfl, hS, k0, hq⟩ := h
    rfl
  · obtain ⟨a, ns, k, rfl, hS, k0, hq⟩ := h
    refine ⟨_, (pss_cons (ps_set (i := 2) sc__law_number.nd rfl (by first | exact Or.inl rfl | exact Or.inr rfl) pe_int)
      (pss_cons (ps_if (pt_cmpR op_gt (pe_callB (callLenU (K := K)) (by rfl) T.n_len (by decide +kernel) (pa_cons (pv 0) pa_nil)) pe_int (nomark _)) (pss_one (ps_set (i := 2) sc__law_number.nd rfl (by first | exact Or.inl rfl | exact Or.inr rfl) (pe_ix (ixU (K := K)) (pv 0) (pe_op opModU (pe_callTy callIntU (by rfl) T.n_int (by decide +kernel) (pa_cons (pv 1) pa_nil)) (pe_callB (callLenU (K := K)) (by rfl) T.n_len (by decide +kernel) (pa_cons (pv 0) pa_nil))) (fun _ _ => rfl)))) pss_nil)
      (pss_cons (ps_if (pt_cmpR op_lt (pv 2) pe_int (nomark _)) (pss_one (ps_set (i := 2) sc__law_number.nd rfl (by first | exact Or.inl rfl | exact Or.inr rfl) (pe_op opSubU pe_int (pe_op opMultU pe_int (pv 2))))) pss_nil)
      (pss_cons (ps_if (PW.pt (pw_and (pt_cmpR op_ge (pv 2) (pe_op opPowU pe_int pe_int) (nomark _)) (pw_and1 (pt_cmpR op_lt (pv 1) (pe_callB (callLenU (K := K)) (by rfl) T.n_len (by decide +kernel) (pa_cons (pv 0) pa_nil)) (nomark _))))) (pss_one (ps_ret (pv 2))) pss_nil)
      (pss_cons (ps_set (i := 3) sc__law_number.nd rfl (by first | exact Or.inl rfl | exact Or.inr rfl) (pe_op opModU (pe_callTy callIntU (by rfl) T.n_int (by decide +kernel) (pa_cons (pe_op (opAddU (K := K)) (pe_op opMultU (pe_op (opAddU (K := K)) (pv 2) pe_int) pe_int) (pe_op opMultU (pe_op (opAddU (K := K)) (pv 1) pe_int) pe_int)) pa_nil)) pe_int))
      (pss_cons (ps_set (i := 4) sc__law_number.nd rfl (by first | exact Or.inl rfl | exact Or.inr rfl) (pe_op opModU (pe_callTy callIntU (by rfl) T.n_int (by decide +kernel) (pa_cons (pe_op (opAddU (K := K)) (pe_op (opAddU (K := K)) (pe_op opMultU (pe_op (opAddU (K := K)) (pv 3) pe_int) pe_int) (pe_op opMultU (pe_op (opAddU (K := K)) (pv 2) pe_int) pe_int)) (pv 1)) pa_nil)) pe_int))
      (pss_one (ps_ret (pe_op opModU (pe_callTy callIntU (by rfl) T.n_int (by decide +kernel) (pa_cons (pe_op (opAddU (K := K)) (pe_op (opAddU (K := K)) (pe_op opMultU (pv 3) pe_int) (pe_op opMultU (pv 4) pe_int)) (pv 2)) pa_nil)) pe_int))))))))), ?_⟩
    try dsimp only [cxOf]
    fail "go"
    rw [len_map]
    refine g_joinI (fun x => x = .int (lawCell0 ns k)) rfl (fun h Q' q' => ?_) (fun h => ?_) (fun x hx => ?_)
    · fail "go"
      rw [len_map]
      fail "go"
      refine g_ixL hS (atI_mod h) (q' _ ?_)
      rw [lawCell0, if_pos h]
    · rw [lawCell0, if_neg h]
    subst hx
    fail "go"
    refine g_joinI (fun x => x = .int (lawCell ns k)) rfl (fun h Q' q' => ?_) (fun h => ?_) (fun x hx => ?_)
    · fail "go"
      refine q' _ ?_
      rw [lawCell, if_pos h]
    · rw [lawCell, if_neg h]
    subst hx
    fail "go"
    have e9 : (10 : Int) ^ Int.toNat 9 = 1000000000 := by decide
    rw [e9]
    refine g_ite (fun h1 => ?_) (fun h1 => ?_)
    · fail "go"
      rw [len_map]
      refine g_ite (fun h2 => ?_) (fun h2 => ?_)
      · fail "go"
        rw [lawNumber, if_pos ⟨h1, h2⟩] at hq
        exact hq
      · fail "go"
        rw [lawNumber, if_neg (fun z => h2 z.2)] at hq
        exact hq
    · fail "go"
      rw [lawNumber, if_neg (fun z => h1 z.1)] at hq
      exact hq
end
def spTake : Sp := fun vs H Q _ => ∃ (b : Addr) (n z : Int), vs = [.ref b, .int z] ∧ H b = some (.lst [.int n]) ∧ 0 < z ∧ z < 1073741824 ∧ Q (.int (n % z)) (upd H b (.lst [.int (n / z)]))
section
variable {P : Program} {w : World} {K : PySem.W.Frag} {mg : Str → Option Value} {base : Heap}
theorem ok__law_take (T : Txt K mg) : FnOk P w K mg base CX0 1 T.f__law_take T.fd__law_take ["box", "size"] (spTake) := by
  refine T.F__law_take.ok sc__law_take (fun vs H Q E h => ?_) (fun cdv A outer s H vs Q E hr h => ?_)
  · obtain ⟨b, n, z, rfl, hb, z0, z1, hq⟩ := h
    rfl
  · obtain ⟨b, n, z, rfl, hb, z0, z1, hq⟩ := h
    refine ⟨_, (pss_cons (ps_set (i := 2) sc__law_take.nd rfl (by first | exact Or.inl rfl | exact Or.inr rfl) (pe_op opModU (pe_callTy callIntU (by rfl) T.n_int (by decide +kernel) (pa_cons (pe_ix (ixU (K := K)) (pv 0) pe_int (fun _ _ => rfl)) pa_nil)) (pv 1)))
      (pss_cons (ps_asg (pe_op opFloorDivU (pe_ix (ixU (K := K)) (pv 0) pe_int (fun _ _ => rfl)) (pv 1)) (pg_sub (pv 0) pe_int set_list))
      (pss_one (ps_ret (pv 2))))), ?_⟩
    try dsimp only [cxOf]
    fail "go"
    exact hq
end
def rowD : PyData := .tuple [.str "", .int 1, .str "directory", .int 1, .int 0, .int 0, .none]
/-- a state: one row or two, no snapshot or one -/
def stD (a b : Bool) : PyData := .tuple [.list (List.replicate (if a then 2 else 1) rowD), .list (if b then [.str "one"] else [])]
local macro_rules | `(tactic| fail "calls") => `(tactic| ((with_reducible show spTake _ _ _ _); refine ⟨_, _, _, rfl, by fail "hp", by fail "ar", by fail "ar", ?_⟩))
def spState (K : PySem.W.Frag) : Sp := fun vs H Q _ => ∃ (R : Hp) (b : Addr) (n : Int), vs = [.ref b] ∧ Same R H ∧ R b = none ∧ H b = some (.lst [.int n]) ∧
  ∀ v R' H', Gr [b] R H R' H' → H' b = some (.lst [.int (n / 2 / 2)]) → Dp K R' v (stD (decide (n % 2 = 1)) (decide (n / 2 % 2 = 1))) → Q v H'
section
variable {P : Program} {w : World} {K : PySem.W.Frag} {mg : Str → Option Value} {base : Heap}
theorem ok__law_state (T : Txt K mg) : FnOk P w K mg base CX0 2 T.f__law_state T.fd__law_state ["box"] (spState K) := by
  have G__law_take := ok__law_take (P := P) (w := w) (base := base) T
  refine T.F__law_state.ok sc__law_state (fun vs H Q E h => ?_) (fun cdv A outer s H vs Q E hr h => ?_)
  · obtain ⟨R, b, n, rfl, hRH, hRb, hb, hq⟩ := h
    rfl
  · obtain ⟨R, b, n, rfl, hRH, hRb, hb, hq⟩ := h
    refine ⟨_, (pss_one (ps_ret (pe_tup (pa_cons (pe_op opMultU (pe_lst (pa_cons (pe_tup (pa_cons pe_str (pa_cons pe_int (pa_cons pe_str (pa_cons pe_int (pa_cons pe_int (pa_cons pe_int (pa_cons pe_non pa_nil)))))))) pa_nil)) (pe_op (opAddU (K := K)) pe_int (pe_call G__law_take (hr.mono (by decide)) rfl T.g__law_take T.F__law_take.kp T.b__law_take .nil pass0 (pa_cons (pv 0) (pa_cons pe_int pa_nil))))) (pa_cons (pe_ix (ixU (K := K)) (pe_lst (pa_cons (pe_lst pa_nil) (pa_cons (pe_lst (pa_cons pe_str pa_nil)) pa_nil))) (pe_call G__law_take (hr.mono (by decide)) rfl T.g__law_take T.F__law_take.kp T.b__law_take .nil pass0 (pa_cons (pv 0) (pa_cons pe_int pa_nil))) (fun _ _ => rfl)) pa_nil))))), ?_⟩
    try dsimp only [cxOf]
    fail "go"
    refine ⟨by fail "sz", ?_⟩
    fail "newR"
    rename_i p1 H1 R1 n1 g1 h1 s1
    fail "go"
    refine ⟨by fail "sz", ?_⟩
    fail "newR"
    rename_i p2 H2 R2 n2 g2 h2 s2
    fail "go"
    fail "mut"
    rename_i H3 g3 h3 s3
    have b1 := Int.emod_nonneg n (b := 2) (by decide)
    have b2 := Int.emod_lt_of_pos n (b := 2) (by decide)
    refine ⟨p2, _, [V.ref p1], rfl, rfl, by fail "hp", by omega, by omega, ?_, ?_⟩
    · have : (1 + n % 2).toNat ≤ 2 := by omega
      have e : sizeLine = 16777216 := sizeLine_eq
      rw [e]; simp; omega
    fail "newR"
    rename_i p4 H4 R4 n4 g4 h4 s4
    fail "go"
    refine ⟨by fail "sz", ?_⟩
    fail "newR"
    rename_i p5 H5 R5 n5 g5 h5 s5
    fail "go"
    refine ⟨by fail "sz", ?_⟩
    fail "newR"
    rename_i p6 H6 R6 n6 g6 h6 s6
    fail "go"
    refine ⟨by fail "sz", ?_⟩
    fail "newR"
    rename_i p7 H7 R7 n7 g7 h7 s7
    fail "go"
    fail "mut"
    rename_i H8 g8 h8 s8
    have c1 := Int.emod_nonneg (n / 2) (b := 2) (by decide)
    have c2 := Int.emod_lt_of_pos (n / 2) (b := 2) (by decide)
    have at7 : atI [V.ref p5, V.ref p6] (n / 2 % 2) = some (if n / 2 % 2 = 1 then V.ref p6 else V.ref p5) := by
      rcases (show n / 2 % 2 = 0 ∨ n / 2 % 2 = 1 by omega) with e | e <;> rw [e] <;> rfl
    refine g_ixL (by fail "sq") at7 ?_
    fail "go"
    refine ⟨by fail "sz", ?_⟩
    fail "newR"
    rename_i p9 H9 R9 n9 g9 h9 s9
    refine hq _ _ _ (by fail "gr") (by fail "hp") ?_
    have d1 : Dp K R9 (.ref p1) rowD := by fail "dr"
    have dl : Dp K R9 (.ref p4) (.list (List.replicate (if decide (n % 2 = 1) = true then 2 else 1) rowD)) := by
      refine Dp.lst (SqL.of (by fail "rp")) ?_
      rcases (show n % 2 = 0 ∨ n % 2 = 1 by omega) with e | e <;> rw [e]
      · exact .cons d1 .nil
      · exact .cons d1 (.cons d1 .nil)
    refine Dp.tup (SqT.of (by fail "rp")) (.cons dl (.cons ?_ .nil))
    by_cases e : n / 2 % 2 = 1
    · rw [if_pos e, if_pos (decide_eq_true e)]
      refine Dp.lst (SqL.of (by fail "rp")) ?_
      fail "dr"
    · rw [if_neg e, if_neg (by simp [e])]
      refine Dp.lst (SqL.of (by fail "rp")) ?_
      fail "dr"
end
inductive Row where
  | boot (f : Bool) (a b : Bool) | change (a b : Bool) | sure
  deriving DecidableEq
def Row.d : Row → PyData
  | .boot f a b => .tuple [.str "boot", .int (if f then 1 else 0), stD a b]
  | .change a b => .tuple [.str "change", stD a b]
  | .sure => .tuple [.str "sure"]
local macro_rules | `(tactic| fail "calls") => `(tactic| ((with_reducible show spState _ _ _ _ _); refine ⟨_, _, _, rfl, by assumption, by fail "rn", by fail "hp", ?_⟩))
def spRow (K : PySem.W.Frag) : Sp := fun vs H Q _ => ∃ (R : Hp) (b : Addr) (n : Int), vs = [.ref b] ∧ Same R H ∧ R b = none ∧ H b = some (.lst [.int n]) ∧
  ∀ (r : Row) v R' H', Gr [b] R H R' H' → (∃ n', H' b = some (.lst [.int n'])) → Dp K R' v r.d → Q v H'
section
variable {P : Program} {w : World} {K : PySem.W.Frag} {mg : Str → Option Value} {base : Heap}
theorem ok__law_row (T : Txt K mg) : FnOk P w K mg base CX0 3 T.f__law_row T.fd__law_row ["box"] (spRow K) := by
  have G__law_take := ok__law_take (P := P) (w := w) (base := base) T
  have G__law_state := ok__law_state (P := P) (w := w) (base := base) T
  refine T.F__law_row.ok sc__law_row (fun vs H Q E h => ?_) (fun cdv A outer s H vs Q E hr h => ?_)
  · obtain ⟨R, b, n, rfl, hRH, hRb, hb, hq⟩ := h
    rfl
  · obtain ⟨R, b, n, rfl, hRH, hRb, hb, hq⟩ := h
    refine ⟨_, (pss_cons (ps_set (i := 1) sc__law_row.nd rfl (by first | exact Or.inl rfl | exact Or.inr rfl) (pe_call G__law_take (hr.mono (by decide)) rfl T.g__law_take T.F__law_take.kp T.b__law_take .nil pass0 (pa_cons (pv 0) (pa_cons pe_int pa_nil))))
      (pss_cons (ps_if (pt_cmpR op_lt (pv 1) pe_int (nomark _)) (pss_one (ps_ret (pe_tup (pa_cons pe_str (pa_cons (pe_callTy callIntU (by rfl) T.n_int (by decide +kernel) (pa_cons (pe_cmpR (opEqU (K := K) hr.units) (pe_call G__law_take (hr.mono (by decide)) rfl T.g__law_take T.F__law_take.kp T.b__law_take .nil pass0 (pa_cons (pv 0) (pa_cons pe_int pa_nil))) pe_int (nomark _)) pa_nil)) (pa_cons (pe_call G__law_state (hr.mono (by decide)) rfl T.g__law_state T.F__law_state.kp T.b__law_state .nil pass0 (pa_cons (pv 0) pa_nil)) pa_nil)))))) pss_nil)
      (pss_cons (ps_if (pt_cmpR op_lt (pv 1) pe_int (nomark _)) (pss_one (ps_ret (pe_tup (pa_cons pe_str (pa_cons (pe_call G__law_state (hr.mono (by decide)) rfl T.g__law_state T.F__law_state.kp T.b__law_state .nil pass0 (pa_cons (pv 0) pa_nil)) pa_nil))))) pss_nil)
      (pss_one (ps_ret (pe_tup (pa_cons pe_str pa_nil))))))), ?_⟩
    try dsimp only [cxOf]
    fail "go"
    fail "mut"
    rename_i H1 g1 h1 s1
    refine g_ite (fun e1 => ?_) (fun e1 => ?_)
    · fail "go"
      fail "mut"
      rename_i H2 g2 h2 s2
      fail "go"
      intro v R3 H3 g3 h3 d3
      have s3 := g3.rh
      fail "go"
      refine ⟨by fail "sz", ?_⟩
      fail "newR"
      rename_i p4 H4 R4 n4 g4 h4 s4
      fail "go"
      refine hq (.boot (decide (n / 9 % 4 = 0)) (decide (n / 9 / 4 % 2 = 1)) (decide (n / 9 / 4 / 2 % 2 = 1))) _ _ _ (by fail "gr") ⟨_, by fail "hp"⟩ ?_
      unfold Row.d
      fail "dr"
    · fail "go"
      refine g_ite (fun e2 => ?_) (fun e2 => ?_)
      · fail "go"
        intro v R3 H3 g3 h3 d3
        have s3 := g3.rh
        fail "go"
        refine ⟨by fail "sz", ?_⟩
        fail "newR"
        rename_i p4 H4 R4 n4 g4 h4 s4
        refine hq (.change (decide (n / 9 % 2 = 1)) (decide (n / 9 / 2 % 2 = 1))) _ _ _ (by fail "gr") ⟨_, by fail "hp"⟩ ?_
        unfold Row.d
        fail "dr"
      · fail "go"
        refine ⟨by fail "sz", ?_⟩
        fail "newR"
        rename_i p4 H4 R4 n4 g4 h4 s4
        refine hq .sure _ _ _ (by fail "gr") ⟨_, by fail "hp"⟩ ?_
        unfold Row.d
        fail "dr"
end
def sd (s : Bool × Bool) : PyData := stD s.1 s.2
/-- a story stands at p (R: what stood before, and stays) -/
def StAt (K : PySem.W.Frag) (C : Addr) (R H : Hp) (p : Addr) (kn : List (Bool × Bool)) (su : Int) (ev : List (Bool × Bool)) : Prop :=
  Same R H ∧ R p = none ∧ ∃ (dx l1 l2 : Addr) (vs1 vs2 : List V), R l1 = none ∧ R l2 = none ∧ l1 ≠ l2 ∧
    H p = some (.ins C dx [(("known" : Str), .ref l1), (("sure" : Str), .int su), (("ever" : Str), .ref l2)]) ∧ H l1 = some (.lst vs1) ∧ H l2 = some (.lst vs2) ∧ DpAll K R vs1 (kn.map sd) ∧ DpAll K R vs2 (ev.map sd)
theorem StAt.mono {K : PySem.W.Frag} {C : Addr} {R H H' : Hp} {p : Addr} {kn ev : List (Bool × Bool)} {su : Int} (h : StAt K C R H p kn su ev) (s : Same H H') : StAt K C R H' p kn su ev := by
  obtain ⟨sR, Rp, dx, l1, l2, vs1, vs2, R1, R2, ne, hp, h1, h2, d1, d2⟩ := h
  exact ⟨sR.trans s, Rp, dx, l1, l2, vs1, vs2, R1, R2, ne, s _ _ hp, s _ _ h1, s _ _ h2, d1, d2⟩
def spInit (K : PySem.W.Frag) (C : Addr) : Sp := fun vs H Q _ => ∃ (R : Hp) (p dx : Addr), vs = [.ref p] ∧ Same R H ∧ R p = none ∧ H p = some (.ins C dx []) ∧ ∀ H', StAt K C R H' p [] 0 [] → Q .non H'
section
variable {P : Program} {w : World} {K : PySem.W.Frag} {mg : Str → Option Value} {base : Heap}
theorem ok_Story___init__ (T : Txt K mg) : FnOk P w K mg base CX0 1 T.f_Story___init__ T.fd_Story___init__ ["self"] (spInit K T.C_Story) := by
  have cl_Story := T.cl_Story
  have a_Story_known := T.a_Story_known
  have a_Story_sure := T.a_Story_sure
  have a_Story_ever := T.a_Story_ever
  refine T.F_Story___init__.ok sc_Story___init__ (fun vs H Q E h => ?_) (fun cdv A outer s H vs Q E hr h => ?_)
  · obtain ⟨R, p, dx, rfl, sR, Rp, hp, hq⟩ := h
    rfl
  · obtain ⟨R, p, dx, rfl, sR, Rp, hp, hq⟩ := h
    refine ⟨_, (pss_cons (ps_fld (pv 0) (pe_lst pa_nil) rfl)
      (pss_cons (ps_fld (pv 0) pe_int rfl)
      (pss_one (ps_fld (pv 0) (pe_lst pa_nil) rfl)))), ?_⟩
    try dsimp only [cxOf]
    fail "go"
    refine ⟨by fail "sz", ?_⟩
    fail "newM"
    rename_i l1 H1 n1 g1 m1 h1 s1
    fail "go"
    refine ⟨by fail "sz", ?_⟩
    fail "newM"
    rename_i l2 H4 n4 g4 m4 h4 s4
    fail "go"
    rename_i H5 g5 h5 s5
    refine hq _ ⟨s5, Rp, dx, l1, l2, [], [], m1, m4, by fail "ne", h5, by fail "hp", by fail "hp", .nil, .nil⟩
end
def bootFault (kn : List (Bool × Bool)) (su : Nat) (ev : List (Bool × Bool)) (f : Bool) (s : Bool × Bool) : Option Str :=
  if kn.length = 0 ∨ s ∈ kn.drop su then none else if s ∉ ev then some "strange" else if f then none else some "lost"
def optS : Option Str → V
  | none => .non
  | some x => .str x
theorem sd_clean (s : Bool × Bool) : clean (sd s) = true := by obtain ⟨a, b⟩ := s; cases a <;> cases b <;> decide +kernel
theorem sd_inj (s t : Bool × Bool) : sd s = sd t ↔ s = t := by
  obtain ⟨a, b⟩ := s; obtain ⟨c, d⟩ := t
  constructor
  · cases a <;> cases b <;> cases c <;> cases d <;> first | (intro _; rfl) | (intro h; exact absurd h (by simp [sd, stD]))
  · intro h; rw [h]
theorem sd_lay (s : Bool × Bool) : (sd s).canLay0 = true ∧ (sd s).depth ≤ 60 := by obtain ⟨a, b⟩ := s; cases a <;> cases b <;> decide +kernel
theorem sd_shaped (s : Bool × Bool) : PySem.SeqAt.shaped (sd s) = true := by obtain ⟨a, b⟩ := s; cases a <;> cases b <;> decide +kernel
theorem sds_shaped (l : List (Bool × Bool)) : PySem.SeqAt.shaped (.list (l.map sd)) = true := shaped_list fun d m => by
  obtain ⟨s, _, rfl⟩ := List.mem_map.mp m
  exact sd_lay s
theorem any_sd (l : List (Bool × Bool)) (s : Bool × Bool) : ((l.map sd).any fun z => PyData.eqv z (sd s)) = decide (s ∈ l) := by
  rw [Bool.eq_iff_iff, List.any_eq_true, decide_eq_true_eq]
  constructor
  · rintro ⟨z, hz, e⟩
    obtain ⟨t, ht, rfl⟩ := List.mem_map.mp hz
    rw [eqv_iff (sd_clean t) (sd_clean s), sd_inj] at e
    exact e ▸ ht
  · intro h
    exact ⟨sd s, List.mem_map.mpr ⟨s, h, rfl⟩, (eqv_iff (sd_clean s) (sd_clean s)).mpr rfl⟩
theorem g_in {K : PySem.W.Frag} {H : Hp} {v : V} {p : Addr} {vs : List V} {Q : VK} {l : List (Bool × Bool)} {s : Bool × Bool} (hv : Dp K H v (sd s)) (hp : SqL K H p vs) (hl : DpAll K H vs (l.map sd)) (q : Q (.bl (decide (s ∈ l))) H) : rInD K v (.ref p) H Q :=
  ⟨_, _, hv, .lst hp hl, sd_shaped s, sds_shaped l, by rw [any_sd]; exact q⟩
theorem g_nin {K : PySem.W.Frag} {H : Hp} {v : V} {p : Addr} {vs : List V} {Q : VK} {l : List (Bool × Bool)} {s : Bool × Bool} (hv : Dp K H v (sd s)) (hp : SqL K H p vs) (hl : DpAll K H vs (l.map sd)) (q : Q (.bl (!decide (s ∈ l))) H) : rNotInD K v (.ref p) H Q :=
  ⟨_, _, hv, .lst hp hl, sd_shaped s, sds_shaped l, by rw [any_sd]; exact q⟩
def spBoot (K : PySem.W.Frag) (C : Addr) : Sp := fun vs H Q _ => ∃ (R : Hp) (p : Addr) (v : V) (f : Bool) (s : Bool × Bool) (kn : List (Bool × Bool)) (su : Nat) (ev : List (Bool × Bool)), vs = [.ref p, .int (if f then 1 else 0), v] ∧ StAt K C R H p kn su ev ∧ Dp K R v (sd s) ∧ su ≤ kn.length ∧ kn.length ≤ 100 ∧ ev.length ≤ 100 ∧
  ∀ H', StAt K C R H' p kn su ev → Same H H' → Q (optS (bootFault kn su ev f s)) H'
section
variable {P : Program} {w : World} {K : PySem.W.Frag} {mg : Str → Option Value} {base : Heap}
theorem ok_Story_fault_of_boot (T : Txt K mg) : FnOk P w K mg base CX0 1 T.f_Story_fault_of_boot T.fd_Story_fault_of_boot ["self", "force", "state"] (spBoot K T.C_Story) := by
  have cl_Story := T.cl_Story
  have a_Story_known := T.a_Story_known
  have a_Story_sure := T.a_Story_sure
  have a_Story_ever := T.a_Story_ever
  refine T.F_Story_fault_of_boot.ok sc_Story_fault_of_boot (fun vs H Q E h => ?_) (fun cdv A outer s H vs Q E hr h => ?_)
  · obtain ⟨R, p, v, f, s, kn, su, ev, rfl, ⟨sR, Rp, dx, l1, l2, vs1, vs2, R1, R2, ne, hp, h1, h2, d1, d2⟩, dv, hsu, lim1, lim2, hq⟩ := h
    rfl
  · obtain ⟨R, p, v, f, s, kn, su, ev, rfl, ⟨sR, Rp, dx, l1, l2, vs1, vs2, R1, R2, ne, hp, h1, h2, d1, d2⟩, dv, hsu, lim1, lim2, hq⟩ := h
    refine ⟨_, (pss_cons (ps_if (PW.pt (pw_or (pt_cmpR (opEqU (K := K) hr.units) (pe_callB (callLenU (K := K)) (by rfl) T.n_len (by decide +kernel) (pa_cons (pe_fldK (K := K) (pv 0) rfl) pa_nil)) pe_int (nomark _)) (pw_or1 (pt_cmpR (opInU (K := K) (hu65 hr)) (pv 2) (pe_slice (slU (K := K)) (pe_fldK (K := K) (pv 0) rfl) (po_some (pe_fldK (K := K) (pv 0) rfl)) po_none) (by rfl))))) (pss_one (ps_ret pe_non)) pss_nil)
      (pss_cons (ps_if (pt_cmpR (opNinU (K := K) (hu65 hr)) (pv 2) (pe_fldK (K := K) (pv 0) rfl) (by rfl)) (pss_one (ps_ret pe_str)) pss_nil)
      (pss_cons (ps_if (pt_cmpR (opEqU (K := K) hr.units) (pv 1) pe_int (nomark _)) (pss_one (ps_ret pe_non)) pss_nil)
      (pss_one (ps_ret pe_str))))), ?_⟩
    try dsimp only [cxOf]
    have sz1 := dpAll_len d1
    have sz3 := dpAll_len d2
    have st : StAt K T.C_Story R H p kn (su : Int) ev := ⟨sR, Rp, dx, l1, l2, vs1, vs2, R1, R2, ne, hp, h1, h2, d1, d2⟩
    have e1 : (vs1.length : Int) = kn.length := by simp at sz1; omega
    fail "go"
    refine g_ite (fun e => ?_) (fun e => ?_)
    · fail "go"
      have t := hq H st (Same.refl _)
      rw [bootFault, if_pos (.inl (by omega))] at t
      exact t
    have nk : ¬ kn.length = 0 := by omega
    fail "go"
    refine g_slL (by fail "sq") ?_
    fail "newM"
    rename_i l3 H3 n3 g3 m3 h3 s3
    have hH : Same H H3 := g3.g.same
    have d3 : DpAll K H3 (cutV vs1 (some (su : Int)) none) ((kn.drop su).map sd) := by
      have t := dpAll_mono s3 (dpAll_cut d1 (some (su : Int)) none)
      have x1 : HT.sIx (List.map sd kn).length 0 (some (su : Int)) = su := by rw [HT.sIx_nat, List.length_map]; omega
      rw [x1, HT.sIx_none] at t
      rw [List.map_drop]
      rw [List.take_of_length_le (by simp)] at t
      exact t
    refine g_in (dp_mono s3 dv) (SqL.of h3) d3 ?_
    fail "go"
    refine g_ite (fun e3 => ?_) (fun e3 => ?_)
    · fail "go"
      have t := hq H3 (st.mono hH) hH
      rw [bootFault, if_pos (.inr e3)] at t
      exact t
    fail "go"
    refine g_nin (dp_mono s3 dv) (SqL.of (by fail "hp")) (dpAll_mono s3 d2) ?_
    fail "go"
    refine g_iteN (fun e4 => ?_) (fun e4 => ?_)
    · fail "go"
      have t := hq H3 (st.mono hH) hH
      rw [bootFault, if_neg (fun z => z.elim nk e3), if_pos e4] at t
      exact t
    fail "go"
    have t := hq H3 (st.mono hH) hH
    rw [bootFault, if_neg (fun z => z.elim nk e3), if_neg (fun z => z e4)] at t
    cases f with
    | true =>
      rw [if_pos rfl, decide_eq_true rfl]
      fail "go"
      exact t
    | false =>
      rw [if_neg Bool.false_ne_true]
      refine g_ite (fun z => absurd z (by decide)) (fun _ => ?_)
      fail "go"
      exact t
end
def spBegin (K : PySem.W.Frag) (C : Addr) : Sp := fun vs H Q _ => ∃ (R : Hp) (p : Addr) (v : V) (s : Bool × Bool) (kn : List (Bool × Bool)) (su : Int) (ev : List (Bool × Bool)), vs = [.ref p, v] ∧ StAt K C R H p kn su ev ∧ Dp K R v (sd s) ∧ ev.length ≤ 100 ∧ ∀ H', StAt K C R H' p [s] 0 (ev ++ [s]) → Q .non H'
section
variable {P : Program} {w : World} {K : PySem.W.Frag} {mg : Str → Option Value} {base : Heap}
theorem ok_Story_begin (T : Txt K mg) : FnOk P w K mg base CX0 1 T.f_Story_begin T.fd_Story_begin ["self", "state"] (spBegin K T.C_Story) := by
  have cl_Story := T.cl_Story
  have a_Story_known := T.a_Story_known
  have a_Story_sure := T.a_Story_sure
  have a_Story_ever := T.a_Story_ever
  refine T.F_Story_begin.ok sc_Story_begin (fun vs H Q E h => ?_) (fun cdv A outer s H vs Q E hr h => ?_)
  · obtain ⟨R, p, v, s, kn, su, ev, rfl, ⟨sR, Rp, dx, l1, l2, vs1, vs2, R1, R2, ne, hp, h1, h2, d1, d2⟩, dv, lim, hq⟩ := h
    rfl
  · obtain ⟨R, p, v, s, kn, su, ev, rfl, ⟨sR, Rp, dx, l1, l2, vs1, vs2, R1, R2, ne, hp, h1, h2, d1, d2⟩, dv, lim, hq⟩ := h
    refine ⟨_, (pss_cons (ps_fld (pv 0) (pe_lst (pa_cons (pv 1) pa_nil)) rfl)
      (pss_cons (ps_fld (pv 0) pe_int rfl)
      (pss_one (ps_expr (pe_bm PySem.F.plainAttrs_list PySem.F.slot_list_append PySem.F.type_list_append mt_append (pe_fldK (K := K) (pv 0) rfl) (pa_cons (pv 1) pa_nil)))))), ?_⟩
    try dsimp only [cxOf]
    have sz1 := dpAll_len d2
    have sz2 : vs2.length ≤ 100 := by simp at sz1; omega
    have npl : p ≠ l2 := ne_of hp h2 (by intro z; cases z)
    fail "go"
    refine ⟨by fail "sz", ?_⟩
    fail "newM"
    rename_i l3 H3 n3 g3 m3 h3 s3
    have n31 : l3 ≠ l2 := by fail "ne"
    fail "go"
    rename_i H5 g5 h5 s5
    refine hq _ ⟨s5, Rp, dx, l3, l2, [v], _, m3, R2, n31, by fail "hp", by fail "hp", h5, .cons dv .nil, ?_⟩
    rw [List.map_append]
    exact dpAll_app d2 (.cons dv .nil)
end
def spChange (K : PySem.W.Frag) (C : Addr) : Sp := fun vs H Q _ => ∃ (R : Hp) (p : Addr) (v : V) (s : Bool × Bool) (kn : List (Bool × Bool)) (su : Int) (ev : List (Bool × Bool)), vs = [.ref p, v] ∧ StAt K C R H p kn su ev ∧ Dp K R v (sd s) ∧ kn.length ≤ 100 ∧ ev.length ≤ 100 ∧ ∀ H', StAt K C R H' p (kn ++ [s]) su (ev ++ [s]) → Q .non H'
section
variable {P : Program} {w : World} {K : PySem.W.Frag} {mg : Str → Option Value} {base : Heap}
theorem ok_Story_change (T : Txt K mg) : FnOk P w K mg base CX0 1 T.f_Story_change T.fd_Story_change ["self", "state"] (spChange K T.C_Story) := by
  have cl_Story := T.cl_Story
  have a_Story_known := T.a_Story_known
  have a_Story_ever := T.a_Story_ever
  refine T.F_Story_change.ok sc_Story_change (fun vs H Q E h => ?_) (fun cdv A outer s H vs Q E hr h => ?_)
  · obtain ⟨R, p, v, s, kn, su, ev, rfl, ⟨sR, Rp, dx, l1, l2, vs1, vs2, R1, R2, ne, hp, h1, h2, d1, d2⟩, dv, lim1, lim2, hq⟩ := h
    rfl
  · obtain ⟨R, p, v, s, kn, su, ev, rfl, ⟨sR, Rp, dx, l1, l2, vs1, vs2, R1, R2, ne, hp, h1, h2, d1, d2⟩, dv, lim1, lim2, hq⟩ := h
    refine ⟨_, (pss_cons (ps_expr (pe_bm PySem.F.plainAttrs_list PySem.F.slot_list_append PySem.F.type_list_append mt_append (pe_fldK (K := K) (pv 0) rfl) (pa_cons (pv 1) pa_nil)))
      (pss_one (ps_expr (pe_bm PySem.F.plainAttrs_list PySem.F.slot_list_append PySem.F.type_list_append mt_append (pe_fldK (K := K) (pv 0) rfl) (pa_cons (pv 1) pa_nil))))), ?_⟩
    try dsimp only [cxOf]
    have sz1 := dpAll_len d1
    have sz2 : vs1.length ≤ 100 := by simp at sz1; omega
    have sz3 := dpAll_len d2
    have sz4 : vs2.length ≤ 100 := by simp at sz3; omega
    have npl : p ≠ l2 := ne_of hp h2 (by intro z; cases z)
    have np1 : p ≠ l1 := ne_of hp h1 (by intro z; cases z)
    fail "go"
    rename_i H5 g5 h5 s5
    refine hq _ ⟨s5, Rp, dx, l1, l2, _, _, R1, R2, ne, by fail "hp", by fail "hp", h5, ?_, ?_⟩
    · rw [List.map_append]
      exact dpAll_app d1 (.cons dv .nil)
    · rw [List.map_append]
      exact dpAll_app d2 (.cons dv .nil)
end
def spSure (K : PySem.W.Frag) (C : Addr) : Sp := fun vs H Q _ => ∃ (R : Hp) (p : Addr) (kn : List (Bool × Bool)) (su : Int) (ev : List (Bool × Bool)), vs = [.ref p] ∧ StAt K C R H p kn su ev ∧ ∀ H', StAt K C R H' p kn ((kn.length : Int) - 1) ev → Q .non H'
section
variable {P : Program} {w : World} {K : PySem.W.Frag} {mg : Str → Option Value} {base : Heap}
theorem ok_Story_make_sure (T : Txt K mg) : FnOk P w K mg base CX0 1 T.f_Story_make_sure T.fd_Story_make_sure ["self"] (spSure K T.C_Story) := by
  have cl_Story := T.cl_Story
  have a_Story_sure := T.a_Story_sure
  have a_Story_known := T.a_Story_known
  refine T.F_Story_make_sure.ok sc_Story_make_sure (fun vs H Q E h => ?_) (fun cdv A outer s H vs Q E hr h => ?_)
  · obtain ⟨R, p, kn, su, ev, rfl, ⟨sR, Rp, dx, l1, l2, vs1, vs2, R1, R2, ne, hp, h1, h2, d1, d2⟩, hq⟩ := h
    rfl
  · obtain ⟨R, p, kn, su, ev, rfl, ⟨sR, Rp, dx, l1, l2, vs1, vs2, R1, R2, ne, hp, h1, h2, d1, d2⟩, hq⟩ := h
    refine ⟨_, (pss_one (ps_fld (pv 0) (pe_op opSubU (pe_callB (callLenU (K := K)) (by rfl) T.n_len (by decide +kernel) (pa_cons (pe_fldK (K := K) (pv 0) rfl) pa_nil)) pe_int) rfl)), ?_⟩
    try dsimp only [cxOf]
    have sz1 := dpAll_len d1
    have npl : p ≠ l2 := ne_of hp h2 (by intro z; cases z)
    have np1 : p ≠ l1 := ne_of hp h1 (by intro z; cases z)
    fail "go"
    rename_i H5 g5 h5 s5
    have e : (vs1.length : Int) = kn.length := by simp at sz1; omega
    rw [e] at h5
    exact hq _ ⟨s5, Rp, dx, l1, l2, _, _, R1, R2, ne, h5, by fail "hp", by fail "hp", d1, d2⟩
end
def recFault : List Row → Nat → List (Bool × Bool) → Nat → List (Bool × Bool) → Option (Str × Nat)
  | [], _, _, _, _ => none
  | .boot f a b :: r, i, kn, su, ev => match bootFault kn su ev f (a, b) with
    | some x => some (x, i)
    | none => recFault r (i + 1) [(a, b)] 0 (ev ++ [(a, b)])
  | .change a b :: r, i, kn, su, ev => recFault r (i + 1) (kn ++ [(a, b)]) su (ev ++ [(a, b)])
  | .sure :: r, i, kn, _, ev => recFault r (i + 1) kn (kn.length - 1) ev
def resD : Option (Str × Nat) → PyData
  | none => .none
  | some (x, i) => .tuple [.str x, .int (i : Int)]
def headBoot : List Row → Bool
  | [] => true
  | .boot _ _ _ :: _ => true
  | _ => false
def spFault (K : PySem.W.Frag) : Sp := fun vs H Q _ => ∃ (a : Addr) (xs : List V) (rows : List Row), vs = [.ref a] ∧ SqL K H a xs ∧ DpAll K H xs (rows.map Row.d) ∧ rows.length ≤ 14 ∧ headBoot rows = true ∧
  ∀ v H', Same H H' → Dp K H' v (resD (recFault rows 0 [] 0 [])) → Q v H'
theorem Gr.same2 {H : Hp} {x dx C : Addr} (h1 : H x = none) (h2 : H dx = none) : Same H (upd (upd H dx (.own x)) x (.ins C dx [])) := fun b o e => by
  rw [upd_ne (ne_of_none e h1), upd_ne (ne_of_none e h2)]; exact e
/-- behind i rows -/
def FInv (K : PySem.W.Frag) (C : Addr) (R : Hp) (a p : Addr) (rows : List Row) (i : Nat) (σ : St) (H : Hp) : Prop :=
  ∃ (x y z : Option V) (kn : List (Bool × Bool)) (su : Nat) (ev : List (Bool × Bool)), σ = [some (.ref a), some (.ref p), x, y, z] ∧ StAt K C R H p kn (su : Int) ev ∧
    recFault (rows.drop i) i kn su ev = recFault rows 0 [] 0 [] ∧ su ≤ kn.length ∧ kn.length ≤ i ∧ ev.length ≤ i ∧ (i = 0 ∨ kn ≠ [])
section
variable {P : Program} {w : World} {K : PySem.W.Frag} {mg : Str → Option Value} {base : Heap}
theorem ok_fault_of_record (T : Txt K mg) : FnOk P w K mg base CX0 3 T.f_fault_of_record T.fd_fault_of_record ["record"] (spFault K) := by
  have G_Story___init__ := ok_Story___init__ (P := P) (w := w) (base := base) T
  have G_Story_fault_of_boot := ok_Story_fault_of_boot (P := P) (w := w) (base := base) T
  have G_Story_begin := ok_Story_begin (P := P) (w := w) (base := base) T
  have G_Story_change := ok_Story_change (P := P) (w := w) (base := base) T
  have G_Story_make_sure := ok_Story_make_sure (P := P) (w := w) (base := base) T
  refine T.F_fault_of_record.ok sc_fault_of_record (fun vs H Q E h => ?_) (fun cdv A outer s H vs Q E hr h => ?_)
  · obtain ⟨a, xs, rows, rfl, hS, hD, hlen, hb, hq⟩ := h
    rfl
  · obtain ⟨a, xs, rows, rfl, hS, hD, hlen, hb, hq⟩ := h
    refine ⟨_, (pss_cons (ps_set (i := 1) sc_fault_of_record.nd rfl (by first | exact Or.inl rfl | exact Or.inr rfl) (pe_make0 T.mk_Story G_Story___init__ (hr.mono (by decide)) rfl T.g_Story T.b_Story___init__ .nil pass0))
      (pss_cons (ps_for PassesOwn.never rfl (pi_enum (by rfl) T.n_enumerate (pa_cons (pv 0) pa_nil)) (pg_tupK (K := K) rfl (pgs_cons (pg_name (i := 2) sc_fault_of_record.nd rfl (by first | exact Or.inl rfl | exact Or.inr rfl)) (pgs_cons (pg_name (i := 3) sc_fault_of_record.nd rfl (by first | exact Or.inl rfl | exact Or.inr rfl)) pgs_nil))) (pss_one (ps_if (pt_cmpR (opEqU (K := K) hr.units) (pe_ix (ixU (K := K)) (pv 3) pe_int (fun _ _ => rfl)) (pe_glob rfl T.g_BOOT T.r_BOOT) (nomark _)) (pss_cons (ps_set (i := 4) sc_fault_of_record.nd rfl (by first | exact Or.inl rfl | exact Or.inr rfl) (pe_meth (pv 1) T.cl_Story T.m_Story_fault_of_boot G_Story_fault_of_boot (hr.mono (by decide)) T.b_Story_fault_of_boot .nil pass0 (pa_cons (pe_ix (ixU (K := K)) (pv 3) pe_int (fun _ _ => rfl)) (pa_cons (pe_ix (ixU (K := K)) (pv 3) pe_int (fun _ _ => rfl)) pa_nil))))
      (pss_cons (ps_if (pt_cmpR opNotU (pv 4) pe_non (nomark _)) (pss_one (ps_ret (pe_tup (pa_cons (pv 4) (pa_cons (pv 2) pa_nil))))) pss_nil)
      (pss_one (ps_expr (pe_meth (pv 1) T.cl_Story T.m_Story_begin G_Story_begin (hr.mono (by decide)) T.b_Story_begin .nil pass0 (pa_cons (pe_ix (ixU (K := K)) (pv 3) pe_int (fun _ _ => rfl)) pa_nil)))))) (pss_one (ps_if (pt_cmpR (opEqU (K := K) hr.units) (pe_ix (ixU (K := K)) (pv 3) pe_int (fun _ _ => rfl)) (pe_glob rfl T.g_CHANGE T.r_CHANGE) (nomark _)) (pss_one (ps_expr (pe_meth (pv 1) T.cl_Story T.m_Story_change G_Story_change (hr.mono (by decide)) T.b_Story_change .nil pass0 (pa_cons (pe_ix (ixU (K := K)) (pv 3) pe_int (fun _ _ => rfl)) pa_nil)))) (pss_one (ps_expr (pe_meth0 (pv 1) T.cl_Story T.m_Story_make_sure G_Story_make_sure (hr.mono (by decide)) T.b_Story_make_sure .nil pass0))))))))
      (pss_one (ps_ret pe_non)))), ?_⟩
    try dsimp only [cxOf]
    have hxl : xs.length = rows.length := by have := dpAll_len hD; simpa using this
    fail "go"
    intro p dx np ndx nex
    refine ⟨H, p, dx, rfl, Gr.same2 np ndx, np, upd_same, fun H1 S1 => ⟨rfl, ?_⟩⟩
    have sH := S1.1
    fail "go"
    refine g_EnW (sqL_mono sH hS) (for_enum (K := K) (a := a) (xs := xs) (FInv K T.C_Story H a p rows) ⟨none, none, none, [], 0, [], rfl, S1, rfl, Nat.le_refl _, Nat.le_refl _, Nat.le_refl _, .inl rfl⟩ ?_ ?_ ?_)
    · rintro i σ H2 _ ⟨x, y, z, kn, su, ev, _, S, _⟩
      exact sqL_mono S.1 hS
    · rintro i x T0 σ H2 hi ⟨x0, y0, z0, kn, su, ev, rfl, S, hr, l1, l2, l3, l4⟩ hT
      have il : i < xs.length := (List.getElem?_eq_some_iff.mp hi).1
      have S3 := S.mono (Gr.newR (M := []) (o := HO.tup [.int (i : Int), x]) (Same.refl H2) hT).same
      obtain ⟨d, hd, dx⟩ := dpAll_get' hD hi
      generalize hq3 : upd H2 T0 _ = H3 at S3
      have hT3 : H3 T0 = some (.tup [.int (i : Int), x]) := by rw [← hq3]; exact upd_same
      have sH3 := S3.1
      obtain ⟨_, _, _, _, _, _, _, _, _, _, hpS, _⟩ := id S3
      refine ⟨T0, _, rfl, SqT.of hT3, rfl, _, _, rfl, _, _, rfl, rfl, ?_⟩
      rw [List.getElem?_map] at hd
      obtain ⟨r, hr0, rfl⟩ := Option.map_eq_some_iff.mp hd
      have hdrop : rows.drop i = r :: rows.drop (i + 1) := by
        obtain ⟨h1, h2⟩ := List.getElem?_eq_some_iff.mp hr0
        rw [← h2]; exact List.drop_eq_getElem_cons h1
      rw [hdrop] at hr
      cases r with
      | boot f b c =>
        obtain ⟨t, u1, u2, v, rfl, ht, v1, v2, v3⟩ := dpT3 dx
        obtain rfl := dp_str v1
        obtain rfl := dp_int v2
        fail "go"
        refine ⟨H, p, v, f, (b, c), kn, su, ev, rfl, S3, v3, l1, by omega, by omega, fun H4 S4 sm => ?_⟩
        have sH4 := S4.1
        rw [recFault] at hr
        fail "go"
        cases hbf : bootFault kn su ev f (b, c) with
        | some w =>
          rw [hbf] at hr
          simp only [] at hr
          refine g_iteN (fun _ => ?_) (fun z => absurd z (by intro z; cases z))
          fail "go"
          refine ⟨by fail "sz", fun q nq => ?_⟩
          refine hq _ _ (sH4.trans (Gr.newR (M := []) (Same.refl H4) nq).same) ?_
          rw [← hr]
          exact .tup (SqT.of upd_same) (.cons (.str w) (.cons (.int _) .nil))
        | none =>
          rw [hbf] at hr
          simp only [] at hr
          refine g_iteN (fun z => absurd rfl z) (fun _ => ?_)
          obtain ⟨_, _, _, _, _, _, _, _, _, _, hpS4, _⟩ := id S4
          fail "go"
          refine ⟨H, p, v, (b, c), kn, su, ev, rfl, S4, v3, by omega, fun H5 S5 => ?_⟩
          exact ⟨_, _, _, [(b, c)], 0, ev ++ [(b, c)], rfl, S5, hr, Nat.zero_le _, by simp, by simp; omega, .inr (by simp)⟩
      | change b c =>
        obtain ⟨t, u1, v, rfl, ht, v1, v3⟩ := dpT2 dx
        obtain rfl := dp_str v1
        fail "go"
        rw [recFault] at hr
        refine ⟨H, p, v, (b, c), kn, su, ev, rfl, S3, v3, by omega, by omega, fun H5 S5 => ?_⟩
        exact ⟨_, _, _, kn ++ [(b, c)], su, ev ++ [(b, c)], rfl, S5, hr, by simp; omega, by simp; omega, by simp; omega, .inr (by simp)⟩
      | sure =>
        obtain ⟨t, u1, rfl, ht, v1⟩ := dpT1 dx
        obtain rfl := dp_str v1
        fail "go"
        rw [recFault] at hr
        have kne : kn ≠ [] := by
          rcases l4 with rfl | h
          · rw [List.drop_zero] at hdrop
            rw [hdrop] at hb
            cases hb
          · exact h
        have kl : 0 < kn.length := List.length_pos_iff.mpr kne
        refine ⟨H, p, kn, su, ev, rfl, S3, fun H5 S5 => ?_⟩
        have e : (kn.length : Int) - 1 = ((kn.length - 1 : Nat) : Int) := by omega
        rw [e] at S5
        exact ⟨_, _, _, kn, kn.length - 1, ev, rfl, S5, hr, by omega, by omega, by omega, .inr kne⟩
    · rintro σ H2 ⟨x0, y0, z0, kn, su, ev, rfl, S, hr, l1, l2, l3, l4⟩
      rw [hxl, List.drop_length, recFault] at hr
      fail "go"
      refine hq _ _ S.1 ?_
      rw [← hr]
      exact .non
end
def Row.tag : Row → Str
  | .boot _ _ _ => "boot"
  | .change _ _ => "change"
  | .sure => "sure"
def Row.isBoot : Row → Bool
  | .boot _ _ _ => true
  | _ => false
def letStep (acc : List (Bool × Bool)) : Row → List (Bool × Bool)
  | .boot _ a b => acc ++ [(a, b)]
  | .change a b => acc ++ [(a, b)]
  | .sure => acc.drop (acc.length - 1)
def bootAt (rows : List Row) (k : Nat) : Bool := match rows[k]? with
  | some r => r.isBoot
  | none => false
def boots (rows : List Row) (i : Nat) : List Nat := (List.range i).filter (bootAt rows)
def letStates (rows : List Row) (b i : Nat) : List (Bool × Bool) := ((rows.drop b).take (i - b)).foldl letStep []
def lawLet (rows : List Row) (i : Nat) : Option (List (Bool × Bool)) := (boots rows i).getLast?.map fun b => letStates rows b i
theorem rowHead {K : PySem.W.Frag} {H : Hp} {x : V} {r : Row} (h : Dp K H x r.d) : ∃ t us, x = .ref t ∧ SqT K H t us ∧ atI us 0 = some (.str r.tag) ∧ (r ≠ .sure → ∃ v a b, atI us (-1) = some v ∧ Dp K H v (stD a b) ∧ ∀ acc, letStep acc r = acc ++ [(a, b)]) := by
  cases r with
  | boot f a b =>
    obtain ⟨t, u1, u2, v, rfl, ht, v1, v2, v3⟩ := dpT3 h
    obtain rfl := dp_str v1
    exact ⟨t, _, rfl, ht, rfl, fun _ => ⟨v, a, b, rfl, v3, fun _ => rfl⟩⟩
  | change a b =>
    obtain ⟨t, u1, v, rfl, ht, v1, v3⟩ := dpT2 h
    obtain rfl := dp_str v1
    exact ⟨t, _, rfl, ht, rfl, fun _ => ⟨v, a, b, rfl, v3, fun _ => rfl⟩⟩
  | sure =>
    obtain ⟨t, u1, rfl, ht, v1⟩ := dpT1 h
    obtain rfl := dp_str v1
    exact ⟨t, _, rfl, ht, rfl, fun z => absurd rfl z⟩
theorem tag_boot (r : Row) : decide (r.tag = ("boot" : Str)) = r.isBoot := by cases r <;> first | rfl | decide +kernel
theorem tag_sure (r : Row) : r.tag = ("sure" : Str) ↔ r = .sure := by
  cases r
  · exact ⟨fun h => absurd h (by simp only [Row.tag]; decide +kernel), fun h => by cases h⟩
  · exact ⟨fun h => absurd h (by simp only [Row.tag]; decide +kernel), fun h => by cases h⟩
  · exact ⟨fun _ => rfl, fun _ => rfl⟩
theorem boots_succ (rows : List Row) (i : Nat) : boots rows (i + 1) = boots rows i ++ (if bootAt rows i then [i] else []) := by
  unfold boots
  rw [List.range_succ, List.filter_append]
  congr 1
  by_cases h : bootAt rows i = true <;> simp [h]
theorem boots_len (rows : List Row) (i : Nat) : (boots rows i).length ≤ i := by
  have h := List.length_filter_le (bootAt rows) (List.range i)
  rw [List.length_range] at h
  exact h
theorem letStates_succ {rows : List Row} {b i : Nat} {r : Row} (hb : b ≤ i) (hr : rows[i]? = some r) : letStates rows b (i + 1) = letStep (letStates rows b i) r := by
  unfold letStates
  have h1 : (rows.drop b)[i - b]? = some r := by rw [List.getElem?_drop]; rw [show b + (i - b) = i by omega]; exact hr
  rw [show i + 1 - b = (i - b) + 1 by omega, List.take_add_one, h1, List.foldl_append]
  rfl
theorem letStates_len (rows : List Row) (b i : Nat) : (letStates rows b i).length ≤ i - b := by
  unfold letStates
  have h : ∀ (l : List Row) (acc : List (Bool × Bool)), (l.foldl letStep acc).length ≤ acc.length + l.length := by
    intro l
    induction l with
    | nil => intro acc; simp
    | cons r l ih =>
      intro acc
      rw [List.foldl_cons]
      have := ih (letStep acc r)
      have h2 : (letStep acc r).length ≤ acc.length + 1 := by cases r <;> simp [letStep] <;> omega
      simp only [List.length_cons]
      omega
  have := h ((rows.drop b).take (i - b)) []
  simp only [List.length_nil, List.length_take] at this
  omega
theorem cutLast {K : PySem.W.Frag} {H : Hp} {us : List V} {ss : List (Bool × Bool)} (d : DpAll K H us (ss.map sd)) : DpAll K H (cutV us (some (-1)) none) ((ss.drop (ss.length - 1)).map sd) := by
  have t := dpAll_cut d (some (-1)) none
  have x1 : HT.sIx (ss.map sd).length 0 (some (-1)) = ss.length - 1 := by
    show (if (-1 : Int) < 0 then ((-1 : Int) + ((ss.map sd).length : Int)).toNat else min (-1 : Int).toNat (ss.map sd).length) = _
    rw [if_pos (by decide), List.length_map]; omega
  rw [x1, HT.sIx_none, ← List.map_drop, List.take_of_length_le (by simp)] at t
  exact t
def LInv (K : PySem.W.Frag) (R : Hp) (a : Addr) (rows : List Row) (i b j : Nat) (σ : St) (H : Hp) : Prop :=
  ∃ (x y z : Option V) (l : Addr) (us : List V), σ = [some (.ref a), some (.int (i : Int)), x, y, z, some (.ref l)] ∧ Same R H ∧ R l = none ∧ H l = some (.lst us) ∧ DpAll K R us ((letStates rows b (b + j)).map sd)
def RowsAt (K : PySem.W.Frag) (H : Hp) (a : Addr) (xs : List V) (rows : List Row) : Prop := SqL K H a xs ∧ DpAll K H xs (rows.map Row.d) ∧ rows.length ≤ 14
theorem RowsAt.get {K : PySem.W.Frag} {H : Hp} {a : Addr} {xs : List V} {rows : List Row} (h : RowsAt K H a xs rows) {k : Nat} {r : Row} (e : rows[k]? = some r) : ∃ x, atI xs (k : Int) = some x ∧ xs[k]? = some x ∧ Dp K H x r.d := by
  have e1 : (rows.map Row.d)[k]? = some r.d := by rw [List.getElem?_map, e]; rfl
  obtain ⟨x, hx, d⟩ := dpAll_get h.2.1 e1
  exact ⟨x, atI_nat hx, hx, d⟩
theorem RowsAt.len {K : PySem.W.Frag} {H : Hp} {a : Addr} {xs : List V} {rows : List Row} (h : RowsAt K H a xs rows) : xs.length = rows.length := by
  have := dpAll_len h.2.1
  simpa using this
def LetRes (K : PySem.W.Frag) (H' : Hp) (v : V) : Option (List (Bool × Bool)) → Prop
  | none => v = .non
  | some ss => ∃ p us, v = .ref p ∧ H' p = some (.lst us) ∧ DpAll K H' us (ss.map sd)
def spLet (K : PySem.W.Frag) : Sp := fun vs H Q _ => ∃ (a : Addr) (xs : List V) (rows : List Row) (i : Nat), vs = [.ref a, .int (i : Int)] ∧ RowsAt K H a xs rows ∧ i ≤ rows.length ∧ ∀ v H', Same H H' → LetRes K H' v (lawLet rows i) → Q v H'
section
variable {P : Program} {w : World} {K : PySem.W.Frag} {mg : Str → Option Value} {base : Heap}
theorem ok__law_let (T : Txt K mg) : FnOk P w K mg base CX0 1 T.f__law_let T.fd__law_let ["record", "place"] (spLet K) := by
  refine T.F__law_let.ok sc__law_let (fun vs H Q E h => ?_) (fun cdv A outer s H vs Q E hr h => ?_)
  · obtain ⟨a, xs, rows, i, rfl, hR, hi, hq⟩ := h
    rfl
  · obtain ⟨a, xs, rows, i, rfl, hR, hi, hq⟩ := h
    refine ⟨_, (pss_cons (ps_setLc (i := 3) (own := [("k", 2)]) (g := gName 2) (tt := _) rfl sc__law_let.nd rfl rfl (sw_true rfl rfl rfl (by decide +kernel)) (pi_range1 rfl T.n_range (pa_cons (pv 1) pa_nil)) (blkOk_by (N := N__law_let) (sc := defScope s__law_let) (by decide +kernel)) (fun _ _ _ _ _ => (pg_name (i := 2) sc__law_let.nd rfl (by first | exact Or.inl rfl | exact Or.inr rfl))) (fun _ _ _ _ _ => pts_one (pt_cmpR (opEqU (K := K) hr.units) (pe_ix (ixU (K := K)) (pe_ix (ixU (K := K)) (pv 0) (pv 2) (fun _ _ => rfl)) pe_int (fun _ _ => rfl)) pe_str (nomark _))) (fun _ _ _ _ _ => (pv 2)))
      (pss_cons (ps_if (pt_cmpR (opEqU (K := K) hr.units) (pe_callB (callLenU (K := K)) (by rfl) T.n_len (by decide +kernel) (pa_cons (pv 3) pa_nil)) pe_int (nomark _)) (pss_one (ps_ret pe_non)) pss_nil)
      (pss_cons (ps_set (i := 4) sc__law_let.nd rfl (by first | exact Or.inl rfl | exact Or.inr rfl) (pe_ix (ixU (K := K)) (pv 3) (pe_un un_neg pe_int) (fun _ _ => rfl)))
      (pss_cons (ps_set (i := 5) sc__law_let.nd rfl (by first | exact Or.inl rfl | exact Or.inr rfl) (pe_lst pa_nil))
      (pss_cons (ps_for PassesOwn.never rfl (pi_range2 rfl T.n_range (pa_cons (pv 4) (pa_cons (pv 1) pa_nil))) (pg_name (i := 2) sc__law_let.nd rfl (by first | exact Or.inl rfl | exact Or.inr rfl)) (pss_one (ps_if (pt_cmpR (opEqU (K := K) hr.units) (pe_ix (ixU (K := K)) (pe_ix (ixU (K := K)) (pv 0) (pv 2) (fun _ _ => rfl)) pe_int (fun _ _ => rfl)) pe_str (nomark _)) (pss_one (ps_set (i := 5) sc__law_let.nd rfl (by first | exact Or.inl rfl | exact Or.inr rfl) (pe_slice (slU (K := K)) (pv 5) (po_some (pe_un un_neg pe_int)) po_none))) (pss_one (ps_expr (pe_bm PySem.F.plainAttrs_list PySem.F.slot_list_append PySem.F.type_list_append mt_append (pv 5) (pa_cons (pe_ix (ixU (K := K)) (pe_ix (ixU (K := K)) (pv 0) (pv 2) (fun _ _ => rfl)) (pe_un un_neg pe_int) (fun _ _ => rfl)) pa_nil)))))))
      (pss_one (ps_ret (pv 5)))))))), ?_⟩
    try dsimp only [cxOf]
    have hlen := hR.2.2
    fail "go"
    refine g_R1W rfl (by omega) fun D hD => ?_
    refine lc_range (lo := 0) (n := i) (fun j H' => Same H H' ∧ H' D = some (.lst ((boots rows j).map fun (k : Nat) => V.int (k : Int)))) ⟨(Gr.newM (M := []) (Same.refl H) hD).same, upd_same⟩ ?_ ?_
    · rintro j H1 hj ⟨s1, h1⟩
      obtain ⟨r, hr⟩ : ∃ r, rows[j]? = some r := ⟨rows[j]'(by omega), List.getElem?_eq_getElem _⟩
      obtain ⟨x, hx, _, dx⟩ := hR.get hr
      obtain ⟨t, us, rfl, ht, h0, _⟩ := rowHead dx
      rw [Int.zero_add]
      refine ⟨rfl, ?_⟩
      fail "go"
      refine g_ixL (sqL_mono s1 hR.1) hx ?_
      fail "go"
      refine g_ixT (sqT_mono s1 ht) h0 ?_
      fail "go"
      rw [tag_boot]
      have bs : boots rows (j + 1) = boots rows j ++ (if r.isBoot then [j] else []) := by
        rw [boots_succ, show bootAt rows j = r.isBoot by unfold bootAt; rw [hr]]
      have bl := boots_len rows j
      refine g_iteB (fun e => ?_) (fun e => ?_)
      · fail "go"
        refine ⟨_, h1, ?_, ?_, ?_⟩
        · have z : sizeLine = 16777216 := sizeLine_eq
          rw [List.length_map, z]; omega
        · exact fun c o q => by rw [upd_ne (ne_of_none q hD)]; exact s1 c o q
        · rw [upd_same, bs, if_pos e, List.map_append]; rfl
      · refine ⟨s1, ?_⟩
        rw [bs, if_neg (by rw [e]; exact Bool.false_ne_true), List.append_nil]
        exact h1
    rintro H1 ⟨s1, h1⟩
    fail "go"
    rw [List.length_map]
    refine g_ite (fun e => ?_) (fun e => ?_)
    · fail "go"
      refine hq _ _ s1 ?_
      have e2 : boots rows i = [] := List.eq_nil_of_length_eq_zero (by omega)
      unfold lawLet
      rw [e2]
      rfl
    fail "go"
    have e0 : boots rows i ≠ [] := fun z => e (by rw [z]; rfl)
    obtain ⟨pre, b, hpb⟩ : ∃ pre b, boots rows i = pre ++ [b] := ⟨_, _, (List.dropLast_concat_getLast e0).symm⟩
    have hb : b < i := by
      have : b ∈ boots rows i := by rw [hpb]; simp
      exact List.mem_range.mp ((List.mem_filter.mp this).1)
    have hgl : lawLet rows i = some (letStates rows b i) := by
      unfold lawLet
      rw [hpb, List.getLast?_append]
      rfl
    rw [hgl] at hq
    rw [hpb, List.map_append] at h1
    refine g_ixL (SqL.of h1) (atI_last _ _) ?_
    fail "go"
    refine ⟨by fail "sz", ?_⟩
    fail "newM"
    rename_i l H2 n2 g2 m2 h2 s2
    have m0 : H l = none := m2
    have s2' : Same H H2 := s2
    fail "go"
    refine ⟨_, _, rfl, ⟨by omega, by omega, by omega, by omega⟩, ?_⟩
    rw [show ((i : Int) - (b : Int)).toNat = i - b by omega]
    refine for_range (lo := (b : Int)) (n := i - b) (LInv K H a rows i b) ⟨_, _, _, l, [], rfl, s2', m0, h2, ?_⟩ ?_ ?_
    · rw [Nat.add_zero, show letStates rows b b = [] by unfold letStates; simp]
      exact .nil
    · rintro j σ H3 hj ⟨x0, y0, z0, l3, us, rfl, s3, m3, h3, d3⟩
      obtain ⟨r, hr⟩ : ∃ r, rows[b + j]? = some r := ⟨rows[b + j]'(by omega), List.getElem?_eq_getElem _⟩
      obtain ⟨x, hx, _, dx⟩ := hR.get hr
      obtain ⟨t, vs, rfl, ht, h0, hlast⟩ := rowHead dx
      have hls := letStates_succ (b := b) (by omega) hr
      have hll := letStates_len rows b (b + j)
      have hul := dpAll_len d3
      rw [List.length_map] at hul
      rw [show ((b : Nat) : Int) + (j : Int) = ((b + j : Nat) : Int) by omega]
      fail "go"
      refine g_ixL (sqL_mono s3 hR.1) hx ?_
      fail "go"
      refine g_ixT (sqT_mono s3 ht) h0 ?_
      fail "go"
      refine g_ite (fun e => ?_) (fun e => ?_)
      · have er := (tag_sure r).mp e
        subst er
        fail "go"
        refine g_slL (SqL.of h3) ?_
        fail "newM"
        rename_i l4 H4 n4 g4 m4 h4 s4
        fail "go"
        refine ⟨_, _, _, l4, _, rfl, s3.trans g4.g.same, m4, h4, ?_⟩
        rw [← Nat.add_assoc, hls]
        exact cutLast d3
      · obtain ⟨v, c, d, hv, dv, hst⟩ := hlast (fun z => e ((tag_sure r).mpr z))
        fail "go"
        refine g_ixL (sqL_mono s3 hR.1) hx ?_
        fail "go"
        refine g_ixT (sqT_mono s3 ht) hv ?_
        fail "go"
        rename_i H4 g4 h4 s4
        refine ⟨_, _, _, l3, _, rfl, s4, m3, h4, ?_⟩
        rw [← Nat.add_assoc, hls, hst, List.map_append]
        exact dpAll_app d3 (.cons dv .nil)
    · rintro σ H3 ⟨x0, y0, z0, l3, us, rfl, s3, m3, h3, d3⟩
      rw [show b + (i - b) = i by omega] at d3
      fail "go"
      exact hq _ _ s3 ⟨l3, us, rfl, h3, dpAll_mono s3 d3⟩
end
def everOf : Row → Option (Bool × Bool)
  | .boot _ a b => some (a, b)
  | .change a b => some (a, b)
  | .sure => none
def evers (rows : List Row) (i : Nat) : List (Bool × Bool) := (rows.take i).filterMap everOf
def lawBad (rows : List Row) (i : Nat) : Option Str := match rows[i]? with
  | some (.boot f a b) => match lawLet rows i with
    | some ss => if (a, b) ∈ ss then none else if (a, b) ∉ evers rows i then some "strange" else if f then none else some "lost"
    | none => none
  | _ => none
def firstBad (rows : List Row) : Nat → Option (Str × Nat)
  | 0 => none
  | i + 1 => match firstBad rows i with
    | some z => some z
    | none => (lawBad rows i).map fun x => (x, i)
theorem evers_succ {rows : List Row} {j : Nat} {r : Row} (hr : rows[j]? = some r) : evers rows (j + 1) = evers rows j ++ (match everOf r with | some s => [s] | none => []) := by
  unfold evers
  rw [List.take_add_one, hr, List.filterMap_append]
  cases r <;> rfl
theorem evers_len (rows : List Row) (j : Nat) : (evers rows j).length ≤ rows.length := by
  unfold evers
  refine Nat.le_trans (List.length_filterMap_le _ _) ?_
  rw [List.length_take]; omega
theorem ever_step {acc : List (Bool × Bool)} {r : Row} {a b : Bool} (h : ∀ acc, letStep acc r = acc ++ [(a, b)]) (hs : r ≠ .sure) : everOf r = some (a, b) := by
  cases r with
  | boot f c d => have := h []; simp [letStep] at this; rw [everOf, this.1, this.2]
  | change c d => have := h []; simp [letStep] at this; rw [everOf, this.1, this.2]
  | sure => exact absurd rfl hs
theorem firstBad_some {rows : List Row} {z : Str × Nat} : ∀ {i n : Nat}, i ≤ n → firstBad rows i = some z → firstBad rows n = some z
  | i, n, h, e => by
    induction n with
    | zero => have : i = 0 := by omega
              subst this; exact e
    | succ n ih =>
      by_cases hi : i = n + 1
      · subst hi; exact e
      · rw [firstBad, ih (by omega)]
def FkInv (K : PySem.W.Frag) (R : Hp) (a : Addr) (rows : List Row) (i : Nat) (σ : St) (H : Hp) : Prop :=
  ∃ (x y z w : Option V), σ = [some (.ref a), x, y, z, w, none] ∧ Same R H ∧ firstBad rows i = none
def spLFault (K : PySem.W.Frag) : Sp := fun vs H Q _ => ∃ (a : Addr) (xs : List V) (rows : List Row), vs = [.ref a] ∧ RowsAt K H a xs rows ∧ ∀ v H', Same H H' → Dp K H' v (resD (firstBad rows rows.length)) → Q v H'
section
variable {P : Program} {w : World} {K : PySem.W.Frag} {mg : Str → Option Value} {base : Heap}
theorem ok__law_fault (T : Txt K mg) : FnOk P w K mg base CX0 2 T.f__law_fault T.fd__law_fault ["record"] (spLFault K) := by
  have G__law_let := ok__law_let (P := P) (w := w) (base := base) T
  refine T.F__law_fault.ok sc__law_fault (fun vs H Q E h => ?_) (fun cdv A outer s H vs Q E hr h => ?_)
  · obtain ⟨a, xs, rows, rfl, hR, hq⟩ := h
    rfl
  · obtain ⟨a, xs, rows, rfl, hR, hq⟩ := h
    refine ⟨_, (pss_cons (ps_for PassesOwn.never rfl (pi_range1 rfl T.n_range (pa_cons (pe_callB (callLenU (K := K)) (by rfl) T.n_len (by decide +kernel) (pa_cons (pv 0) pa_nil)) pa_nil)) (pg_name (i := 1) sc__law_fault.nd rfl (by first | exact Or.inl rfl | exact Or.inr rfl)) (pss_cons (ps_set (i := 2) sc__law_fault.nd rfl (by first | exact Or.inl rfl | exact Or.inr rfl) (pe_ix (ixU (K := K)) (pv 0) (pv 1) (fun _ _ => rfl)))
      (pss_one (ps_if (pt_cmpR (opEqU (K := K) hr.units) (pe_ix (ixU (K := K)) (pv 2) pe_int (fun _ _ => rfl)) pe_str (nomark _)) (pss_cons (ps_set (i := 3) sc__law_fault.nd rfl (by first | exact Or.inl rfl | exact Or.inr rfl) (pe_call G__law_let (hr.mono (by decide)) rfl T.g__law_let T.F__law_let.kp T.b__law_let .nil pass0 (pa_cons (pv 0) (pa_cons (pv 1) pa_nil))))
      (pss_cons (ps_setLc (i := 4) (own := [("other", 5)]) (g := gName 5) (tt := _) rfl sc__law_fault.nd rfl rfl (sw_true rfl rfl rfl (by decide +kernel)) (pi_listK (K := K) (pe_slice (slU (K := K)) (pv 0) po_none (po_some (pv 1)))) (blkOk_by (N := N__law_fault) (sc := defScope s__law_fault) (by decide +kernel)) (fun _ _ _ _ _ => (pg_name (i := 5) sc__law_fault.nd rfl (by first | exact Or.inl rfl | exact Or.inr rfl))) (fun _ _ _ _ _ => pts_one (pt_cmpR (opNeU (K := K) hr.units) (pe_ix (ixU (K := K)) (pv 5) pe_int (fun _ _ => rfl)) pe_str (nomark _))) (fun _ _ _ _ _ => (pe_ix (ixU (K := K)) (pv 5) (pe_un un_neg pe_int) (fun _ _ => rfl))))
      (pss_one (ps_if (PW.pt (pw_and (pt_cmpR opNotU (pv 3) pe_non (nomark _)) (pw_and1 (pt_cmpR (opNinU (K := K) (hu65 hr)) (pe_ix (ixU (K := K)) (pv 2) pe_int (fun _ _ => rfl)) (pv 3) (by rfl))))) (pss_cons (ps_if (pt_cmpR (opNinU (K := K) (hu65 hr)) (pe_ix (ixU (K := K)) (pv 2) pe_int (fun _ _ => rfl)) (pv 4) (by rfl)) (pss_one (ps_ret (pe_tup (pa_cons pe_str (pa_cons (pv 1) pa_nil))))) pss_nil)
      (pss_one (ps_if (pt_cmpR (opNeU (K := K) hr.units) (pe_ix (ixU (K := K)) (pv 2) pe_int (fun _ _ => rfl)) pe_int (nomark _)) (pss_one (ps_ret (pe_tup (pa_cons pe_str (pa_cons (pv 1) pa_nil))))) pss_nil))) pss_nil)))) pss_nil))))
      (pss_one (ps_ret pe_non))), ?_⟩
    try dsimp only [cxOf]
    have hxl := hR.len
    have hlen := hR.2.2
    fail "go"
    refine g_lenL hR.1 ?_
    fail "go"
    refine g_R1W rfl (by omega) ?_
    refine for_range (lo := 0) (n := xs.length) (FkInv K H a rows) ⟨none, none, none, none, rfl, Same.refl H, rfl⟩ ?_ ?_
    · rintro i σ H1 hi ⟨x0, y0, z0, w0, rfl, s1, hf⟩
      rw [Int.zero_add]
      obtain ⟨r, hr⟩ : ∃ r, rows[i]? = some r := ⟨rows[i]'(by omega), List.getElem?_eq_getElem _⟩
      obtain ⟨x, hx, _, dx⟩ := hR.get hr
      obtain ⟨t, us, rfl, ht, h0, _⟩ := rowHead dx
      have next : ∀ (x y z w : Option V) (H' : Hp), Same H H' → lawBad rows i = none → FkInv K H a rows (i + 1) [some (.ref a), x, y, z, w, none] H' := fun x y z w H' s e => ⟨x, y, z, w, rfl, s, by rw [firstBad, hf, e]; rfl⟩
      have stop : ∀ (w : Str), lawBad rows i = some w → firstBad rows rows.length = some (w, i) := fun w e => firstBad_some (i := i + 1) (by omega) (by rw [firstBad, hf, e]; rfl)
      fail "go"
      refine g_ixL (sqL_mono s1 hR.1) hx ?_
      fail "go"
      refine g_ixT (sqT_mono s1 ht) h0 ?_
      fail "go"
      rw [tag_boot]
      refine g_iteB (fun e => ?_) (fun e => ?_)
      · cases r with
        | change b c => cases e
        | sure => cases e
        | boot f b c =>
          obtain ⟨t', u1, u2, v, et, ht, v1, v2, v3⟩ := dpT3 dx
          cases et
          obtain rfl := dp_str v1
          obtain rfl := dp_int v2
          fail "go"
          refine ⟨a, xs, rows, i, rfl, ⟨sqL_mono s1 hR.1, dpAll_mono s1 hR.2.1, hlen⟩, by omega, fun vl H2 s2 hl => ?_⟩
          have s12 := s1.trans s2
          fail "go"
          refine g_slL (sqL_mono s12 hR.1) ?_
          intro p np
          have s23 := (Gr.newM (M := []) (o := HO.lst (cutV xs none (some (i : Int)))) (Same.refl H2) np).same
          generalize hq3 : upd H2 p _ = H3 at s23
          have hp3 : H3 p = some (.lst (cutV xs none (some (i : Int)))) := by rw [← hq3]; exact upd_same
          have s13 := s12.trans s23
          have ecut : cutV xs none (some (i : Int)) = xs.take i := by
            unfold cutV
            rw [HT.sIx_none, HT.sIx_nat, List.drop_zero, Nat.sub_zero, Nat.min_eq_left (by omega)]
          rw [ecut] at hp3
          refine g_LsW (SqL.of hp3) fun D nD => ?_
          refine lc_list (K := K) (a := p) (xs := xs.take i) (fun j H' => Same H3 H' ∧ ∃ us, H' D = some (.lst us) ∧ DpAll K H us ((evers rows j).map sd)) ⟨(Gr.newM (M := []) (Same.refl H3) nD).same, [], upd_same, .nil⟩ (fun j H' _ ⟨s, _⟩ => SqL.of (s _ _ hp3)) ?_ ?_
          · rintro j x H4 hj ⟨s4, us4, h4, d4⟩
            have hji : j < i := by have := (List.getElem?_eq_some_iff.mp hj).1; simp at this; omega
            rw [List.getElem?_take_of_lt hji] at hj
            obtain ⟨r, hr'⟩ : ∃ r, rows[j]? = some r := ⟨rows[j]'(by omega), List.getElem?_eq_getElem _⟩
            obtain ⟨x', _, hx', dx'⟩ := hR.get hr'
            rw [hj] at hx'
            cases hx'
            obtain ⟨t4, vs4, rfl, ht4, h04, hlast⟩ := rowHead dx'
            have s14 := s13.trans s4
            have es := evers_succ hr'
            have el := evers_len rows j
            have ul := dpAll_len d4
            rw [List.length_map] at ul
            refine ⟨rfl, ?_⟩
            fail "go"
            refine g_ixT (sqT_mono s14 ht4) h04 ?_
            fail "go"
            refine g_iteN (fun e => ?_) (fun e => ?_)
            · have ns : r ≠ .sure := fun z => e ((tag_sure r).mpr z)
              obtain ⟨v4, c4, d4', hv, dv, hst⟩ := hlast ns
              fail "go"
              refine g_ixT (sqT_mono s14 ht4) hv ?_
              refine ⟨_, h4, ?_, ?_, _, upd_same, ?_⟩
              · have z : sizeLine = 16777216 := sizeLine_eq
                rw [ul, z]; omega
              · exact fun c o q => by rw [upd_ne (ne_of_none q nD)]; exact s4 c o q
              · rw [es, ever_step (acc := []) hst ns, List.map_append]
                exact dpAll_app d4 (.cons dv .nil)
            · refine ⟨s4, us4, h4, ?_⟩
              have er := (tag_sure r).mp e
              subst er
              rw [es]
              show DpAll K H us4 (List.map sd (evers rows j ++ []))
              rw [List.append_nil]
              exact d4
          rintro H4 ⟨s4, us4, h4, d4⟩
          have tl : (xs.take i).length = i := by rw [List.length_take]; omega
          rw [tl] at d4
          have s14 := s13.trans s4
          fail "go"
          have hbad : lawBad rows i = (match lawLet rows i with
            | some ss => if (b, c) ∈ ss then none else if (b, c) ∉ evers rows i then some "strange" else if f then none else some "lost"
            | none => none) := by rw [lawBad, hr]
          cases hll : lawLet rows i with
          | none =>
            rw [hll] at hl hbad
            obtain rfl : vl = .non := hl
            refine g_iteN (fun z => absurd rfl z) (fun _ => ?_)
            fail "go"
            exact next _ _ _ _ _ s14 hbad
          | some ss =>
            rw [hll] at hl hbad
            simp only [] at hbad
            obtain ⟨pl, ul, rfl, hpl, dpl⟩ := hl
            have hpl4 := s23.trans s4 _ _ hpl
            refine g_iteN (fun _ => ?_) (fun z => by cases z)
            fail "go"
            try refine g_ixT (sqT_mono s14 ht) (v := v) rfl ?_
            fail "go"
            refine g_nin (s := (b, c)) (dp_mono s14 v3) (SqL.of hpl4) (dpAll_mono (s23.trans s4) dpl) ?_
            fail "go"
            refine g_iteN (fun e1 => ?_) (fun e1 => ?_)
            · rw [if_neg e1] at hbad
              fail "go"
              try refine g_ixT (sqT_mono s14 ht) (v := v) rfl ?_
              fail "go"
              refine g_nin (s := (b, c)) (dp_mono s14 v3) (SqL.of h4) (dpAll_mono s14 d4) ?_
              fail "go"
              refine g_iteN (fun e2 => ?_) (fun e2 => ?_)
              · rw [if_pos e2] at hbad
                fail "go"
                refine ⟨by fail "sz", fun q nq => ?_⟩
                refine hq _ _ (s14.trans (Gr.newR (M := []) (Same.refl H4) nq).same) ?_
                rw [stop _ hbad]
                exact .tup (SqT.of upd_same) (.cons (.str _) (.cons (.int _) .nil))
              · rw [if_neg (fun z => z e2)] at hbad
                fail "go"
                try refine g_ixT (sqT_mono s14 ht) (v := .int (if f then 1 else 0)) rfl ?_
                fail "go"
                cases f with
                | true =>
                  rw [if_pos rfl]
                  refine g_iteN (fun z => absurd rfl z) (fun _ => ?_)
                  fail "go"
                  exact next _ _ _ _ _ s14 hbad
                | false =>
                  rw [if_neg Bool.false_ne_true]
                  refine g_iteN (fun _ => ?_) (fun z => absurd z (by decide))
                  fail "go"
                  refine ⟨by fail "sz", fun q nq => ?_⟩
                  refine hq _ _ (s14.trans (Gr.newR (M := []) (Same.refl H4) nq).same) ?_
                  rw [stop _ hbad]
                  exact .tup (SqT.of upd_same) (.cons (.str _) (.cons (.int _) .nil))
            · rw [if_pos e1] at hbad
              fail "go"
              exact next _ _ _ _ _ s14 hbad
      · fail "go"
        refine next _ _ _ _ _ s1 ?_
        rw [lawBad, hr]
        cases r with
        | boot f b c => cases e
        | change b c => rfl
        | sure => rfl
    · rintro σ H1 ⟨x0, y0, z0, w0, rfl, s1, hf⟩
      rw [hxl] at hf
      fail "go"
      refine hq _ _ s1 ?_
      rw [hf]
      exact .non
end
theorem boots_get {rows : List Row} {i : Nat} {r : Row} (hr : rows[i]? = some r) : boots rows (i + 1) = boots rows i ++ (if r.isBoot then [i] else []) := by
  rw [boots_succ, show bootAt rows i = r.isBoot by unfold bootAt; rw [hr]]
theorem lawLet_boot {rows : List Row} {i : Nat} {f a b : Bool} (hr : rows[i]? = some (.boot f a b)) : lawLet rows (i + 1) = some [(a, b)] := by
  unfold lawLet
  rw [boots_get hr, Row.isBoot, if_pos rfl, List.getLast?_append]
  show some (letStates rows i (i + 1)) = _
  rw [letStates_succ (Nat.le_refl i) hr, show letStates rows i i = [] by unfold letStates; simp]
  rfl
theorem lawLet_other {rows : List Row} {i : Nat} {r : Row} (hr : rows[i]? = some r) (hn : r.isBoot = false) : lawLet rows (i + 1) = (lawLet rows i).map fun l => letStep l r := by
  unfold lawLet
  rw [boots_get hr, hn, if_neg Bool.false_ne_true, List.append_nil]
  cases e : (boots rows i).getLast? with
  | none => rfl
  | some b =>
    have hb : b < i := by
      have hm : b ∈ boots rows i := List.mem_of_getLast? e
      exact List.mem_range.mp (List.mem_filter.mp hm).1
    show some (letStates rows b (i + 1)) = some (letStep (letStates rows b i) r)
    rw [letStates_succ (by omega) hr]
theorem bad_boot {rows : List Row} {i su : Nat} {f a b : Bool} {kn : List (Bool × Bool)} (hr : rows[i]? = some (.boot f a b)) (hl : lawLet rows i = if kn.length = 0 then none else some (kn.drop su)) : lawBad rows i = bootFault kn su (evers rows i) f (a, b) := by
  rw [lawBad, hr, hl, bootFault]
  by_cases h0 : kn.length = 0
  · simp [h0]
  · simp [h0]
theorem bad_other {rows : List Row} {i : Nat} {r : Row} (hr : rows[i]? = some r) (hn : r.isBoot = false) : lawBad rows i = none := by
  rw [lawBad, hr]
  cases r <;> first | rfl | cases hn
/-- the two readings of a record agree -/
theorem two_faults (rows : List Row) (hb : headBoot rows = true) : ∀ (k i : Nat) (kn : List (Bool × Bool)) (su : Nat) (ev : List (Bool × Bool)), rows.length - i = k → i ≤ rows.length → firstBad rows i = none → ev = evers rows i →
    (lawLet rows i = if kn.length = 0 then none else some (kn.drop su)) → (i = 0 ∨ kn.length ≠ 0) → (kn.length ≠ 0 → su < kn.length) → recFault (rows.drop i) i kn su ev = firstBad rows rows.length := by
  intro k
  induction k with
  | zero =>
    intro i kn su ev hk hi hf _ _ _ _
    have : i = rows.length := by omega
    subst this
    rw [List.drop_length, recFault, hf]
  | succ k ih =>
    intro i kn su ev hk hi hf he hl h0 hs
    have hil : i < rows.length := by omega
    obtain ⟨r, hr⟩ : ∃ r, rows[i]? = some r := ⟨rows[i], List.getElem?_eq_getElem hil⟩
    have hdrop : rows.drop i = r :: rows.drop (i + 1) := by
      obtain ⟨h1, h2⟩ := List.getElem?_eq_some_iff.mp hr
      rw [← h2]; exact List.drop_eq_getElem_cons h1
    rw [hdrop]
    have es := evers_succ hr
    have fb : ∀ {x}, lawBad rows i = some x → firstBad rows rows.length = some (x, i) := fun e => firstBad_some (i := i + 1) (by omega) (by rw [firstBad, hf, e]; rfl)
    have fn : lawBad rows i = none → firstBad rows (i + 1) = none := fun e => by rw [firstBad, hf, e]; rfl
    cases r with
    | boot f a b =>
      have hbad := bad_boot hr hl
      rw [recFault, he]
      cases hbf : bootFault kn su (evers rows i) f (a, b) with
      | some x => exact (fb (hbad.trans hbf)).symm
      | none =>
        refine ih (i + 1) _ _ _ (by omega) (by omega) (fn (hbad.trans hbf)) (by rw [es]; rfl) ?_ (.inr (by simp)) (fun _ => by simp)
        rw [lawLet_boot hr]; rfl
    | change a b =>
      have hk0 : kn.length ≠ 0 := by
        rcases h0 with rfl | h
        · rw [List.drop_zero] at hdrop; rw [hdrop] at hb; cases hb
        · exact h
      rw [recFault, he]
      refine ih (i + 1) _ _ _ (by omega) (by omega) (fn (bad_other hr rfl)) (by rw [es]; rfl) ?_ (.inr (by simp)) (fun _ => ?_)
      · rw [lawLet_other hr rfl, hl, if_neg hk0, if_neg (by simp)]
        have := hs hk0
        show some (letStep (kn.drop su) (.change a b)) = _
        rw [letStep, List.drop_append_of_le_length (by omega)]
      · have := hs hk0; simp; omega
    | sure =>
      have hk0 : kn.length ≠ 0 := by
        rcases h0 with rfl | h
        · rw [List.drop_zero] at hdrop; rw [hdrop] at hb; cases hb
        · exact h
      rw [recFault, he]
      have := hs hk0
      refine ih (i + 1) _ _ _ (by omega) (by omega) (fn (bad_other hr rfl)) (by rw [es]; show _ = _ ++ []; rw [List.append_nil]) ?_ (.inr hk0) (fun _ => by omega)
      rw [lawLet_other hr rfl, hl, if_neg hk0, if_neg hk0]
      show some (letStep (kn.drop su) .sure) = _
      rw [letStep, List.drop_drop, List.length_drop]
      congr 2
      omega
theorem faults_agree (rows : List Row) (hb : headBoot rows = true) : recFault rows 0 [] 0 [] = firstBad rows rows.length := by
  have := two_faults rows hb rows.length 0 [] 0 [] rfl (Nat.zero_le _) rfl rfl rfl (.inl rfl) (fun z => absurd rfl z)
  rwa [List.drop_zero] at this
theorem row_ok : ∀ r : Row, r.d.canLay0 = true ∧ r.d.depth ≤ 60 ∧ clean r.d = true := by
  rintro (⟨f, a, b⟩ | ⟨a, b⟩ | _)
  · cases f <;> cases a <;> cases b <;> decide +kernel
  · cases a <;> cases b <;> decide +kernel
  · decide +kernel
theorem rows_shaped (rows : List Row) : PySem.SeqAt.shaped (.list (rows.map Row.d)) = true := by
  refine shaped_list fun d hd => ?_
  obtain ⟨r, _, rfl⟩ := List.mem_map.mp hd
  exact ⟨(row_ok r).1, (row_ok r).2.1⟩
theorem rows_clean : ∀ rows : List Row, cleanAll (rows.map Row.d) = true
  | [] => rfl
  | r :: rs => by rw [List.map_cons, cleanAll, (row_ok r).2.2, rows_clean rs]; rfl
theorem eqv_self {d : PyData} (h : clean d = true) : PyData.eqv d d = true := (eqv_iff h h).mpr rfl
theorem lawBad_ok {rows : List Row} {i : Nat} {x : Str} (h : lawBad rows i = some x) : x = "strange" ∨ x = "lost" := by
  unfold lawBad at h
  repeat' split at h
  all_goals first | (cases h; first | exact .inl rfl | exact .inr rfl) | cases h
theorem firstBad_ok {rows : List Row} {x : Str} {i : Nat} : ∀ {n : Nat}, firstBad rows n = some (x, i) → x = "strange" ∨ x = "lost"
  | 0, h => by cases h
  | n + 1, h => by
    rw [firstBad] at h
    cases e : firstBad rows n with
    | some z => rw [e] at h; cases h; exact firstBad_ok e
    | none =>
      rw [e] at h
      obtain ⟨y, hy, e2⟩ := Option.map_eq_some_iff.mp h
      cases e2
      exact lawBad_ok hy
theorem resD_shaped (rows : List Row) (n : Nat) : PySem.SeqAt.shaped (resD (firstBad rows n)) = true ∧ clean (resD (firstBad rows n)) = true := by
  cases e : firstBad rows n with
  | none => exact ⟨by decide +kernel, rfl⟩
  | some z =>
    obtain ⟨x, i⟩ := z
    have h : PyData.strOk x = true := by rcases firstBad_ok e with rfl | rfl <;> decide +kernel
    exact ⟨by simp [resD, PySem.SeqAt.shaped, PyData.canLay0, PyData.canLayAll0, PyData.depth, PyData.depthAll, h], rfl⟩
theorem g_neSame {K : PySem.W.Frag} {H : Hp} {Q : VK} {v w : V} {d : PyData} (hv : Dp K H v d) (hw : Dp K H w d) (hd : PySem.SeqAt.shaped d = true ∧ clean d = true) (hn : (∃ a, v = .ref a) ∨ v = .non) (q : Q (.bl false) H) : rNeU K v w H Q := by
  have : rNeD K v w H Q := ⟨d, d, hv, hw, hd.1, hd.1, by rw [eqv_self hd.2]; exact q⟩
  rcases hn with ⟨a, rfl⟩ | rfl <;> exact this
theorem resD_v {K : PySem.W.Frag} {H : Hp} {v : V} {o : Option (Str × Nat)} (h : Dp K H v (resD o)) : (∃ a us, v = .ref a ∧ SqT K H a us) ∨ v = .non := by
  rcases o with _ | ⟨x, i⟩
  · exact .inr (dp_non h)
  · obtain ⟨a, us, rfl, hs, _⟩ := dp_tup h; exact .inl ⟨a, us, rfl, hs⟩
theorem resD_v' {K : PySem.W.Frag} {H : Hp} {v : V} {o : Option (Str × Nat)} (h : Dp K H v (resD o)) : (∃ a, v = .ref a) ∨ v = .non := by
  rcases resD_v h with ⟨a, _, e, _⟩ | e
  · exact .inl ⟨a, e⟩
  · exact .inr e
theorem headBoot_all {rows : List Row} (h : ∀ r ∈ rows, r.isBoot = true) : headBoot rows = true := by
  rcases rows with _ | ⟨r, rs⟩
  · rfl
  · have := h r List.mem_cons_self
    cases r <;> first | rfl | cases this
/-- the rows drawn so far, inside the comprehension -/
def RowsInv (K : PySem.W.Frag) (R : Hp) (b D : Addr) (j : Nat) (H : Hp) : Prop := ∃ (R' : Hp) (us : List V) (rows : List Row) (m : Int), Same R R' ∧ Same R' H ∧ R' b = none ∧ H b = some (.lst [.int m]) ∧ R' D = none ∧ H D = some (.lst us) ∧ DpAll K R' us (rows.map Row.d) ∧ rows.length = j
def LawInv (a : Addr) (R : Hp) (_ : Nat) (σ : St) (H : Hp) : Prop := ∃ x1 x2 x3 x4 x5 x6 x7 : Option V, σ = [some (.ref a), x1, x2, x3, x4, x5, x6, x7] ∧ Same R H
def LMid (K : PySem.W.Frag) (R : Hp) (a : Addr) (i : Nat) (b : Addr) (σ : St) (H : Hp) : Prop := ∃ (x4 x5 x6 x7 : Option V) (p : Addr) (us : List V) (rows : List Row), σ = [some (.ref a), some (.int (i : Int)), some (.ref b), some (.ref p), x4, x5, x6, x7] ∧ Same R H ∧ H p = some (.lst us) ∧ DpAll K H us (rows.map Row.d) ∧ rows.length ≤ 14 ∧ headBoot rows = true
def filt (rows : List Row) (j : Nat) : List Row := (rows.take j).filter Row.isBoot
theorem filt_succ {rows : List Row} {j : Nat} {r : Row} (hr : rows[j]? = some r) : filt rows (j + 1) = filt rows j ++ (if r.isBoot then [r] else []) := by
  unfold filt
  rw [List.take_add_one, hr, List.filter_append]
  congr 1
  by_cases h : r.isBoot = true <;> simp [h]
theorem filt_len (rows : List Row) (j : Nat) : (filt rows j).length ≤ rows.length := by
  unfold filt
  refine Nat.le_trans (List.length_filter_le _ _) ?_
  rw [List.length_take]; omega
def FiltInv (K : PySem.W.Frag) (R : Hp) (E : Addr) (rows : List Row) (j : Nat) (H : Hp) : Prop := Same R H ∧ ∃ us, H E = some (.lst us) ∧ DpAll K R us ((filt rows j).map Row.d)
theorem ixN_zero {n : Nat} (h : 0 < n) : ixN n 0 = some 0 := by
  unfold ixN
  simp [h]
def spLaw (K : PySem.W.Frag) : Sp := fun vs H Q _ => ∃ (a : Addr) (ns : List Int), vs = [.ref a] ∧ SqL K H a (ns.map V.int) ∧ ns.length ≤ 63 ∧ ∀ H', Q (.bl true) H'
section
variable {P : Program} {w : World} {K : PySem.W.Frag} {mg : Str → Option Value} {base : Heap}
theorem ok_law (T : Txt K mg) : FnOk P w K mg base CX0 4 T.f_law T.fd_law ["script"] (spLaw K) := by
  have G__law_number := ok__law_number (P := P) (w := w) (base := base) T
  have G__law_take := ok__law_take (P := P) (w := w) (base := base) T
  have G__law_row := ok__law_row (P := P) (w := w) (base := base) T
  have G__law_state := ok__law_state (P := P) (w := w) (base := base) T
  have G_fault_of_record := ok_fault_of_record (P := P) (w := w) (base := base) T
  have G__law_fault := ok__law_fault (P := P) (w := w) (base := base) T
  refine T.F_law.ok sc_law (fun vs H Q E h => ?_) (fun cdv A outer s H vs Q E hr h => ?_)
  · obtain ⟨a, ns, rfl, hS, hlen, hq⟩ := h
    rfl
  · obtain ⟨a, ns, rfl, hS, hlen, hq⟩ := h
    refine ⟨_, (pss_cons (ps_for PassesOwn.never rfl (pi_range1 rfl T.n_range (pa_cons pe_int pa_nil)) (pg_name (i := 1) sc_law.nd rfl (by first | exact Or.inl rfl | exact Or.inr rfl)) (pss_cons (ps_set (i := 2) sc_law.nd rfl (by first | exact Or.inl rfl | exact Or.inr rfl) (pe_lst (pa_cons (pe_call G__law_number (hr.mono (by decide)) rfl T.g__law_number T.F__law_number.kp T.b__law_number .nil pass0 (pa_cons (pv 0) (pa_cons (pe_op opMultU pe_int (pv 1)) pa_nil))) pa_nil)))
      (pss_cons (ps_setLc (i := 3) (own := [("k", 6)]) (g := gName 6) (tt := tYes) rfl sc_law.nd rfl rfl (sw_true rfl rfl rfl (by decide +kernel)) (pi_range1 rfl T.n_range (pa_cons (pe_call G__law_take (hr.mono (by decide)) rfl T.g__law_take T.F__law_take.kp T.b__law_take .nil pass0 (pa_cons (pv 2) (pa_cons pe_int pa_nil))) pa_nil)) (blkOk_by (N := N_law) (sc := defScope s_law) (by decide +kernel)) (fun _ _ _ _ _ => (pg_name (i := 6) sc_law.nd rfl (by first | exact Or.inl rfl | exact Or.inr rfl))) (fun _ _ _ _ _ => pts_nil) (fun _ _ _ _ _ => (pe_call G__law_row (hr.mono (by decide)) rfl T.g__law_row T.F__law_row.kp T.b__law_row .nil pass0 (pa_cons (pe_lst (pa_cons (pe_call G__law_number (hr.mono (by decide)) rfl T.g__law_number T.F__law_number.kp T.b__law_number .nil pass0 (pa_cons (pv 0) (pa_cons (pe_op (opAddU (K := K)) (pe_op (opAddU (K := K)) (pe_op opMultU pe_int (pv 1)) pe_int) (pv 6)) pa_nil))) pa_nil)) pa_nil))))
      (pss_cons (ps_if (PW.pt (pw_and (pt_cmpR op_gt (pe_callB (callLenU (K := K)) (by rfl) T.n_len (by decide +kernel) (pa_cons (pv 3) pa_nil)) pe_int (nomark _)) (pw_and1 (pt_cmpR op_gt (pe_call G__law_take (hr.mono (by decide)) rfl T.g__law_take T.F__law_take.kp T.b__law_take .nil pass0 (pa_cons (pv 2) (pa_cons pe_int pa_nil))) pe_int (nomark _))))) (pss_one (ps_asg (pe_tup (pa_cons pe_str (pa_cons pe_int (pa_cons (pe_call G__law_state (hr.mono (by decide)) rfl T.g__law_state T.F__law_state.kp T.b__law_state .nil pass0 (pa_cons (pv 2) pa_nil)) pa_nil)))) (pg_sub (pv 3) pe_int set_list))) (pss_one (ps_setLc (i := 3) (own := [("row", 7)]) (g := gName 7) (tt := _) rfl sc_law.nd rfl rfl (sw_true rfl rfl rfl (by decide +kernel)) (pi_listK (K := K) (pv 3)) (blkOk_by (N := N_law) (sc := defScope s_law) (by decide +kernel)) (fun _ _ _ _ _ => (pg_name (i := 7) sc_law.nd rfl (by first | exact Or.inl rfl | exact Or.inr rfl))) (fun _ _ _ _ _ => pts_one (pt_cmpR (opEqU (K := K) hr.units) (pe_ix (ixU (K := K)) (pv 7) pe_int (fun _ _ => rfl)) pe_str (nomark _))) (fun _ _ _ _ _ => (pv 7)))))
      (pss_cons (ps_set (i := 4) sc_law.nd rfl (by first | exact Or.inl rfl | exact Or.inr rfl) (pe_callTy (callListU (K := K)) (by rfl) T.n_list (by decide +kernel) (pa_cons (pv 3) pa_nil)))
      (pss_cons (ps_set (i := 5) sc_law.nd rfl (by first | exact Or.inl rfl | exact Or.inr rfl) (pe_call G_fault_of_record (hr.mono (by decide)) rfl T.g_fault_of_record T.F_fault_of_record.kp T.b_fault_of_record .nil pass0 (pa_cons (pv 4) pa_nil)))
      (pss_one (ps_if (PW.pt (pw_or (pt_cmpR (opNeU (K := K) hr.units) (pv 5) (pe_call G__law_fault (hr.mono (by decide)) rfl T.g__law_fault T.F__law_fault.kp T.b__law_fault .nil pass0 (pa_cons (pv 3) pa_nil)) (nomark _)) (pw_or (pt_cmpR (opNeU (K := K) hr.units) (pv 4) (pv 3) (nomark _)) (pw_or1 (PW.pt (pw_and (pt_cmpR opNotU (pv 5) pe_non (nomark _)) (pw_and1 (pt_not (pt_truthK (K := K) (pe_callB (callIsU (K := K)) (by rfl) T.n_isinstance (by decide +kernel) (pa_cons (pv 5) (pa_cons (pe_bltn (v := .ty "tuple") (by rfl) T.n_tuple (by decide +kernel) rfl) pa_nil))) (by intro _; rfl)))))))))) (pss_one (ps_ret pe_bl)) pss_nil))))))))
      (pss_one (ps_ret pe_bl))), ?_⟩
    try dsimp only [cxOf]
    fail "go"
    refine g_R1W (n := 20) rfl (by omega) ?_
    refine for_range (lo := 0) (n := 20) (LawInv a H) ⟨none, none, none, none, none, none, none, rfl, Same.refl H⟩ ?_ ?_
    · rintro i σ H1 hi ⟨x1, x2, x3, x4, x5, x6, x7, rfl, s1⟩
      rw [Int.zero_add]
      have r1 := Same.refl H1
      fail "go"
      refine ⟨_, _, _, rfl, sqL_mono s1 hS, by omega, ?_⟩
      fail "go"
      refine ⟨by fail "sz", ?_⟩
      fail "newM"
      rename_i b H2 n2 g2 m2 h2 s2
      fail "go"
      fail "mut"
      rename_i H3 g3 h3 s3
      generalize hN : lawNumber ns (20 * (i : Int)) = N at *
      refine g_R1W (n := (N % 15).toNat) (by omega) (by omega) ?_
      intro D nD
      have b3 : H1 b = none := m2
      have hDb : b ≠ D := ne_of_none h3 nD
      refine lc_range (lo := 0) (n := (N % 15).toNat) (RowsInv K H1 b D) ⟨H1, [], [], _, Same.refl H1, (Gr.newM (M := []) s3 nD).rh, m2, by rw [upd_ne hDb]; exact h3, s3.free nD, upd_same, .nil, rfl⟩ ?_ ?_
      · rintro j H4 hj ⟨R4, us, rows, m, s14, s4, b4, hb4, d4, hd4, dd, ll⟩
        rw [Int.zero_add]
        refine ⟨rfl, ?_⟩
        have s04 := s1.trans (s14.trans s4)
        have s4x := s4
        fail "go"
        refine ⟨_, _, _, rfl, sqL_mono s04 hS, by omega, ?_⟩
        fail "go"
        refine ⟨by fail "sz", ?_⟩
        fail "newM"
        rename_i p H5 n5 g5 m5 h5 s5
        fail "go"
        refine ⟨R4, p, _, rfl, s5, m5, h5, fun r v R6 H6 g6 h6 d6 => ?_⟩
        have hpb : b ≠ p := ne_of_none hb4 n5
        have hpD : D ≠ p := ne_of_none hd4 n5
        have hb5 := g5.g.hh _ _ (by simp) hb4
        have hd5 := g5.g.hh _ _ (by simp) hd4
        have hb6 := g6.hh _ _ (by simpa using hpb) hb5
        have hd6 := g6.hh _ _ (by simpa using hpD) hd5
        have rb6 := g6.fr _ _ hb5 b4
        have rd6 := g6.fr _ _ hd5 d4
        have ul := dpAll_len dd
        rw [List.length_map] at ul
        refine ⟨us, hd6, ?_, R6, us ++ [v], rows ++ [r], m, s14.trans g6.rr, (Gr.mut g6.rh rd6 hd6).rh, rb6, by rw [upd_ne hDb]; exact hb6, rd6, upd_same, ?_, by simp [ll]⟩
        · have z : sizeLine = 16777216 := sizeLine_eq
          rw [z]; omega
        · rw [List.map_append]
          exact dpAll_app (dpAll_mono g6.rr dd) (.cons d6 .nil)
      rintro H4 ⟨R4, us, rows, m, s14, s4, b4, hb4, d4, hd4, dd, ll⟩
      have n15 := Int.emod_lt_of_pos N (show (0 : Int) < 15 by decide)
      have hl : rows.length ≤ 14 := by omega
      have s04 := s1.trans (s14.trans s4)
      have s4x := s4
      refine g_seqIP (LMid K H a i b) ?_ (fun rest => ?_)
      · rintro σ H5 ⟨x4, x5, x6, x7, p, us, rows, rfl, s5, h5, d5, l5, hb5⟩
        fail "go"
        refine g_listL (SqL.of h5) fun q nq => ?_
        have s56 := (Gr.newM (M := []) (o := HO.lst us) (Same.refl H5) nq).same
        generalize hH6 : upd H5 q _ = H6 at s56
        have h6 : H6 q = some (.lst us) := by rw [← hH6]; exact upd_same
        fail "go"
        refine ⟨q, us, rows, rfl, SqL.of h6, dpAll_mono s56 d5, l5, hb5, fun v H7 s67 d7 => ?_⟩
        have s57 := s56.trans s67
        fail "go"
        refine ⟨p, us, rows, rfl, ⟨SqL.of (s57 _ _ h5), dpAll_mono s57 d5, l5⟩, fun w H8 s78 d8 => ?_⟩
        have s58 := s57.trans s78
        have s68 := s67.trans s78
        rw [faults_agree rows hb5] at d7
        have d7' := dp_mono s78 d7
        refine g_neSame d7' d8 (resD_shaped rows _) (resD_v' d7') ?_
        fail "go"
        refine g_neSame (.lst (SqL.of (s68 _ _ h6)) (dpAll_mono s58 d5)) (.lst (SqL.of (s58 _ _ h5)) (dpAll_mono s58 d5)) ⟨rows_shaped rows, by rw [clean]; exact rows_clean rows⟩ (.inl ⟨_, rfl⟩) ?_
        fail "go"
        rcases resD_v d7' with ⟨t, ts, rfl, ht⟩ | rfl
        · fail "go"
          refine g_isi (ty_tup ht) (kit_ty (r := true) (by decide +kernel)) ?_
          refine ⟨true, rfl, ?_⟩
          fail "go"
          exact ⟨_, _, _, _, _, _, _, rfl, s5.trans s58⟩
        · fail "go"
          exact ⟨_, _, _, _, _, _, _, rfl, s5.trans s58⟩
      have ul : us.length = rows.length := by have := dpAll_len dd; simpa using this
      fail "go"
      refine g_ite (fun e1 => ?_) (fun e1 => ?_)
      · fail "go"
        generalize hq5 : upd H4 b _ = H5
        obtain ⟨g5, h5, s5⟩ := mut_ex s4x b4 hb4 hq5
        have hd5 : H5 D = some (.lst us) := g5.g.hh _ _ (by simpa using hDb.symm) hd4
        have ddX := dpAll_mono s5 dd
        have hdX := hd5
        have s0X := s1.trans (s14.trans s5)
        have s5x := s5
        fail "go"
        refine g_ite (fun e2 => ?_) (fun e2 => ?_)
        · fail "go"
          intro v R6 H6 g6 h6 dv
          have hd6 : H6 D = some (.lst us) := g6.hh _ _ (by simpa using hDb.symm) hd5
          have s6 := g6.rh
          have r6 := g6.fr _ _ hd5 d4
          have s16 := s1.trans (s14.trans g6.rr)
          have s6x := s6
          fail "go"
          refine ⟨by fail "sz", ?_⟩
          intro p np
          generalize hq7 : upd H6 p _ = H7
          obtain ⟨R7, f7, g7, h7, s7⟩ := newR_ex s6x np hq7
          have hd7 : H7 D = some (.lst us) := g7.hh _ _ (by simp) hd6
          have r7 := g7.fr _ _ hd6 r6
          fail "go"
          refine g_setL (j := 0) hd7 (ixN_zero (by omega)) ?_
          generalize hq8 : upd H7 D _ = H8
          obtain ⟨g8, h8, s8⟩ := mut_ex s7 r7 hd7 hq8
          refine rest _ _ ⟨_, _, _, _, D, _, rows.set 0 (.boot false (decide (m / 4 % 2 = 1)) (decide (m / 4 / 2 % 2 = 1))), rfl, s16.trans (g7.rr.trans s8), h8, ?_, by simpa using hl, ?_⟩
          · rw [List.map_set]
            refine dpAll_set 0 (dpAll_mono (g6.rr.trans (g7.rr.trans s8)) dd) ?_
            unfold Row.d
            exact .tup (SqT.of (s8 _ _ h7)) (.cons (.str _) (.cons (.int _) (.cons (dp_mono (g7.rr.trans s8) dv) .nil)))
          · cases rows with
            | nil => rw [ul] at e1; exact absurd e1 (by decide)
            | cons r rs => rfl
        · fail "go"
          refine g_LsW (SqL.of hdX) fun E nE => ?_
          have hDE : D ≠ E := ne_of_none hdX nE
          refine lc_list (K := K) (a := D) (xs := us) (FiltInv K H5 E rows) ⟨(Gr.newM (M := []) (Same.refl H5) nE).same, [], upd_same, .nil⟩ (fun j H' _ ⟨s, _⟩ => SqL.of (s _ _ hdX)) ?_ ?_
          · rintro j x H7 hj ⟨s7, us7, h7, d7⟩
            obtain ⟨r, hr'⟩ : ∃ r, rows[j]? = some r := ⟨rows[j]'(by have := (List.getElem?_eq_some_iff.mp hj).1; omega), List.getElem?_eq_getElem _⟩
            have e1 : (rows.map Row.d)[j]? = some r.d := by rw [List.getElem?_map, hr']; rfl
            obtain ⟨x', hx', dx'⟩ := dpAll_get ddX e1
            rw [hj] at hx'
            cases hx'
            obtain ⟨t7, vs7, rfl, ht7, h07, _⟩ := rowHead dx'
            have es := filt_succ hr'
            have el := filt_len rows j
            have ul7 := dpAll_len d7
            rw [List.length_map] at ul7
            refine ⟨rfl, ?_⟩
            fail "go"
            refine g_ixT (sqT_mono s7 ht7) h07 ?_
            fail "go"
            rw [tag_boot]
            refine g_iteB (fun e => ?_) (fun e => ?_)
            · fail "go"
              refine ⟨_, h7, ?_, ?_, _, upd_same, ?_⟩
              · have z : sizeLine = 16777216 := sizeLine_eq
                rw [ul7, z]; omega
              · exact fun c o q => by rw [upd_ne (ne_of_none q nE)]; exact s7 c o q
              · rw [es, if_pos e, List.map_append]
                exact dpAll_app d7 (.cons dx' .nil)
            · refine ⟨s7, us7, h7, ?_⟩
              rw [es, if_neg (by rw [e]; exact Bool.false_ne_true), List.append_nil]
              exact d7
          rintro H7 ⟨s7, us7, h7, d7⟩
          refine rest _ _ ⟨_, _, _, _, E, us7, filt rows us.length, rfl, s0X.trans s7, h7, dpAll_mono s7 d7, ?_, headBoot_all fun r hm => (List.mem_filter.mp hm).2⟩
          have := filt_len rows us.length
          omega
      · have ddX := dpAll_mono s4 dd
        have hdX := hd4
        have s0X := s04
        fail "go"
        refine g_LsW (SqL.of hdX) fun E nE => ?_
        have hDE : D ≠ E := ne_of_none hdX nE
        refine lc_list (K := K) (a := D) (xs := us) (FiltInv K H4 E rows) ⟨(Gr.newM (M := []) (Same.refl H4) nE).same, [], upd_same, .nil⟩ (fun j H' _ ⟨s, _⟩ => SqL.of (s _ _ hdX)) ?_ ?_
        · rintro j x H7 hj ⟨s7, us7, h7, d7⟩
          obtain ⟨r, hr'⟩ : ∃ r, rows[j]? = some r := ⟨rows[j]'(by have := (List.getElem?_eq_some_iff.mp hj).1; omega), List.getElem?_eq_getElem _⟩
          have e1 : (rows.map Row.d)[j]? = some r.d := by rw [List.getElem?_map, hr']; rfl
          obtain ⟨x', hx', dx'⟩ := dpAll_get ddX e1
          rw [hj] at hx'
          cases hx'
          obtain ⟨t7, vs7, rfl, ht7, h07, _⟩ := rowHead dx'
          have es := filt_succ hr'
          have el := filt_len rows j
          have ul7 := dpAll_len d7
          rw [List.length_map] at ul7
          refine ⟨rfl, ?_⟩
          fail "go"
          refine g_ixT (sqT_mono s7 ht7) h07 ?_
          fail "go"
          rw [tag_boot]
          refine g_iteB (fun e => ?_) (fun e => ?_)
          · fail "go"
            refine ⟨_, h7, ?_, ?_, _, upd_same, ?_⟩
            · have z : sizeLine = 16777216 := sizeLine_eq
              rw [ul7, z]; omega
            · exact fun c o q => by rw [upd_ne (ne_of_none q nE)]; exact s7 c o q
            · rw [es, if_pos e, List.map_append]
              exact dpAll_app d7 (.cons dx' .nil)
          · refine ⟨s7, us7, h7, ?_⟩
            rw [es, if_neg (by rw [e]; exact Bool.false_ne_true), List.append_nil]
            exact d7
        rintro H7 ⟨s7, us7, h7, d7⟩
        refine rest _ _ ⟨_, _, _, _, E, us7, filt rows us.length, rfl, s0X.trans s7, h7, dpAll_mono s7 d7, ?_, headBoot_all fun r hm => (List.mem_filter.mp hm).2⟩
        have := filt_len rows us.length
        omega
    · rintro σ H1 ⟨x1, x2, x3, x4, x5, x6, x7, rfl, s1⟩
      fail "go"
      exact hq _
end
theorem all_mk {l : PySem.W.OpenLaw} {w : World} {K : PySem.W.Frag} {h : Heap} {mg : Str → Option Value} {fa C_Story f__law_number f__law_take f__law_state f__law_row f_Story___init__ f_Story_fault_of_boot f_Story_begin f_Story_change f_Story_make_sure f_fault_of_record f__law_let f__law_fault f_law : Addr} {t_BOOT t_CHANGE : Tok} (X : K.In h) (G : h.Ns mainGlobals mg) (hfa : mg "law" = some (.ref fa))
    {od0 an0 : Option Addr} {sl0 : Array (Option Value)} {oc0 kV0 dc0 pm0 cd0 ct0 : Value}
    {od1 an1 : Option Addr} {sl1 : Array (Option Value)} {oc1 kV1 dc1 pm1 cd1 ct1 : Value}
    {od2 an2 : Option Addr} {sl2 : Array (Option Value)} {oc2 kV2 dc2 pm2 cd2 ct2 : Value}
    {od3 an3 : Option Addr} {sl3 : Array (Option Value)} {oc3 kV3 dc3 pm3 cd3 ct3 : Value}
    {od4 an4 : Option Addr} {sl4 : Array (Option Value)} {oc4 kV4 dc4 pm4 cd4 ct4 : Value}
    {od5 an5 : Option Addr} {sl5 : Array (Option Value)} {oc5 kV5 dc5 pm5 cd5 ct5 : Value}
    {od6 an6 : Option Addr} {sl6 : Array (Option Value)} {oc6 kV6 dc6 pm6 cd6 ct6 : Value}
    {od7 an7 : Option Addr} {sl7 : Array (Option Value)} {oc7 kV7 dc7 pm7 cd7 ct7 : Value}
    {od8 an8 : Option Addr} {sl8 : Array (Option Value)} {oc8 kV8 dc8 pm8 cd8 ct8 : Value}
    {od9 an9 : Option Addr} {sl9 : Array (Option Value)} {oc9 kV9 dc9 pm9 cd9 ct9 : Value}
    {od10 an10 : Option Addr} {sl10 : Array (Option Value)} {oc10 kV10 dc10 pm10 cd10 ct10 : Value}
    {od11 an11 : Option Addr} {sl11 : Array (Option Value)} {oc11 kV11 dc11 pm11 cd11 ct11 : Value}
    {od12 an12 : Option Addr} {sl12 : Array (Option Value)} {oc12 kV12 dc12 pm12 cd12 ct12 : Value}
    (a0 : PySem.W.nsIn K mainGlobals "_law_number" = some (some (.ref f__law_number)))
    (l0 : K.lookup f__law_number = some ⟨oc0, od0, .func (PySem.W.fnOf "_law_number" "_law_number" (defArgs s__law_number) (defBody s__law_number) (defScope s__law_number) .none kV0 dc0 pm0 an0 cd0 ct0), sl0⟩)
    (c0 : PySem.W.codeIn K cd0 "_law_number" = true)
    (k0 : PySem.W.keepIn K (.ref f__law_number) = true)
    (a1 : PySem.W.nsIn K mainGlobals "_law_take" = some (some (.ref f__law_take)))
    (l1 : K.lookup f__law_take = some ⟨oc1, od1, .func (PySem.W.fnOf "_law_take" "_law_take" (defArgs s__law_take) (defBody s__law_take) (defScope s__law_take) .none kV1 dc1 pm1 an1 cd1 ct1), sl1⟩)
    (c1 : PySem.W.codeIn K cd1 "_law_take" = true)
    (k1 : PySem.W.keepIn K (.ref f__law_take) = true)
    (a2 : PySem.W.nsIn K mainGlobals "_law_state" = some (some (.ref f__law_state)))
    (l2 : K.lookup f__law_state = some ⟨oc2, od2, .func (PySem.W.fnOf "_law_state" "_law_state" (defArgs s__law_state) (defBody s__law_state) (defScope s__law_state) .none kV2 dc2 pm2 an2 cd2 ct2), sl2⟩)
    (c2 : PySem.W.codeIn K cd2 "_law_state" = true)
    (k2 : PySem.W.keepIn K (.ref f__law_state) = true)
    (a3 : PySem.W.nsIn K mainGlobals "_law_row" = some (some (.ref f__law_row)))
    (l3 : K.lookup f__law_row = some ⟨oc3, od3, .func (PySem.W.fnOf "_law_row" "_law_row" (defArgs s__law_row) (defBody s__law_row) (defScope s__law_row) .none kV3 dc3 pm3 an3 cd3 ct3), sl3⟩)
    (c3 : PySem.W.codeIn K cd3 "_law_row" = true)
    (k3 : PySem.W.keepIn K (.ref f__law_row) = true)
    (a4 : PySem.W.findIn K (.ref C_Story) "__init__" = some (some (.ref f_Story___init__)))
    (i4 : PySem.W.isFn K (.ref f_Story___init__) = true)
    (l4 : K.lookup f_Story___init__ = some ⟨oc4, od4, .func (PySem.W.fnOf "__init__" "Story.__init__" (defArgs s_Story___init__) (defBody s_Story___init__) (defScope s_Story___init__) .none kV4 dc4 pm4 an4 cd4 ct4), sl4⟩)
    (c4 : PySem.W.codeIn K cd4 "Story.__init__" = true)
    (k4 : PySem.W.keepIn K (.ref f_Story___init__) = true)
    (a5 : PySem.W.findIn K (.ref C_Story) "fault_of_boot" = some (some (.ref f_Story_fault_of_boot)))
    (i5 : PySem.W.isFn K (.ref f_Story_fault_of_boot) = true)
    (l5 : K.lookup f_Story_fault_of_boot = some ⟨oc5, od5, .func (PySem.W.fnOf "fault_of_boot" "Story.fault_of_boot" (defArgs s_Story_fault_of_boot) (defBody s_Story_fault_of_boot) (defScope s_Story_fault_of_boot) .none kV5 dc5 pm5 an5 cd5 ct5), sl5⟩)
    (c5 : PySem.W.codeIn K cd5 "Story.fault_of_boot" = true)
    (k5 : PySem.W.keepIn K (.ref f_Story_fault_of_boot) = true)
    (a6 : PySem.W.findIn K (.ref C_Story) "begin" = some (some (.ref f_Story_begin)))
    (i6 : PySem.W.isFn K (.ref f_Story_begin) = true)
    (l6 : K.lookup f_Story_begin = some ⟨oc6, od6, .func (PySem.W.fnOf "begin" "Story.begin" (defArgs s_Story_begin) (defBody s_Story_begin) (defScope s_Story_begin) .none kV6 dc6 pm6 an6 cd6 ct6), sl6⟩)
    (c6 : PySem.W.codeIn K cd6 "Story.begin" = true)
    (k6 : PySem.W.keepIn K (.ref f_Story_begin) = true)
    (a7 : PySem.W.findIn K (.ref C_Story) "change" = some (some (.ref f_Story_change)))
    (i7 : PySem.W.isFn K (.ref f_Story_change) = true)
    (l7 : K.lookup f_Story_change = some ⟨oc7, od7, .func (PySem.W.fnOf "change" "Story.change" (defArgs s_Story_change) (defBody s_Story_change) (defScope s_Story_change) .none kV7 dc7 pm7 an7 cd7 ct7), sl7⟩)
    (c7 : PySem.W.codeIn K cd7 "Story.change" = true)
    (k7 : PySem.W.keepIn K (.ref f_Story_change) = true)
    (a8 : PySem.W.findIn K (.ref C_Story) "make_sure" = some (some (.ref f_Story_make_sure)))
    (i8 : PySem.W.isFn K (.ref f_Story_make_sure) = true)
    (l8 : K.lookup f_Story_make_sure = some ⟨oc8, od8, .func (PySem.W.fnOf "make_sure" "Story.make_sure" (defArgs s_Story_make_sure) (defBody s_Story_make_sure) (defScope s_Story_make_sure) .none kV8 dc8 pm8 an8 cd8 ct8), sl8⟩)
    (c8 : PySem.W.codeIn K cd8 "Story.make_sure" = true)
    (k8 : PySem.W.keepIn K (.ref f_Story_make_sure) = true)
    (a9 : PySem.W.nsIn K mainGlobals "fault_of_record" = some (some (.ref f_fault_of_record)))
    (l9 : K.lookup f_fault_of_record = some ⟨oc9, od9, .func (PySem.W.fnOf "fault_of_record" "fault_of_record" (defArgs s_fault_of_record) (defBody s_fault_of_record) (defScope s_fault_of_record) .none kV9 dc9 pm9 an9 cd9 ct9), sl9⟩)
    (c9 : PySem.W.codeIn K cd9 "fault_of_record" = true)
    (k9 : PySem.W.keepIn K (.ref f_fault_of_record) = true)
    (a10 : PySem.W.nsIn K mainGlobals "_law_let" = some (some (.ref f__law_let)))
    (l10 : K.lookup f__law_let = some ⟨oc10, od10, .func (PySem.W.fnOf "_law_let" "_law_let" (defArgs s__law_let) (defBody s__law_let) (defScope s__law_let) .none kV10 dc10 pm10 an10 cd10 ct10), sl10⟩)
    (c10 : PySem.W.codeIn K cd10 "_law_let" = true)
    (k10 : PySem.W.keepIn K (.ref f__law_let) = true)
    (a11 : PySem.W.nsIn K mainGlobals "_law_fault" = some (some (.ref f__law_fault)))
    (l11 : K.lookup f__law_fault = some ⟨oc11, od11, .func (PySem.W.fnOf "_law_fault" "_law_fault" (defArgs s__law_fault) (defBody s__law_fault) (defScope s__law_fault) .none kV11 dc11 pm11 an11 cd11 ct11), sl11⟩)
    (c11 : PySem.W.codeIn K cd11 "_law_fault" = true)
    (k11 : PySem.W.keepIn K (.ref f__law_fault) = true)
    (a12 : PySem.W.nsIn K mainGlobals "law" = some (some (.ref f_law)))
    (l12 : K.lookup f_law = some ⟨oc12, od12, .func (PySem.W.fnOf "law" "law" (defArgs s_law) (defBody s_law) (defScope s_law) .none kV12 dc12 pm12 an12 cd12 ct12), sl12⟩)
    (c12 : PySem.W.codeIn K cd12 "law" = true)
    (k12 : PySem.W.keepIn K (.ref f_law) = true)
    (x_Story : PySem.W.nsIn K mainGlobals "Story" = some (some (.ref C_Story)))
    (pg_Story : PySem.W.plainGet K C_Story Str.empty = true)
    (hd_Story : PySem.W.hasDictIn K C_Story = true)
    (po_Story : PySem.W.plainOver K C_Story = true)
    (sa_Story : PySem.W.findIn K (.ref C_Story) "__setattr__" = some (some (.builtin "object.__setattr__")))
    (mk_Story : PySem.W.makesIn K C_Story = true)
    (kc_Story : PySem.W.keepIn K (.ref C_Story) = true)
    (at_Story_known : PySem.W.findIn K (.ref C_Story) "known" = some none)
    (at_Story_sure : PySem.W.findIn K (.ref C_Story) "sure" = some none)
    (at_Story_ever : PySem.W.findIn K (.ref C_Story) "ever" = some none)
    (z_len : PySem.W.nsIn K mainGlobals "len" = some none)
    (z_int : PySem.W.nsIn K mainGlobals "int" = some none)
    (z_enumerate : PySem.W.nsIn K mainGlobals "enumerate" = some none)
    (z_range : PySem.W.nsIn K mainGlobals "range" = some none)
    (z_list : PySem.W.nsIn K mainGlobals "list" = some none)
    (z_isinstance : PySem.W.nsIn K mainGlobals "isinstance" = some none)
    (z_tuple : PySem.W.nsIn K mainGlobals "tuple" = some none)
    (g_BOOT : PySem.W.nsIn K mainGlobals "BOOT" = some (some (.str "boot" t_BOOT)))
    (g_CHANGE : PySem.W.nsIn K mainGlobals "CHANGE" = some (some (.str "change" t_CHANGE)))
    : ∃ fd : FuncData, (∀ (s : Shared) (v : Value), BindsTo s fd ⟨[v], []⟩ [("script", v)]) ∧ ∀ base : Heap, K.In base → base.Ns mainGlobals mg → FnOk l.prog w K mg base CX0 4 fa fd ["script"] (spLaw K) := by
  have e := hfa.symm.trans (PySem.W.mg_of X G a12)
  cases e
  have F__law_number := fun_mk (st := s__law_number) l0 c0 k0
  have b__law_number := F__law_number.binds (ps := ["script", "k"]) fun _ _ _ _ _ _ us hl => match us, hl with | [_, _], _ => rfl
  have F__law_take := fun_mk (st := s__law_take) l1 c1 k1
  have b__law_take := F__law_take.binds (ps := ["box", "size"]) fun _ _ _ _ _ _ us hl => match us, hl with | [_, _], _ => rfl
  have F__law_state := fun_mk (st := s__law_state) l2 c2 k2
  have b__law_state := F__law_state.binds (ps := ["box"]) fun _ _ _ _ _ _ us hl => match us, hl with | [_], _ => rfl
  have F__law_row := fun_mk (st := s__law_row) l3 c3 k3
  have b__law_row := F__law_row.binds (ps := ["box"]) fun _ _ _ _ _ _ us hl => match us, hl with | [_], _ => rfl
  have F_Story___init__ := fun_mk (st := s_Story___init__) l4 c4 k4
  have b_Story___init__ := F_Story___init__.binds (ps := ["self"]) fun _ _ _ _ _ _ us hl => match us, hl with | [_], _ => rfl
  have F_Story_fault_of_boot := fun_mk (st := s_Story_fault_of_boot) l5 c5 k5
  have b_Story_fault_of_boot := F_Story_fault_of_boot.binds (ps := ["self", "force", "state"]) fun _ _ _ _ _ _ us hl => match us, hl with | [_, _, _], _ => rfl
  have F_Story_begin := fun_mk (st := s_Story_begin) l6 c6 k6
  have b_Story_begin := F_Story_begin.binds (ps := ["self", "state"]) fun _ _ _ _ _ _ us hl => match us, hl with | [_, _], _ => rfl
  have F_Story_change := fun_mk (st := s_Story_change) l7 c7 k7
  have b_Story_change := F_Story_change.binds (ps := ["self", "state"]) fun _ _ _ _ _ _ us hl => match us, hl with | [_, _], _ => rfl
  have F_Story_make_sure := fun_mk (st := s_Story_make_sure) l8 c8 k8
  have b_Story_make_sure := F_Story_make_sure.binds (ps := ["self"]) fun _ _ _ _ _ _ us hl => match us, hl with | [_], _ => rfl
  have F_fault_of_record := fun_mk (st := s_fault_of_record) l9 c9 k9
  have b_fault_of_record := F_fault_of_record.binds (ps := ["record"]) fun _ _ _ _ _ _ us hl => match us, hl with | [_], _ => rfl
  have F__law_let := fun_mk (st := s__law_let) l10 c10 k10
  have b__law_let := F__law_let.binds (ps := ["record", "place"]) fun _ _ _ _ _ _ us hl => match us, hl with | [_, _], _ => rfl
  have F__law_fault := fun_mk (st := s__law_fault) l11 c11 k11
  have b__law_fault := F__law_fault.binds (ps := ["record"]) fun _ _ _ _ _ _ us hl => match us, hl with | [_], _ => rfl
  have F_law := fun_mk (st := s_law) l12 c12 k12
  have b_law := F_law.binds (ps := ["script"]) fun _ _ _ _ _ _ us hl => match us, hl with | [_], _ => rfl
  exact ⟨_, fun s v => .of_eq rfl, fun base _ _ => ok_law { C_Story := C_Story, f__law_number := f__law_number, fd__law_number := _, F__law_number := F__law_number, b__law_number := b__law_number, g__law_number := PySem.W.mg_of X G a0, f__law_take := f__law_take, fd__law_take := _, F__law_take := F__law_take, b__law_take := b__law_take, g__law_take := PySem.W.mg_of X G a1, f__law_state := f__law_state, fd__law_state := _, F__law_state := F__law_state, b__law_state := b__law_state, g__law_state := PySem.W.mg_of X G a2, f__law_row := f__law_row, fd__law_row := _, F__law_row := F__law_row, b__law_row := b__law_row, g__law_row := PySem.W.mg_of X G a3, f_Story___init__ := f_Story___init__, fd_Story___init__ := _, F_Story___init__ := F_Story___init__, b_Story___init__ := b_Story___init__, mk_Story := ⟨mk_Story, a4, i4, kc_Story⟩, f_Story_fault_of_boot := f_Story_fault_of_boot, fd_Story_fault_of_boot := _, F_Story_fault_of_boot := F_Story_fault_of_boot, b_Story_fault_of_boot := b_Story_fault_of_boot, m_Story_fault_of_boot := ⟨a5, i5, k5⟩, f_Story_begin := f_Story_begin, fd_Story_begin := _, F_Story_begin := F_Story_begin, b_Story_begin := b_Story_begin, m_Story_begin := ⟨a6, i6, k6⟩, f_Story_change := f_Story_change, fd_Story_change := _, F_Story_change := F_Story_change, b_Story_change := b_Story_change, m_Story_change := ⟨a7, i7, k7⟩, f_Story_make_sure := f_Story_make_sure, fd_Story_make_sure := _, F_Story_make_sure := F_Story_make_sure, b_Story_make_sure := b_Story_make_sure, m_Story_make_sure := ⟨a8, i8, k8⟩, f_fault_of_record := f_fault_of_record, fd_fault_of_record := _, F_fault_of_record := F_fault_of_record, b_fault_of_record := b_fault_of_record, g_fault_of_record := PySem.W.mg_of X G a9, f__law_let := f__law_let, fd__law_let := _, F__law_let := F__law_let, b__law_let := b__law_let, g__law_let := PySem.W.mg_of X G a10, f__law_fault := f__law_fault, fd__law_fault := _, F__law_fault := F__law_fault, b__law_fault := b__law_fault, g__law_fault := PySem.W.mg_of X G a11, f_law := fa, fd_law := _, F_law := F_law, b_law := b_law, g_law := hfa, cl_Story := ⟨pg_Story, hd_Story, po_Story, sa_Story⟩, g_Story := PySem.W.mg_of X G x_Story, a_Story_known := at_Story_known, a_Story_sure := at_Story_sure, a_Story_ever := at_Story_ever, n_len := PySem.W.mg_none_of X G z_len, n_int := PySem.W.mg_none_of X G z_int, n_enumerate := PySem.W.mg_none_of X G z_enumerate, n_range := PySem.W.mg_none_of X G z_range, n_list := PySem.W.mg_none_of X G z_list, n_isinstance := PySem.W.mg_none_of X G z_isinstance, n_tuple := PySem.W.mg_none_of X G z_tuple, u_BOOT := _, g_BOOT := PySem.W.mg_of X G g_BOOT, r_BOOT := ⟨_, rfl⟩, u_CHANGE := _, g_CHANGE := PySem.W.mg_of X G g_CHANGE, r_CHANGE := ⟨_, rfl⟩ }⟩
theorem walk {l : PySem.W.OpenLaw} {q : Program} {loose : List Str} {XP : (Str → Option Value) → Heap → Prop} {YP : World → Heap → Prop} {d : DefRec} {K : Params → PySem.W.Frag} (hn : l.most = some 63) (hdf : d.params.defaults = [])
    (hY : ∀ (w : World) (h : Heap), YP w h → (K w.params).In h)
    (F : ∀ (w : World) (mg : Str → Option Value) (fa : Addr) (h : Heap), (K w.params).In h → h.Ns mainGlobals mg → mg d.name = some (.ref fa) →
      ∃ fd : FuncData, (∀ (s : Shared) (u : Value), BindsTo s fd ⟨[u], []⟩ [("script", u)]) ∧ ∀ base : Heap, (K w.params).In base → base.Ns mainGlobals mg → FnOk l.prog w (K w.params) mg base CX0 4 fa fd ["script"] (spLaw (K w.params))) :
    PySem.W.WalkO q loose XP YP l.row.toRowW d [] (fun f vs => PySem.call f vs) :=
  L2.walk_of (n := 63) (k := 4) (x := "script") (CX := fun _ => CX0) (sp := fun w => spLaw (K w.params)) hn (by decide) hdf ⟨rfl, by decide, by decide⟩ hY F (fun _ _ a ns hl _ hS => ⟨a, ns, rfl, hS, hl, fun _ => rfl⟩) fun _ _ _ _ _ z => z
end Sk
open PySem PySem.W PyProof.Rows in
set_option maxRecDepth 100000 in
set_option maxHeartbeats 0 in
theorem PySem.Challenge.cw_sidekeep_k68_records_are_judged_holds : PySem.Challenge.rw_sidekeep_k68_records_are_judged.Holds := by
  w_on; o_law; k_head; (case hw => w_witness2)
  k_fill
  refine Sk.walk (l := PySem.Challenge.rw_sidekeep_k68_records_are_judged) rfl rfl (fun w h Y => PySem.W.kIn_of Y) ?F
  case F =>
    intro w mg fa h KX G hmg
    refine' Sk.all_mk KX G hmg ?a0 ?l0 ?c0 ?k0 ?a1 ?l1 ?c1 ?k1 ?a2 ?l2 ?c2 ?k2 ?a3 ?l3 ?c3 ?k3 ?a4 ?i4 ?l4 ?c4 ?k4 ?a5 ?i5 ?l5 ?c5 ?k5 ?a6 ?i6 ?l6 ?c6 ?k6 ?a7 ?i7 ?l7 ?c7 ?k7 ?a8 ?i8 ?l8 ?c8 ?k8 ?a9 ?l9 ?c9 ?k9 ?a10 ?l10 ?c10 ?k10 ?a11 ?l11 ?c11 ?k11 ?a12 ?l12 ?c12 ?k12 ?x_Story ?pg_Story ?hd_Story ?po_Story ?sa_Story ?mk_Story ?kc_Story ?at_Story_known ?at_Story_sure ?at_Story_ever ?z_len ?z_int ?z_enumerate ?z_range ?z_list ?z_isinstance ?z_tuple ?g_BOOT ?g_CHANGE
    (case x_Story => k_is)
    (case a0 => k_is)
    (case l0 => k_is)
    (case c0 => k_is)
    (case k0 => k_is)
    (case a1 => k_is)
    (case l1 => k_is)
    (case c1 => k_is)
    (case k1 => k_is)
    (case a2 => k_is)
    (case l2 => k_is)
    (case c2 => k_is)
    (case k2 => k_is)
    (case a3 => k_is)
    (case l3 => k_is)
    (case c3 => k_is)
    (case k3 => k_is)
    (case a4 => k_is)
    (case i4 => k_is)
    (case l4 => k_is)
    (case c4 => k_is)
    (case k4 => k_is)
    (case a5 => k_is)
    (case i5 => k_is)
    (case l5 => k_is)
    (case c5 => k_is)
    (case k5 => k_is)
    (case a6 => k_is)
    (case i6 => k_is)
    (case l6 => k_is)
    (case c6 => k_is)
    (case k6 => k_is)
    (case a7 => k_is)
    (case i7 => k_is)
    (case l7 => k_is)
    (case c7 => k_is)
    (case k7 => k_is)
    (case a8 => k_is)
    (case i8 => k_is)
    (case l8 => k_is)
    (case c8 => k_is)
    (case k8 => k_is)
    (case a9 => k_is)
    (case l9 => k_is)
    (case c9 => k_is)
    (case k9 => k_is)
    (case a10 => k_is)
    (case l10 => k_is)
    (case c10 => k_is)
    (case k10 => k_is)
    (case a11 => k_is)
    (case l11 => k_is)
    (case c11 => k_is)
    (case k11 => k_is)
    (case a12 => k_is)
    (case l12 => k_is)
    (case c12 => k_is)
    (case k12 => k_is)
    (case pg_Story => k_is)
    (case hd_Story => k_is)
    (case po_Story => k_is)
    (case sa_Story => k_is)
    (case mk_Story => k_is)
    (case kc_Story => k_is)
    (case at_Story_known => k_is)
    (case at_Story_sure => k_is)
    (case at_Story_ever => k_is)
    (case z_len => k_is)
    (case z_int => k_is)
    (case z_enumerate => k_is)
    (case z_range => k_is)
    (case z_list => k_is)
    (case z_isinstance => k_is)
    (case z_tuple => k_is)
    (case g_BOOT => k_is)
    (case g_CHANGE => k_is)
#print axioms PySem.Challenge.cw_sidekeep_k68_records_are_judged_holds
