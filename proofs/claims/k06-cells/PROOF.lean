import PyProof.Rows.All
import Wide.All
import OpenK.AllK
import Wide.FinOn
import HandS.ForMost
import HandS.Deep
import HandS.Style
import HandS.IsInst
import PySem.Challenge.RW_sidekeep_k06_cells_are_sealed
set_option Elab.async false
set_option maxRecDepth 100000
set_option maxHeartbeats 4000000
set_option linter.all false

namespace Sk
open PySem L2

/-! ### rules by values, joined over the kinds -/
section
variable {X : Cx}
def rAddU (K : PySem.W.Frag) : R2 := fun x y H Q => match x, y with
  | .int i, .int j => Q (.int (i + j)) H
  | .str i, .str j => i.length + j.length ≤ sizeLine ∧ Q (.str (i ++ j)) H
  | x, y => rCat x y H Q ∨ rCatT K x y H Q
theorem opAddU0 : OpR X (binaryOp .Add) (rAddU X.K) := by
  intro pins s σ H x y v u Q I rx ry h
  unfold rAddU at h
  split at h
  · exact op_add pins s σ H _ _ v u Q I rx ry ⟨_, _, rfl, rfl, h⟩
  · exact op_add_str pins s σ H _ _ v u Q I rx ry ⟨_, _, rfl, rfl, h.1, h.2⟩
  · rcases h with h | h
    · exact op_cat pins s σ H _ _ v u Q I rx ry h
    · exact op_catT pins s σ H _ _ v u Q I rx ry h
theorem opAddU {K : PySem.W.Frag} (hK : X.K = K := by rfl) : OpR X (binaryOp .Add) (rAddU K) := hK ▸ opAddU0
def rSubU : R2 := fun x y H Q => match x, y with
  | .int i, .int j => Q (.int (i - j)) H
  | _, _ => False
theorem opSubU : OpR X (binaryOp .Sub) rSubU := by
  intro pins s σ H x y v u Q I rx ry h
  unfold rSubU at h
  split at h
  · exact op_sub pins s σ H _ _ v u Q I rx ry ⟨_, _, rfl, rfl, h⟩
  · exact h.elim
def rMulU : R2 := fun x y H Q => match x, y with
  | .int i, .int j => CMul i j ∧ Q (.int (i * j)) H
  | x, y => rRep x y H Q
theorem opMultU : OpR X (binaryOp .Mult) rMulU := by
  intro pins s σ H x y v u Q I rx ry h
  unfold rMulU at h
  split at h
  · exact op_mul pins s σ H _ _ v u Q I rx ry ⟨_, _, rfl, rfl, h.1, h.2⟩
  · exact op_rep pins s σ H _ _ v u Q I rx ry h
def rModU : R2 := fun x y H Q => match x, y with
  | .int i, .int j => 0 < j ∧ Q (.int (i % j)) H
  | _, _ => False
theorem opModU : OpR X (binaryOp .Mod) rModU := by
  intro pins s σ H x y v u Q I rx ry h
  unfold rModU at h
  split at h
  · exact op_mod pins s σ H _ _ v u Q I rx ry ⟨_, _, rfl, rfl, h.1, h.2⟩
  · exact h.elim
def rDivU : R2 := fun x y H Q => match x, y with
  | .int i, .int j => CDiv i j ∧ Q (.int (i / j)) H
  | _, _ => False
theorem opFloorDivU : OpR X (binaryOp .FloorDiv) rDivU := by
  intro pins s σ H x y v u Q I rx ry h
  unfold rDivU at h
  split at h
  · exact op_fdiv pins s σ H _ _ v u Q I rx ry ⟨_, _, rfl, rfl, h.1, h.2⟩
  · exact h.elim
def rPowU : R2 := fun x y H Q => match x, y with
  | .int i, .int j => CPow i j ∧ Q (.int (i ^ j.toNat)) H
  | _, _ => False
theorem opPowU : OpR X (binaryOp .Pow) rPowU := by
  intro pins s σ H x y v u Q I rx ry h
  unfold rPowU at h
  split at h
  · exact op_pow pins s σ H _ _ v u Q I rx ry ⟨_, _, rfl, rfl, h.1, h.2⟩
  · exact h.elim
/-- == of scalars, or of data at any depth -/
def rEqU (K : PySem.W.Frag) : R2 := fun x y H Q => match x, y with
  | .int i, .int j => Q (.bl (decide (i = j))) H
  | .str i, .str j => Q (.bl (decide (i = j))) H
  | .bl i, .bl j => Q (.bl (decide (i = j))) H
  | x, y => rEqD K x y H Q
theorem opEqU0 (hu : X.A.units + 64 < cLine) : OpR X (compareOp .Eq) (rEqU X.K) := by
  intro pins s σ H x y v u Q I rx ry h
  unfold rEqU at h
  split at h
  · exact op_eq pins s σ H _ _ v u Q I rx ry ⟨rfl, by simpa using h⟩
  · exact op_eq pins s σ H _ _ v u Q I rx ry ⟨rfl, by simpa using h⟩
  · exact op_eq pins s σ H _ _ v u Q I rx ry ⟨rfl, by simpa using h⟩
  · exact op_eqD hu pins s σ H _ _ v u Q I rx ry h
theorem opEqU {K : PySem.W.Frag} (hu : X.A.units + 64 < cLine) (hK : X.K = K := by rfl) : OpR X (compareOp .Eq) (rEqU K) := hK ▸ opEqU0 hu
def rNeU (K : PySem.W.Frag) : R2 := fun x y H Q => match x, y with
  | .int i, .int j => Q (.bl (!decide (i = j))) H
  | .str i, .str j => Q (.bl (!decide (i = j))) H
  | .bl i, .bl j => Q (.bl (!decide (i = j))) H
  | x, y => rNeD K x y H Q
theorem opNeU0 (hu : X.A.units + 64 < cLine) : OpR X (compareOp .NotEq) (rNeU X.K) := by
  intro pins s σ H x y v u Q I rx ry h
  unfold rNeU at h
  split at h
  · exact op_ne pins s σ H _ _ v u Q I rx ry ⟨rfl, by simpa using h⟩
  · exact op_ne pins s σ H _ _ v u Q I rx ry ⟨rfl, by simpa using h⟩
  · exact op_ne pins s σ H _ _ v u Q I rx ry ⟨rfl, by simpa using h⟩
  · exact op_neD hu pins s σ H _ _ v u Q I rx ry h
theorem opNeU {K : PySem.W.Frag} (hu : X.A.units + 64 < cLine) (hK : X.K = K := by rfl) : OpR X (compareOp .NotEq) (rNeU K) := hK ▸ opNeU0 hu
def rIsU : R2 := fun x y H Q => match y with
  | .non => Q (.bl (decide (x = .non))) H
  | .bl b => ∃ a, x = .bl a ∧ Q (.bl (decide (a = b))) H
  | _ => False
theorem opIsU : OpR X (compareOp .Is) rIsU := by
  intro pins s σ H x y v u Q I rx ry h
  unfold rIsU at h
  split at h
  · exact op_isN pins s σ H _ _ v u Q I rx ry ⟨rfl, h⟩
  · obtain ⟨a, rfl, q⟩ := h; exact op_isBl pins s σ H _ _ v u Q I rx ry ⟨_, _, rfl, rfl, q⟩
  · exact h.elim
def rNotU : R2 := fun x y H Q => match y with
  | .non => Q (.bl (!decide (x = .non))) H
  | .bl b => ∃ a, x = .bl a ∧ Q (.bl (!decide (a = b))) H
  | _ => False
theorem opNotU : OpR X (compareOp .IsNot) rNotU := by
  intro pins s σ H x y v u Q I rx ry h
  unfold rNotU at h
  split at h
  · exact op_notN pins s σ H _ _ v u Q I rx ry ⟨rfl, h⟩
  · obtain ⟨a, rfl, q⟩ := h; exact op_notBl pins s σ H _ _ v u Q I rx ry ⟨_, _, rfl, rfl, q⟩
  · exact h.elim
theorem opInF0 : OpR X (compareOp .In) (rIn X.K false) := op_in_seq
theorem opInF {K : PySem.W.Frag} (hK : X.K = K := by rfl) : OpR X (compareOp .In) (rIn K false) := hK ▸ opInF0
theorem opNinF0 : OpR X (compareOp .NotIn) (rIn X.K true) := op_notIn_seq
theorem opNinF {K : PySem.W.Frag} (hK : X.K = K := by rfl) : OpR X (compareOp .NotIn) (rIn K true) := hK ▸ opNinF0
theorem ps_never {st : Stmt} : PS X st (fun _ _ _ => False) := ⟨fun _ _ _ _ _ _ h => h.elim⟩
theorem pe_never {e : Expr} : PE X e (fun _ _ _ => False) := ⟨fun _ _ _ _ _ _ h => h.elim⟩
theorem hu65 {A : Around} {k : Nat} (hr : Room k A) : A.units + 65 < cLine := by have := hr.un; omega
theorem opInU0 (hu : X.A.units + 65 < cLine) : OpR X (compareOp .In) (rInD X.K) := op_inD hu
theorem opInU {K : PySem.W.Frag} (hu : X.A.units + 65 < cLine) (hK : X.K = K := by rfl) : OpR X (compareOp .In) (rInD K) := hK ▸ opInU0 hu
theorem opNinU0 (hu : X.A.units + 65 < cLine) : OpR X (compareOp .NotIn) (rNotInD X.K) := op_notInD hu
theorem opNinU {K : PySem.W.Frag} (hu : X.A.units + 65 < cLine) (hK : X.K = K := by rfl) : OpR X (compareOp .NotIn) (rNotInD K) := hK ▸ opNinU0 hu
theorem ixU0 : IxR X (rIx X.K) := ix_seq
theorem ixU {K : PySem.W.Frag} (hK : X.K = K := by rfl) : IxR X (rIx K) := hK ▸ ixU0
def rSlU (K : PySem.W.Frag) : V → Option Int → Option Int → Hp → VK → Prop := fun x lo hi H Q => rSlL K x lo hi H Q ∨ rSlT K x lo hi H Q
theorem slU0 : SlR X (rSlU X.K) := sl_list.or sl_tup
theorem slU {K : PySem.W.Frag} (hK : X.K = K := by rfl) : SlR X (rSlU K) := hK ▸ slU0
def rLenU (K : PySem.W.Frag) : List V → Hp → VK → Prop := fun xs H Q => ∃ x n, xs = [x] ∧ LenV K x H n ∧ Q (.int n) H
theorem callLenU0 : CallR X (.builtin "len") (rLenU X.K) := call_len
theorem callLenU {K : PySem.W.Frag} (hK : X.K = K := by rfl) : CallR X (.builtin "len") (rLenU K) := hK ▸ callLenU0
def rListU (K : PySem.W.Frag) : List V → Hp → VK → Prop := fun xs H Q => ∃ p ys, xs = [.ref p] ∧ (SqL K H p ys ∨ SqT K H p ys) ∧ ∀ l, H l = none → Q (.ref l) (upd H l (.lst ys))
theorem callListU0 : CallR X (.type "list") (rListU X.K) := call_list_of
theorem callListU {K : PySem.W.Frag} (hK : X.K = K := by rfl) : CallR X (.type "list") (rListU K) := hK ▸ callListU0
def rTupU (K : PySem.W.Frag) : List V → Hp → VK → Prop := fun xs H Q => ∃ p ys, xs = [.ref p] ∧ ((SqL K H p ys ∧ ∀ l, H l = none → Q (.ref l) (upd H l (.tup ys))) ∨ (SqT K H p ys ∧ Q (.ref p) H))
theorem callTupU0 : CallR X (.type "tuple") (rTupU X.K) := call_tuple_of
theorem callTupU {K : PySem.W.Frag} (hK : X.K = K := by rfl) : CallR X (.type "tuple") (rTupU K) := hK ▸ callTupU0
def rInt1 : List V → Hp → VK → Prop := fun xs H Q => (∃ i, xs = [.int i] ∧ Q (.int i) H) ∨ ∃ k, xs = [.bl k] ∧ Q (.int (if k then 1 else 0)) H
theorem callIntU : CallR X (.type "int") rInt1 := call_int1
/-! the layer's rules with the written part K named (a comprehension's block has it by computing) -/
variable {e : Expr} {es : List Expr} {te : TE} {t : TA} {pos : Pos} {tg : Expr} {K : PySem.W.Frag}
theorem pe_fldK {f : Str} (he : PE X e te) (hb : attributeBase e f X.env (eval e X.env) = eval e X.env) (hK : X.K = K := by rfl) : PE X (.Attribute e f pos) (tFld K te f) := hK ▸ pe_fld he hb
def tTruK (K : PySem.W.Frag) (ta : TE) : TT := fun σ H Q => ta σ H fun x H' => ∃ k, TruV K x H' k ∧ Q k H'
theorem pt_truthK (ha : PE X e te) (he : ∀ whole, isTrue e X.env whole = (do let v ← whole; standAt e.pos; holding [v] (truthy v))) (hK : X.K = K := by rfl) : PT X e (tTruK K te) := hK ▸ pt_truth ha he
theorem pi_listK (hl : PE X e te) (hK : X.K = K := by rfl) : PI X tg e (iList K te) := hK ▸ pi_list hl
theorem pi_tupK (hl : PE X e te) (hK : X.K = K := by rfl) : PI X tg e (iTup K te) := hK ▸ pi_tup hl
theorem pg_tupK {k : Nat} {t : TGs} {n : Nat} (hc : X.calm = true) (h : PGs X es t)
    (hn : (assignEach es X.env).length = n := by rfl) (hst : (assignEach es X.env).findIdx? (·.1) = none := by rfl) (hK : X.K = K := by rfl) : PG X (.Tuple es k pos) (gTup K n t) := hK ▸ pg_tup hc h hn hst
end

/-! ### steps of a reading -/
section
variable {K : PySem.W.Frag} {σ : St} {H H1 : Hp} {Q : VK} {QB : Bool → Hp → Prop} {QA : List V → Hp → Prop} {D : Ends} {i : Nat} {v x y : V} {te ta tb : TE} {t u : TS} {c cd : TT} {tr : TA} {E : XK} {A B : Prop}
theorem g_var (h : σ[i]? = some (some v)) (q : Q v H) : tVar i σ H Q := ⟨v, h, q⟩
theorem g_c (q : Q v H) : tC v σ H Q := q
theorem g_op {r : R2} (q : ta σ H fun x H1 => tb σ H1 fun y H2 => r x y H2 Q) : tOp r ta tb σ H Q := q
theorem g_un {r : V → Hp → VK → Prop} (q : ta σ H fun x H1 => r x H1 Q) : tUn r ta σ H Q := q
theorem g_neg {n : Int} (q : Q (.int (-n)) H) : rU (fun i => .int (-i)) (.int n) H Q := ⟨n, rfl, q⟩
theorem g_add {a b : Int} (q : Q (.int (a + b)) H) : rAddU K (.int a) (.int b) H Q := q
theorem g_sub {a b : Int} (q : Q (.int (a - b)) H) : rSubU (.int a) (.int b) H Q := q
theorem g_mul {a b : Int} (h : CMul a b) (q : Q (.int (a * b)) H) : rMulU (.int a) (.int b) H Q := ⟨h, q⟩
theorem g_mod {a b : Int} (h : 0 < b) (q : Q (.int (a % b)) H) : rModU (.int a) (.int b) H Q := ⟨h, q⟩
theorem g_div {a b : Int} (h : CDiv a b) (q : Q (.int (a / b)) H) : rDivU (.int a) (.int b) H Q := ⟨h, q⟩
theorem g_pow {a b : Int} (h : CPow a b) (q : Q (.int (a ^ b.toNat)) H) : rPowU (.int a) (.int b) H Q := ⟨h, q⟩
theorem g_cmp {g : Int → Int → V} {a b : Int} (q : Q (g a b) H) : rI0 g (.int a) (.int b) H Q := ⟨a, b, rfl, rfl, q⟩
theorem g_eqI {a b : Int} (q : Q (.bl (decide (a = b))) H) : rEqU K (.int a) (.int b) H Q := q
theorem g_eqS {a b : Str} (q : Q (.bl (decide (a = b))) H) : rEqU K (.str a) (.str b) H Q := q
theorem g_eqB {a b : Bool} (q : Q (.bl (decide (a = b))) H) : rEqU K (.bl a) (.bl b) H Q := q
theorem g_neI {a b : Int} (q : Q (.bl (!decide (a = b))) H) : rNeU K (.int a) (.int b) H Q := q
theorem g_neS {a b : Str} (q : Q (.bl (!decide (a = b))) H) : rNeU K (.str a) (.str b) H Q := q
theorem g_isN (q : Q (.bl (decide (x = .non))) H) : rIsU x .non H Q := q
theorem g_notN (q : Q (.bl (!decide (x = .non))) H) : rNotU x .non H Q := q
theorem g_isB {a b : Bool} (q : Q (.bl (decide (a = b))) H) : rIsU (.bl a) (.bl b) H Q := ⟨a, rfl, q⟩
theorem g_notB {a b : Bool} (q : Q (.bl (!decide (a = b))) H) : rNotU (.bl a) (.bl b) H Q := ⟨a, rfl, q⟩
theorem g_rep {p : Addr} {xs : List V} {k : Int} (h : H p = some (.lst xs)) (h1 : -(2 ^ 63) ≤ k) (h2 : k < 2 ^ 63) (z : xs.length * k.toNat ≤ sizeLine) (q : ∀ p, H p = none → Q (.ref p) (upd H p (.lst (List.replicate k.toNat xs).flatten))) : rMulU (.ref p) (.int k) H Q := ⟨p, k, xs, rfl, rfl, h, h1, h2, z, q⟩
theorem g_cat {a b : Addr} {xs zs : List V} (h : H a = some (.lst xs)) (g : H b = some (.lst zs)) (z : xs.length + zs.length ≤ sizeLine) (q : ∀ p, H p = none → Q (.ref p) (upd H p (.lst (xs ++ zs)))) : rAddU K (.ref a) (.ref b) H Q := .inl ⟨a, b, xs, zs, rfl, rfl, h, g, z, q⟩
theorem g_ninF {p : Addr} {xs : List V} (h : SqL K H p xs ∨ SqT K H p xs) (f : flatV x = true) (fs : xs.all flatV = true) (q : Q (.bl (!inV x xs)) H) : rIn K true x (.ref p) H Q := ⟨p, xs, rfl, h, f, fs, q⟩
theorem g_inF {p : Addr} {xs : List V} (h : SqL K H p xs ∨ SqT K H p xs) (f : flatV x = true) (fs : xs.all flatV = true) (q : Q (.bl (inV x xs)) H) : rIn K false x (.ref p) H Q := ⟨p, xs, rfl, h, f, fs, q⟩
theorem g_tupL {p : Addr} {xs : List V} (h : SqL K H p xs) (q : ∀ l, H l = none → Q (.ref l) (upd H l (.tup xs))) : rTupU K [.ref p] H Q := ⟨p, xs, rfl, .inl ⟨h, q⟩⟩
theorem g_listT {p : Addr} {ys : List V} (h : SqT K H p ys) (q : ∀ l, H l = none → Q (.ref l) (upd H l (.lst ys))) : rListU K [.ref p] H Q := ⟨p, ys, rfl, .inr h, q⟩
theorem g_ixL {p : Addr} {xs : List V} {j : Int} (h : SqL K H p xs) (e : atI xs j = some v) (q : Q v H) : rIx K (.ref p) (.int j) H Q := .inl ⟨p, xs, j, v, rfl, rfl, h, e, q⟩
theorem g_ixT {p : Addr} {xs : List V} {j : Int} (h : SqT K H p xs) (e : atI xs j = some v) (q : Q v H) : rIx K (.ref p) (.int j) H Q := .inr (.inl ⟨p, xs, j, v, rfl, rfl, h, e, q⟩)
theorem g_lenL {p : Addr} {xs : List V} (h : SqL K H p xs) (q : Q (.int (xs.length : Int)) H) : rLenU K [.ref p] H Q := ⟨_, _, rfl, .inl ⟨xs, h, rfl⟩, q⟩
theorem g_lenT {p : Addr} {xs : List V} (h : SqT K H p xs) (q : Q (.int (xs.length : Int)) H) : rLenU K [.ref p] H Q := ⟨_, _, rfl, .inr ⟨xs, h, rfl⟩, q⟩
theorem g_int {n : Int} (q : Q (.int n) H) : rInt1 [.int n] H Q := .inl ⟨n, rfl, q⟩
theorem g_intB {k : Bool} (q : Q (.int (if k then 1 else 0)) H) : rInt1 [.bl k] H Q := .inr ⟨k, rfl, q⟩
theorem g_setL {p : Addr} {xs : List V} {k : Int} {j : Nat} {QH : Hp → Prop} (h : H p = some (.lst xs)) (e : ixN xs.length k = some j) (q : QH (upd H p (.lst (xs.set j v)))) : rSetL (.ref p) (.int k) v H QH := ⟨p, xs, k, j, rfl, rfl, h, e, q⟩
theorem g_nil (q : QA [] H) : tNil σ H QA := q
theorem g_cons (q : te σ H fun x H1 => tr σ H1 fun xs H2 => QA (x :: xs) H2) : tCons te tr σ H QA := q
theorem g_cb {r : List V → Hp → VK → Prop} (q : tr σ H fun vs H1 => r vs H1 Q) : tCB r tr σ H Q := q
theorem g_tup (q : tr σ H fun xs H1 => xs.length ≤ sizeLine ∧ ∀ p, H1 p = none → Q (.ref p) (upd H1 p (.tup xs))) : tTup tr σ H Q := q
theorem g_lst (q : tr σ H fun xs H1 => xs.length ≤ sizeLine ∧ ∀ p, H1 p = none → Q (.ref p) (upd H1 p (.lst xs))) : tLst tr σ H Q := q
theorem g_test (q : te σ H fun x H' => ∃ k, x = .bl k ∧ QB k H') : tTest te σ H QB := q
theorem g_tB (q : te σ H fun x H' => ∃ k, x = .bl k ∧ QB k H') : tB te σ H QB := q
theorem g_bl {k : Bool} {P : Bool → Prop} (q : P k) : ∃ k', V.bl k = .bl k' ∧ P k' := ⟨k, rfl, q⟩
theorem g_not (q : c σ H fun b H1 => QB (!b) H1) : tNot c σ H QB := q
theorem g_and (q : c σ H fun b H1 => if b = true then cd σ H1 QB else QB false H1) : tAnd c cd σ H QB := q
theorem g_or (q : c σ H fun b H1 => if b = true then QB true H1 else cd σ H1 QB) : tOr c cd σ H QB := q
theorem g_if (q : c σ H fun b H1 => if b = true then t D σ H1 else u D σ H1) : tIfS c t u D σ H := q
theorem g_andV {ta tb : TE} (q : ta σ H fun x H1 => ∃ c, x = .bl c ∧ if c = true then tb σ H1 Q else Q (.bl false) H1) : tAndV ta tb σ H Q := q
theorem g_orV {ta tb : TE} (q : ta σ H fun x H1 => ∃ c, x = .bl c ∧ if c = true then Q (.bl true) H1 else tb σ H1 Q) : tOrV ta tb σ H Q := q
theorem g_notV {ta : TE} (q : ta σ H fun x H1 => ∃ c, x = .bl c ∧ Q (.bl (!c)) H1) : tNotV ta σ H Q := q
theorem g_ife (q : c σ H fun b H1 => if b = true then ta σ H1 Q else tb σ H1 Q) : tIf c ta tb σ H Q := q
theorem g_ite {p : Prop} [Decidable p] (h1 : p → A) (h2 : ¬ p → B) : if decide p = true then A else B := by
  by_cases h : p
  · rw [if_pos (decide_eq_true h)]; exact h1 h
  · rw [if_neg (by simp [h])]; exact h2 h
theorem g_iteN {p : Prop} [Decidable p] (h1 : ¬ p → A) (h2 : p → B) : if (!decide p) = true then A else B := by
  by_cases h : p
  · rw [if_neg (by simp [h])]; exact h2 h
  · rw [if_pos (by simp [h])]; exact h1 h
theorem g_iteB {b : Bool} (h1 : b = true → A) (h2 : b = false → B) : if b = true then A else B := by
  cases b
  · rw [if_neg Bool.false_ne_true]; exact h2 rfl
  · rw [if_pos rfl]; exact h1 rfl
theorem g_iteT {b : Bool} (h : b = true) (q : A) : if b = true then A else B := by rw [if_pos h]; exact q
theorem g_iteF {b : Bool} (h : b = false) (q : B) : if b = true then A else B := by rw [if_neg (by rw [h]; exact Bool.false_ne_true)]; exact q
theorem g_seq (q : t { D with nx := u D } σ H) : tSeq t u D σ H := q
theorem g_next (q : D.nx σ H) : tNext D σ H := q
theorem g_ret (q : te σ H D.rt) : tRet te D σ H := q
theorem g_retN (q : D.rt .non H) : tRetN D σ H := q
theorem g_drop (q : te σ H fun _ H1 => D.nx σ H1) : tDrop te D σ H := q
theorem g_asg (q : te σ H fun x H1 => D.nx (σ.set i (some x)) H1) : tAsg te (gName i) D σ H := q
theorem g_asgS {to ti : TE} {ts : TSet} (q : te σ H fun x H1 => to σ H1 fun o H2 => ti σ H2 fun k H3 => ts o k x H3 fun H4 => D.nx σ H4) : tAsg te (gSub to ti ts) D σ H := q
theorem g_seqA (q : te σ H fun x H1 => u D (σ.set i (some x)) H1) : tSeq (tAsg te (gName i)) u D σ H := q
theorem g_seqS {to ti : TE} {ts : TSet} (q : te σ H fun x H1 => to σ H1 fun o H2 => ti σ H2 fun k H3 => ts o k x H3 fun H4 => u D σ H4) : tSeq (tAsg te (gSub to ti ts)) u D σ H := q
theorem g_seqD (q : te σ H fun _ H1 => u D σ H1) : tSeq (tDrop te) u D σ H := q
theorem g_seqI {w : TS} (q : c σ H fun b H1 => if b = true then t { D with nx := w D } σ H1 else u { D with nx := w D } σ H1) : tSeq (tIfS c t u) w D σ H := q
theorem g_joinI {p : Prop} [Decidable p] {v0 : V} (Rv : V → Prop) (h0 : σ[i]? = some (some v0)) (ht : p → ∀ Q : VK, (∀ x, Rv x → Q x H) → te σ H Q) (hf : ¬ p → Rv v0) (rest : ∀ x, Rv x → u D (σ.set i (some x)) H) :
    if decide p = true then tAsg te (gName i) { D with nx := u D } σ H else tNext { D with nx := u D } σ H := by
  refine g_ite (fun h => ht h _ fun x r => rest x r) (fun h => ?_)
  have e : σ.set i (some v0) = σ := by
    apply List.ext_getElem? 
    intro j
    by_cases hj : i = j
    · subst hj
      rw [h0]
      have hl : i < σ.length := (List.getElem?_eq_some_iff.mp h0).1
      simp [hl]
    · rw [List.getElem?_set_ne hj]
  have := rest v0 (hf h)
  rw [e] at this
  exact this
theorem g_truth (q : te σ H fun x H' => ∃ k, TruV K x H' k ∧ QB k H') : tTruK K te σ H QB := q
theorem g_call {sp : Sp} {dvs : List V} (q : tr σ H fun vs H1 => sp (vs ++ dvs) H1 Q E) : tCall sp dvs E tr σ H Q := q
/-- o.f, by values -/
def FldW (K : PySem.W.Frag) (x : V) (f : Str) (H : Hp) (Q : VK) : Prop := ∃ a C dx fs v, x = .ref a ∧ H a = some (.ins C dx fs) ∧ Cls K C ∧ NoAttr K C f ∧ fs.lookup f = some v ∧ Q v H
theorem g_fld {f : Str} (q : te σ H fun x H1 => FldW K x f H1 Q) : tFld K te f σ H Q := q
theorem g_fldW {a C dx : Addr} {fs : List (Str × V)} {f : Str} (h : H a = some (.ins C dx fs)) (c : Cls K C) (n : NoAttr K C f) (l : fs.lookup f = some v) (q : Q v H) : FldW K (.ref a) f H Q := ⟨a, C, dx, fs, v, rfl, h, c, n, l, q⟩
/-- o.f = y, by values -/
def SetW (K : PySem.W.Frag) (x y : V) (f : Str) (H : Hp) (QH : Hp → Prop) : Prop := ∃ a C dx fs, x = .ref a ∧ H a = some (.ins C dx fs) ∧ Cls K C ∧ NoAttr K C f ∧ fs.length < 1000 ∧ QH (upd H a (.ins C dx (putF f y fs)))
theorem g_sfld {f : Str} (q : ta σ H fun y H1 => te σ H1 fun x H2 => SetW K x y f H2 fun H3 => D.nx σ H3) : sFld K te ta f D σ H := q
theorem g_seqF {f : Str} (q : ta σ H fun y H1 => te σ H1 fun x H2 => SetW K x y f H2 fun H3 => u D σ H3) : tSeq (sFld K te ta f) u D σ H := q
theorem g_setW {a C dx : Addr} {fs : List (Str × V)} {f : Str} {QH : Hp → Prop} (h : H a = some (.ins C dx fs)) (c : Cls K C) (n : NoAttr K C f) (z : fs.length < 1000) (q : QH (upd H a (.ins C dx (putF f y fs)))) : SetW K (.ref a) y f H QH := ⟨a, C, dx, fs, rfl, h, c, n, z, q⟩
/-- a method of a list, of another built-in type -/
theorem g_bm {ty : String} {r : V → List V → Hp → VK → Prop} (q : te σ H fun x H1 => tyV K ty x H1 ∧ tr σ H1 fun xs H2 => r x xs H2 Q) : tBM K ty r te tr σ H Q := q
theorem g_bm0 {ty : String} {r : V → List V → Hp → VK → Prop} (q : te σ H fun x H1 => tyV K ty x H1 ∧ r x [] H1 Q) : tBM0 K ty r te σ H Q := q
theorem g_tyL {p : Addr} {xs : List V} {P : Prop} (h : H p = some (.lst xs)) (q : P) : tyV K "list" (.ref p) H ∧ P := ⟨.inl ⟨rfl, _, SqL.of h⟩, q⟩
theorem g_app {p : Addr} {xs : List V} (h : H p = some (.lst xs)) (z : xs.length < sizeLine) (q : Q .non (upd H p (.lst (xs ++ [v])))) : rAppend (.ref p) [v] H Q := ⟨p, xs, v, rfl, rfl, h, z, q⟩
def MW (C : Addr) (m : Str) (x : V) (H : Hp) (P : Prop) : Prop := ∃ a dx fs, x = .ref a ∧ H a = some (.ins C dx fs) ∧ fs.lookup m = none ∧ P
theorem g_meth {C : Addr} {m : Str} {sp : Sp} {dvs : List V} (q : te σ H fun x H1 => MW C m x H1 (tr σ H1 fun vs H2 => sp (x :: (vs ++ dvs)) H2 Q E)) : tMeth C m sp dvs E te tr σ H Q := q
theorem g_MW {C a dx : Addr} {fs : List (Str × V)} {m : Str} {P : Prop} (h : H a = some (.ins C dx fs)) (l : fs.lookup m = none) (q : P) : MW C m (.ref a) H P := ⟨a, dx, fs, rfl, h, l, q⟩
/-- C(..) -/
theorem g_make {C : Addr} {sp : Sp} {dvs : List V} (q : tr σ H fun vs H1 => ∀ x dx, H1 x = none → H1 dx = none → dx ≠ x →
  sp (.ref x :: (vs ++ dvs)) (upd (upd H1 dx (.own x)) x (.ins C dx [])) (fun v H2 => v = .non ∧ Q (.ref x) H2) E) : tMake C sp dvs E tr σ H Q := q
theorem g_sl {r : V → Option Int → Option Int → Hp → VK → Prop} {tl th : TO} (q : te σ H fun x H1 => tl σ H1 fun l H2 => th σ H2 fun u H3 => r x l u H3 Q) : tSl r te tl th σ H Q := q
def PartW (x : V) (H : Hp) (Q : Option Int → Hp → Prop) : Prop := ∃ i, x = .int i ∧ Q (some i) H
theorem g_part {QO : Option Int → Hp → Prop} (q : te σ H fun x H1 => PartW x H1 QO) : tPart te σ H QO := q
theorem g_partW {QO : Option Int → Hp → Prop} {n : Int} (q : QO (some n) H) : PartW (.int n) H QO := ⟨n, rfl, q⟩
theorem g_noPart {QO : Option Int → Hp → Prop} (q : QO none H) : tNoPart σ H QO := q
theorem g_slL {p : Addr} {xs : List V} {lo hi : Option Int} (h : SqL K H p xs) (q : ∀ p, H p = none → Q (.ref p) (upd H p (.lst (cutV xs lo hi)))) : rSlU K (.ref p) lo hi H Q := .inl ⟨p, xs, rfl, h, q⟩
/-! loops: what is walked, then the loop's own question -/
def ForW (J : It) (g : TG) (tb : TS) (D : Ends) (σ : St) (H1 : Hp) : Prop := ∃ W : Nat → Nat → St → Hp → Prop, (∃ m, W 0 m σ H1) ∧ ∀ i m σ H, W i m σ H →
  (J.stop i H ∧ D.nx σ H) ∨ (J.go i H ∧ ∃ N : St → Hp → Prop, (∀ σ' H', N σ' H' → ∃ m', m' < m ∧ W (i + 1) m' σ' H') ∧ ∀ x H', J.yld i H x H' → g x σ H' fun σ2 H2 => tb { D with nx := N, ct := N, bk := D.nx } σ2 H2)
theorem g_for {wi : TI} {g : TG} {tb : TS} (q : wi σ H fun J H1 => ForW J g tb D σ H1) : tFor wi g tb D σ H := q
theorem g_seqFor {wi : TI} {g : TG} {tb : TS} (q : wi σ H fun J H1 => ForW J g tb { D with nx := u D } σ H1) : tSeq (tFor wi g tb) u D σ H := q
def LcW (J : It) (g : TG) (tt : TT) (te : TE) (vs : List Nat) (σ : St) (Q : VK) (H1 : Hp) : Prop := ∀ D, H1 D = none → ∃ W : Nat → Nat → Hp → Prop, (∃ m, W 0 m (upd H1 D (.lst []))) ∧ ∀ i m H, W i m H →
  (J.stop i H ∧ Q (.ref D) H) ∨ (J.go i H ∧ ∃ Nx : Hp → Prop, (∀ H', Nx H' → ∃ m', m' < m ∧ W (i + 1) m' H') ∧ ∀ x H', J.yld i H x H' → g x (wipe σ vs) H' fun σ2 H2 => wipe σ2 vs = wipe σ vs ∧ tt σ2 H2 fun b H3 =>
    if b = true then te σ2 H3 fun y H4 => ∃ acc, H4 D = some (.lst acc) ∧ acc.length < sizeLine ∧ Nx (upd H4 D (.lst (acc ++ [y]))) else Nx H3)
theorem g_lc {wi : TI} {g : TG} {tt : TT} {vs : List Nat} (q : wi σ H fun J H1 => LcW J g tt te vs σ Q H1) : tLc wi g tt te vs σ H Q := q
def LsW (K : PySem.W.Frag) (x : V) (H : Hp) (R : It → Hp → Prop) : Prop := ∃ a, x = .ref a ∧ (∃ xs, SqL K H a xs) ∧ R (Itl K a) H
theorem g_iList {R : It → Hp → Prop} (q : te σ H fun x H1 => LsW K x H1 R) : iList K te σ H R := q
theorem g_LsW {R : It → Hp → Prop} {a : Addr} {xs : List V} (h : SqL K H a xs) (q : R (Itl K a) H) : LsW K (.ref a) H R := ⟨a, rfl, ⟨xs, h⟩, q⟩
def R1W (vs : List V) (H : Hp) (R : It → Hp → Prop) : Prop := ∃ j : Int, vs = [.int j] ∧ -(2 ^ 62) ≤ j ∧ j < 2 ^ 62 ∧ R (Itr 0 j.toNat) H
theorem g_iR1 {R : It → Hp → Prop} (q : tr σ H fun vs H1 => R1W vs H1 R) : iRng1 tr σ H R := q
theorem g_R1W {R : It → Hp → Prop} {n : Nat} {j : Int} (e : j = (n : Int)) (h : n ≤ 100000) (q : R (Itr 0 n) H) : R1W [.int j] H R := by subst e; exact ⟨n, rfl, by omega, by omega, q⟩
def R2W (vs : List V) (H : Hp) (R : It → Hp → Prop) : Prop := ∃ i j : Int, vs = [.int i, .int j] ∧ (-(2 ^ 62) ≤ i ∧ i < 2 ^ 62 ∧ -(2 ^ 62) ≤ j ∧ j < 2 ^ 62) ∧ R (Itr i (j - i).toNat) H
theorem g_iR2 {R : It → Hp → Prop} (q : tr σ H fun vs H1 => R2W vs H1 R) : iRng2 tr σ H R := q
theorem g_gName {QG : St → Hp → Prop} (q : QG (σ.set i (some v)) H) : gName i v σ H QG := q
end
end Sk

namespace Sk
open PySem L2
/-! ### what is read for ever (R) within what is tracked (H) -/
structure Gr (M : List Addr) (R H R' H' : Hp) : Prop where
  rr : Same R R'
  rh : Same R' H'
  hh : ∀ a o, a ∉ M → H a = some o → H' a = some o
  fr : ∀ b o, H b = some o → R b = none → R' b = none
  th : ∀ b o, H b = some o → ∃ o', H' b = some o'
section
variable {M : List Addr} {R H R1 H1 R2 H2 : Hp} {p : Addr} {o : HO} {Q : VK} {K : PySem.W.Frag}
theorem Gr.refl (h : Same R H) : Gr M R H R H := ⟨Same.refl _, h, fun _ _ _ e => e, fun _ _ _ e => e, fun _ o e => ⟨o, e⟩⟩
theorem Gr.trans (a : Gr M R H R1 H1) (b : Gr M R1 H1 R2 H2) : Gr M R H R2 H2 :=
  ⟨a.rr.trans b.rr, b.rh, fun c o m e => b.hh c o m (a.hh c o m e), fun c o e n => let ⟨o', e'⟩ := a.th c o e; b.fr c o' e' (a.fr c o e n), fun c o e => let ⟨o', e'⟩ := a.th c o e; b.th c o' e'⟩
theorem Gr.mono {M' : List Addr} (a : Gr M R H R1 H1) (h : ∀ x ∈ M, x ∈ M') : Gr M' R H R1 H1 := ⟨a.rr, a.rh, fun c o m e => a.hh c o (fun z => m (h _ z)) e, a.fr, a.th⟩
theorem Gr.nil (a : Gr [] R H R1 H1) : Gr M R H R1 H1 := a.mono fun _ z => nomatch z
theorem Gr.same (a : Gr [] R H R1 H1) : Same H H1 := fun b o e => a.hh b o (by simp) e
theorem Gr.free (a : Gr M R H R1 H1) (h : H1 p = none) : H p = none := by
  cases e : H p with
  | none => rfl
  | some o => obtain ⟨o', e'⟩ := a.th p o e; rw [h] at e'; cases e'
/-- an object that changes is behind all changes still one that is not read for ever -/
theorem Gr.mut (h : Same R H) (n : R p = none) (e : H p = some o) {o' : HO} : Gr [p] R H R (upd H p o') := by
  refine ⟨Same.refl _, fun b u q => ?_, fun b u m q => ?_, fun _ _ _ q => q, fun b u q => ?_⟩
  · rw [upd_ne (ne_of_none q n)]; exact h b u q
  · rw [upd_ne (by simpa using m)]; exact q
  · by_cases hb : b = p
    · subst hb; exact ⟨o', upd_same⟩
    · exact ⟨u, by rw [upd_ne hb]; exact q⟩
theorem Same.free' (h : Same R H) (n : H p = none) : R p = none := h.free n
theorem Gr.newR (h : Same R H) (n : H p = none) : Gr M R H (upd R p o) (upd H p o) := by
  refine ⟨fun b u q => ?_, fun b u q => ?_, fun b u _ q => ?_, fun b u q m => ?_, fun b u q => ⟨u, ?_⟩⟩
  · rw [upd_ne (ne_of_none q (h.free n))]; exact q
  · by_cases hb : b = p
    · subst hb; rw [upd_same] at q ⊢; exact q
    · rw [upd_ne hb] at q ⊢; exact h b u q
  · rw [upd_ne (ne_of_none q n)]; exact q
  · rw [upd_ne (ne_of_none q n)]; exact m
  · rw [upd_ne (ne_of_none q n)]; exact q
theorem Gr.newM (h : Same R H) (n : H p = none) : Gr M R H R (upd H p o) := by
  refine ⟨Same.refl _, fun b u q => ?_, fun b u _ q => ?_, fun _ _ _ m => m, fun b u q => ⟨u, ?_⟩⟩
  · rw [upd_ne (ne_of_none (h b u q) n)]; exact h b u q
  · rw [upd_ne (ne_of_none q n)]; exact q
  · rw [upd_ne (ne_of_none q n)]; exact q
/-- not tracked (a word of its own, so that a search finds the heap) -/
def Free (H : Hp) (p : Addr) : Prop := H p = none
theorem Free.ne {a b : Addr} {o : HO} (n : Free H b) (h : H a = some o) : a ≠ b := ne_of_none h n
theorem Gr.frI (a : Gr M R H R1 H1) {b : Addr} {o : HO} (h : H b = some o) (n : R b = none) : R1 b = none := a.fr b o h n
theorem newR_ex {H1 : Hp} (h : Same R H) (n : H p = none) (q : upd H p o = H1) : ∃ R1, Free H p ∧ Gr [] R H R1 H1 ∧ R1 p = some o ∧ Same R1 H1 := by
  subst q
  exact ⟨upd R p o, n, .newR h n, upd_same, (Gr.newR (M := []) h n).rh⟩
/-- the same, R unchanged (kept apart so that a search along R does not run in a circle) -/
structure Mu (M : List Addr) (R H H1 : Hp) : Prop where
  g : Gr M R H R H1
theorem newM_ex {H1 : Hp} (h : Same R H) (n : H p = none) (q : upd H p o = H1) : Free H p ∧ Mu [] R H H1 ∧ R p = none ∧ H1 p = some o ∧ Same R H1 := by
  subst q
  exact ⟨n, ⟨.newM h n⟩, h.free n, upd_same, (Gr.newM (M := []) h n).rh⟩
theorem mut_ex {H1 : Hp} {o' : HO} (h : Same R H) (n : R p = none) (e : H p = some o) (q : upd H p o' = H1) : Mu [p] R H H1 ∧ H1 p = some o' ∧ Same R H1 := by
  subst q
  exact ⟨⟨.mut h n e⟩, upd_same, (Gr.mut h n e).rh⟩
theorem allocR (h : Same R H) (k : ∀ p R' H', Gr [] R H R' H' → R' p = some o → H p = none → Q (.ref p) H') : ∀ p, H p = none → Q (.ref p) (upd H p o) :=
  fun p n => k p (upd R p o) _ (.newR h n) upd_same n
theorem allocM (h : Same R H) (k : ∀ p H', Gr [] R H R H' → H p = none → R p = none → H' p = some o → Q (.ref p) H') : ∀ p, H p = none → Q (.ref p) (upd H p o) :=
  fun p n => k p _ (.newM h n) n (h.free n) upd_same
theorem Same.rd {H H' : Hp} (e : Same H H') {a : Addr} {u : HO} (h : Rd H a u) : Rd H' a u := by
  rcases h with h | ⟨o, h⟩
  · exact .inl (e _ _ h)
  · exact .inr ⟨o, e _ _ h⟩
theorem sqT_mono {H H' : Hp} {a : Addr} {xs : List V} (e : Same H H') (h : SqT K H a xs) : SqT K H' a xs := by
  rcases h with h | h
  · exact .inl (Same.rd e h)
  · exact .inr h
theorem sqL_mono {H H' : Hp} {a : Addr} {xs : List V} (e : Same H H') (h : SqL K H a xs) : SqL K H' a xs := e.seq h
mutual
theorem dp_mono {H H' : Hp} (e : Same H H') : ∀ {d : PyData} {v : V}, Dp K H v d → Dp K H' v d
  | .none, _, h => by cases h; exact .non
  | .bool b, _, h => by cases h; exact .bl b
  | .int i, _, h => by cases h; exact .int i
  | .str x, _, h => by cases h; exact .str x
  | .list ds, _, h => by cases h with | lst a b => exact .lst (sqL_mono e a) (dpAll_mono e b)
  | .tuple ds, _, h => by cases h with | tup a b => exact .tup (sqT_mono e a) (dpAll_mono e b)
  | .dict _, _, h => by cases h
theorem dpAll_mono {H H' : Hp} (e : Same H H') : ∀ {ds : List PyData} {vs : List V}, DpAll K H vs ds → DpAll K H' vs ds
  | [], _, h => by cases h; exact .nil
  | d :: ds, _, h => by cases h with | cons a b => exact .cons (dp_mono e a) (dpAll_mono e b)
end
theorem dpAll_len : ∀ {ds : List PyData} {vs : List V}, DpAll K H vs ds → vs.length = ds.length
  | [], _, h => by cases h; rfl
  | d :: ds, _, h => by cases h with | cons a b => simp [dpAll_len b]
theorem dpAll_get : ∀ {ds : List PyData} {vs : List V} {i : Nat} {d : PyData}, DpAll K H vs ds → ds[i]? = some d → ∃ v, vs[i]? = some v ∧ Dp K H v d
  | [], _, _, _, _, e => by simp at e
  | d :: ds, _, 0, d', h, e => by cases h with | cons a b => simp at e; subst e; exact ⟨_, rfl, a⟩
  | d :: ds, _, i + 1, d', h, e => by
    cases h with
    | cons a b =>
      obtain ⟨v, q, r⟩ := dpAll_get (i := i) b (by simpa using e)
      exact ⟨v, by simpa using q, r⟩
theorem dpAll_get' : ∀ {ds : List PyData} {vs : List V} {i : Nat} {v : V}, DpAll K H vs ds → vs[i]? = some v → ∃ d, ds[i]? = some d ∧ Dp K H v d
  | [], _, _, _, h, e => by cases h; simp at e
  | d :: ds, _, 0, v', h, e => by cases h with | cons a b => simp at e; subst e; exact ⟨_, rfl, a⟩
  | d :: ds, _, i + 1, v', h, e => by
    cases h with
    | cons a b =>
      obtain ⟨v, q, r⟩ := dpAll_get' (i := i) b (by simpa using e)
      exact ⟨v, by simpa using q, r⟩
theorem dpAll_app : ∀ {ds es : List PyData} {vs us : List V}, DpAll K H vs ds → DpAll K H us es → DpAll K H (vs ++ us) (ds ++ es)
  | [], _, _, _, h, g => by cases h; exact g
  | d :: ds, _, _, _, h, g => by cases h with | cons a b => exact .cons a (dpAll_app b g)
theorem dpAll_take : ∀ {ds : List PyData} {vs : List V} (n : Nat), DpAll K H vs ds → DpAll K H (vs.take n) (ds.take n)
  | _, _, 0, _ => by simpa using DpAll.nil
  | [], _, n + 1, h => by cases h; simpa using DpAll.nil
  | d :: ds, _, n + 1, h => by cases h with | cons a b => simpa using DpAll.cons a (dpAll_take n b)
theorem dpAll_drop : ∀ {ds : List PyData} {vs : List V} (n : Nat), DpAll K H vs ds → DpAll K H (vs.drop n) (ds.drop n)
  | _, _, 0, h => by simpa using h
  | [], _, n + 1, h => by cases h; simpa using DpAll.nil
  | d :: ds, _, n + 1, h => by cases h with | cons a b => simpa using dpAll_drop n b
theorem dpAll_set : ∀ {ds : List PyData} {vs : List V} (i : Nat) {v : V} {d : PyData}, DpAll K H vs ds → Dp K H v d → DpAll K H (vs.set i v) (ds.set i d)
  | [], _, i, _, _, h, _ => by cases h; simpa using DpAll.nil
  | d :: ds, _, 0, _, _, h, g => by cases h with | cons a b => simpa using DpAll.cons g b
  | d :: ds, _, i + 1, _, _, h, g => by cases h with | cons a b => simpa using DpAll.cons a (dpAll_set i b g)
theorem dpAll_ints : ∀ (ns : List Int), DpAll K H (ns.map V.int) (ns.map PyData.int)
  | [] => .nil
  | n :: ns => .cons (.int n) (dpAll_ints ns)
theorem dpAll_cut {ds : List PyData} {vs : List V} (h : DpAll K H vs ds) (lo hi : Option Int) :
    DpAll K H (cutV vs lo hi) ((ds.drop (HT.sIx ds.length 0 lo)).take (HT.sIx ds.length ds.length hi - HT.sIx ds.length 0 lo)) := by
  unfold cutV
  rw [dpAll_len h]
  exact dpAll_take _ (dpAll_drop _ h)
theorem dp_list {v : V} {ds : List PyData} (h : Dp K H v (.list ds)) : ∃ a vs, v = .ref a ∧ SqL K H a vs ∧ DpAll K H vs ds := by
  cases h with | lst a b => exact ⟨_, _, rfl, a, b⟩
theorem dp_tup {v : V} {ds : List PyData} (h : Dp K H v (.tuple ds)) : ∃ a vs, v = .ref a ∧ SqT K H a vs ∧ DpAll K H vs ds := by
  cases h with | tup a b => exact ⟨_, _, rfl, a, b⟩
theorem dp_int {v : V} {i : Int} (h : Dp K H v (.int i)) : v = .int i := by cases h; rfl
theorem dp_str {v : V} {i : Str} (h : Dp K H v (.str i)) : v = .str i := by cases h; rfl
theorem dp_non {v : V} (h : Dp K H v .none) : v = .non := by cases h; rfl
end
/-! ### equal data -/
mutual
/-- no bools, no dicts -/
def clean : PyData → Bool
  | .none | .int _ | .str _ => true
  | .bool _ | .dict _ => false
  | .list xs | .tuple xs => cleanAll xs
def cleanAll : List PyData → Bool
  | [] => true
  | x :: xs => clean x && cleanAll xs
end
mutual
theorem eqv_iff : ∀ {d e : PyData}, clean d = true → clean e = true → (PyData.eqv d e = true ↔ d = e)
  | .none, e, _, he => by cases e <;> simp_all [PyData.eqv, clean]
  | .int i, e, _, he => by cases e <;> simp_all [PyData.eqv, clean]
  | .str i, e, _, he => by cases e <;> simp_all [PyData.eqv, clean]
  | .bool i, e, hd, _ => by simp [clean] at hd
  | .dict i, e, hd, _ => by simp [clean] at hd
  | .list xs, e, hd, he => by
    cases e with
    | list ys => rw [PyData.eqv, eqvAll_iff (by simpa [clean] using hd) (by simpa [clean] using he)]; simp
    | _ => simp_all [PyData.eqv, clean]
  | .tuple xs, e, hd, he => by
    cases e with
    | tuple ys => rw [PyData.eqv, eqvAll_iff (by simpa [clean] using hd) (by simpa [clean] using he)]; simp
    | _ => simp_all [PyData.eqv, clean]
theorem eqvAll_iff : ∀ {ds es : List PyData}, cleanAll ds = true → cleanAll es = true → (PyData.eqvAll ds es = true ↔ ds = es)
  | [], [], _, _ => by simp [PyData.eqvAll]
  | [], e :: es, _, _ => by simp [PyData.eqvAll]
  | d :: ds, [], _, _ => by simp [PyData.eqvAll]
  | d :: ds, e :: es, hd, he => by
    have hd' : clean d = true ∧ cleanAll ds = true := by simpa [cleanAll] using hd
    have he' : clean e = true ∧ cleanAll es = true := by simpa [cleanAll] using he
    rw [PyData.eqvAll, Bool.and_eq_true, eqv_iff hd'.1 he'.1, eqvAll_iff hd'.2 he'.2]; simp
end
/-! ### enumerate -/
theorem for_enum {K : PySem.W.Frag} {a : Addr} {xs : List V} {g : TG} {tb : TS} {D : Ends} {σ : St} {H : Hp} (Pv : Nat → St → Hp → Prop) (h0 : Pv 0 σ H) (hl : ∀ i σ H, i ≤ xs.length → Pv i σ H → SqL K H a xs)
    (hs : ∀ i x T σ H, xs[i]? = some x → Pv i σ H → H T = none → g (.ref T) σ (upd H T (.tup [.int ((i : Nat) : Int), x])) fun σ2 H2 => tb { D with nx := Pv (i + 1), ct := Pv (i + 1), bk := D.nx } σ2 H2) (hd : ∀ σ H, Pv xs.length σ H → D.nx σ H) :
    ∃ W : Nat → Nat → St → Hp → Prop, (∃ m, W 0 m σ H) ∧ ∀ i m σ H, W i m σ H →
      ((Ite K a).stop i H ∧ D.nx σ H) ∨ ((Ite K a).go i H ∧ ∃ N : St → Hp → Prop, (∀ σ' H', N σ' H' → ∃ m', m' < m ∧ W (i + 1) m' σ' H') ∧ ∀ x H', (Ite K a).yld i H x H' → g x σ H' fun σ2 H2 => tb { D with nx := N, ct := N, bk := D.nx } σ2 H2) := by
  refine ⟨fun i m σ H => m = xs.length - i ∧ i ≤ xs.length ∧ Pv i σ H, ⟨xs.length, by simp, Nat.zero_le _, h0⟩, ?_⟩
  rintro i m σ H ⟨rfl, hi, p⟩
  have q := hl i σ H hi p
  by_cases hlt : i < xs.length
  · refine .inr ⟨⟨xs, xs[i], q, by simp [hlt]⟩, Pv (i + 1), fun σ' H' p' => ⟨xs.length - (i + 1), by omega, rfl, hlt, p'⟩, fun x H' y => ?_⟩
    obtain ⟨T, x, rfl, hT, rfl, y⟩ := y
    exact hs i x T σ _ (y xs q) p hT
  · have e : i = xs.length := by omega
    subst e
    exact .inl ⟨⟨xs, q, Nat.le_refl _⟩, hd σ H p⟩
theorem shaped_list {ds : List PyData} (h : ∀ d ∈ ds, d.canLay0 = true ∧ d.depth ≤ 60) : PySem.SeqAt.shaped (.list ds) = true := by
  have h1 : ∀ (l : List PyData), (∀ d ∈ l, d.canLay0 = true ∧ d.depth ≤ 60) → PyData.canLayAll0 l = true ∧ PyData.depthAll l ≤ 60 := by
    intro l
    induction l with
    | nil => intro _; exact ⟨by simp [PyData.canLayAll0], by simp [PyData.depthAll]⟩
    | cons d r ih =>
      intro h
      obtain ⟨a, b⟩ := ih fun d m => h d (List.mem_cons_of_mem _ m)
      obtain ⟨c, e⟩ := h d List.mem_cons_self
      exact ⟨by rw [PyData.canLayAll0, c, a]; rfl, by rw [PyData.depthAll]; omega⟩
  obtain ⟨a, b⟩ := h1 ds h
  unfold PySem.SeqAt.shaped
  rw [PyData.canLay0, a, Bool.true_and, decide_eq_true_eq, PyData.depth]
  omega
def EnW (K : PySem.W.Frag) (vs : List V) (H : Hp) (R : It → Hp → Prop) : Prop := ∃ a xs, vs = [.ref a] ∧ SqL K H a xs ∧ R (Ite K a) H
theorem g_iEnum {K : PySem.W.Frag} {σ : St} {H : Hp} {tr : TA} {R : It → Hp → Prop} (q : tr σ H fun vs H1 => EnW K vs H1 R) : iEnum K tr σ H R := q
theorem g_EnW {K : PySem.W.Frag} {H : Hp} {R : It → Hp → Prop} {a : Addr} {xs : List V} (h : SqL K H a xs) (q : R (Ite K a) H) : EnW K [.ref a] H R := ⟨a, xs, rfl, h, q⟩
theorem dpAll_cons {K : PySem.W.Frag} {H : Hp} {us : List V} {d : PyData} {ds : List PyData} (h : DpAll K H us (d :: ds)) : ∃ v vs, us = v :: vs ∧ Dp K H v d ∧ DpAll K H vs ds := by cases h with | cons a b => exact ⟨_, _, rfl, a, b⟩
theorem dpAll_nil {K : PySem.W.Frag} {H : Hp} {us : List V} (h : DpAll K H us []) : us = [] := by cases h; rfl
theorem dpT1 {K : PySem.W.Frag} {H : Hp} {v : V} {d : PyData} (h : Dp K H v (.tuple [d])) : ∃ a x, v = .ref a ∧ SqT K H a [x] ∧ Dp K H x d := by
  obtain ⟨a, us, rfl, hs, hu⟩ := dp_tup h
  obtain ⟨x, us, rfl, hx, hu⟩ := dpAll_cons hu
  obtain rfl := dpAll_nil hu
  exact ⟨a, x, rfl, hs, hx⟩
theorem dpT2 {K : PySem.W.Frag} {H : Hp} {v : V} {d e : PyData} (h : Dp K H v (.tuple [d, e])) : ∃ a x y, v = .ref a ∧ SqT K H a [x, y] ∧ Dp K H x d ∧ Dp K H y e := by
  obtain ⟨a, us, rfl, hs, hu⟩ := dp_tup h
  obtain ⟨x, us, rfl, hx, hu⟩ := dpAll_cons hu
  obtain ⟨y, us, rfl, hy, hu⟩ := dpAll_cons hu
  obtain rfl := dpAll_nil hu
  exact ⟨a, x, y, rfl, hs, hx, hy⟩
theorem dpT3 {K : PySem.W.Frag} {H : Hp} {v : V} {d e f : PyData} (h : Dp K H v (.tuple [d, e, f])) : ∃ a x y z, v = .ref a ∧ SqT K H a [x, y, z] ∧ Dp K H x d ∧ Dp K H y e ∧ Dp K H z f := by
  obtain ⟨a, us, rfl, hs, hu⟩ := dp_tup h
  obtain ⟨x, us, rfl, hx, hu⟩ := dpAll_cons hu
  obtain ⟨y, us, rfl, hy, hu⟩ := dpAll_cons hu
  obtain ⟨z, us, rfl, hz, hu⟩ := dpAll_cons hu
  obtain rfl := dpAll_nil hu
  exact ⟨a, x, y, z, rfl, hs, hx, hy, hz⟩
/-! ### isinstance -/
theorem callIsU {X : Cx} {K : PySem.W.Frag} (hK : X.K = K := by rfl) : CallR X (.builtin "isinstance") (rIsi K) := hK ▸ call_isi
theorem ty_tup {K : PySem.W.Frag} {H : Hp} {a : Addr} {xs : List V} (h : SqT K H a xs) : TyX K H (.ref a) (.type "tuple") := by
  rcases h with (h | ⟨o, h⟩) | ⟨o, its, n, hk, hc, _⟩
  · exact .base (.tup h)
  · exact .fTuple h
  · exact .kTuple hk hc
theorem ty_lst {K : PySem.W.Frag} {H : Hp} {a : Addr} {xs : List V} (h : SqL K H a xs) : TyX K H (.ref a) (.type "list") := by
  rcases h with (h | ⟨o, h⟩) | ⟨o, its, n, hk, hc, _⟩
  · exact .base (.lst h)
  · exact .base (.frz h)
  · exact .kList hk hc
theorem g_isi {K : PySem.W.Frag} {H : Hp} {Q : VK} {x : V} {n : String} {t : Value} {b : Bool} (ty : TyX K H x t) (e : PySem.W.kitOne K t (.type n) = some b) (q : Q (.bl b) H) : rIsi K [x, .ty n] H Q := ⟨x, .ty n, t, _, b, rfl, .ty n, ty, e, q⟩
theorem g_yes {σ : St} {H : Hp} {QB : Bool → Hp → Prop} (q : QB true H) : tYes σ H QB := q
theorem g_listL {K : PySem.W.Frag} {H : Hp} {Q : VK} {p : Addr} {ys : List V} (h : SqL K H p ys) (q : ∀ l, H l = none → Q (.ref l) (upd H l (.lst ys))) : rListU K [.ref p] H Q := ⟨p, ys, rfl, .inl h, q⟩
theorem g_seqIP {w t u : TS} {c : TT} {D : Ends} {σ : St} {H : Hp} (P : St → Hp → Prop) (hw : ∀ σ H, P σ H → w D σ H) (q : (∀ σ H, P σ H → w D σ H) → c σ H fun b H1 => if b = true then t { D with nx := w D } σ H1 else u { D with nx := w D } σ H1) : tSeq (tIfS c t u) w D σ H := q hw
theorem Mu.ofSame {M : List Addr} {R H H' : Hp} (h : Same R H) (s : Same H H') : Mu M R H H' := ⟨⟨Same.refl _, h.trans s, fun a o _ e => s a o e, fun _ _ _ m => m, fun a o e => ⟨o, s a o e⟩⟩⟩
/-- what a call leaves, as newM tells it -/
theorem keep_ex {R H H' : Hp} (h : Same R H) (s : Same H H') : Mu [] R H H' ∧ Same R H' := ⟨.ofSame h s, h.trans s⟩
theorem fresh_ex {R H : Hp} {p : Addr} (h : Same R H) (n : H p = none) : Free H p ∧ R p = none := ⟨n, h.free n⟩
/-! ### loops over tuples; unpacking -/
section
variable {K : PySem.W.Frag} {σ : St} {H : Hp} {te : TE} {u : TS} {D : Ends}
def TsW (K : PySem.W.Frag) (x : V) (H : Hp) (R : It → Hp → Prop) : Prop := ∃ a, x = .ref a ∧ (∃ xs, SqT K H a xs) ∧ R (Itt K a) H
theorem g_iTup {R : It → Hp → Prop} (q : te σ H fun x H1 => TsW K x H1 R) : iTup K te σ H R := q
theorem g_TsW {R : It → Hp → Prop} {a : Addr} {xs : List V} (h : SqT K H a xs) (q : R (Itt K a) H) : TsW K (.ref a) H R := ⟨a, rfl, ⟨xs, h⟩, q⟩
theorem g_asgT {n : Nat} {ts : TGs} (q : te σ H fun x H1 => gTup K n ts x σ H1 D.nx) : tAsg te (gTup K n ts) D σ H := q
theorem g_seqT {n : Nat} {ts : TGs} (q : te σ H fun x H1 => gTup K n ts x σ H1 fun σ2 H2 => u D σ2 H2) : tSeq (tAsg te (gTup K n ts)) u D σ H := q
theorem g_gTup {n : Nat} {ts : TGs} {a : Addr} {xs : List V} {QG : St → Hp → Prop} (h : SqT K H a xs) (e : xs.length = n) (q : ts xs σ H QG) : gTup K n ts (.ref a) σ H QG := ⟨a, xs, rfl, h, e, q⟩
theorem g_gCons {t : TG} {ts : TGs} {v : V} {r : List V} {QG : St → Hp → Prop} (q : t v σ H fun σ' H' => ts r σ' H' QG) : gCons t ts (v :: r) σ H QG := ⟨v, r, rfl, q⟩
theorem g_gNil {QG : St → Hp → Prop} (q : QG σ H) : gNil [] σ H QG := ⟨rfl, q⟩
end
/-- what stands behind an if, told once (N: kept closed so that a walk stops there) -/
theorem g_seqIN {w t u : TS} {c : TT} {D : Ends} {σ : St} {H : Hp} (P : St → Hp → Prop) (hw : ∀ σ H, P σ H → w D σ H) (q : ∀ N : St → Hp → Prop, (∀ σ H, P σ H → N σ H) → c σ H fun b H1 => if b = true then t { D with nx := N } σ H1 else u { D with nx := N } σ H1) : tSeq (tIfS c t u) w D σ H := q _ hw
/-- the same of any first statement -/
theorem g_seqN {w t : TS} {D : Ends} {σ : St} {H : Hp} (P : St → Hp → Prop) (hw : ∀ σ H, P σ H → w D σ H) (q : ∀ N : St → Hp → Prop, (∀ σ H, P σ H → N σ H) → t { D with nx := N } σ H) : tSeq t w D σ H := q _ hw
theorem rep_one (c : Int) (k : Nat) : (List.replicate k [V.int c]).flatten = (List.replicate k c).map V.int := by
  induction k with
  | zero => rfl
  | succ k ih => rw [List.replicate_succ, List.flatten_cons, ih]; rfl
theorem g_repZ {H : Hp} {Q : VK} {p : Addr} {c k : Int} (h : H p = some (.lst [.int c])) (h1 : -100000 ≤ k) (h2 : k ≤ 100000) (q : ∀ p, H p = none → Q (.ref p) (upd H p (.lst ((List.replicate k.toNat c).map V.int)))) : rMulU (.ref p) (.int k) H Q :=
  g_rep h (by omega) (by omega) (by have z : sizeLine = 16777216 := sizeLine_eq; rw [z]; simp; omega) (by rw [rep_one]; exact q)
theorem g_catI {K : PySem.W.Frag} {H : Hp} {Q : VK} {a b : Addr} {l m : List Int} (h : H a = some (.lst (l.map V.int))) (g : H b = some (.lst (m.map V.int))) (z : l.length + m.length ≤ 100000) (q : ∀ p, H p = none → Q (.ref p) (upd H p (.lst ((l ++ m).map V.int)))) : rAddU K (.ref a) (.ref b) H Q :=
  g_cat h g (by have z' : sizeLine = 16777216 := sizeLine_eq; rw [z']; simp; omega) (by rw [← List.map_append]; exact q)
theorem call_ex {R H H' : Hp} {p : Addr} (h : Same R H) (s : Same H H') (n : H p = none) : Free H p ∧ Mu [] R H H' ∧ R p = none ∧ Same R H' := ⟨n, .ofSame h s, h.free n, h.trans s⟩
theorem made_same {H : Hp} {x dx C : Addr} (h1 : H x = none) (h2 : H dx = none) : Same H (upd (upd H dx (.own x)) x (.ins C dx [])) := fun b o e => by
  rw [upd_ne (ne_of_none e h1), upd_ne (ne_of_none e h2)]; exact e
/-- what is changed and was not there may be left out -/
theorem Gr.forget {M M' : List Addr} {R H R1 H1 : Hp} (a : Gr M' R H R1 H1) (h : ∀ x ∈ M', x ∉ M → H x = none) : Gr M R H R1 H1 := ⟨a.rr, a.rh, fun c o m e => a.hh c o (fun z => by rw [h c z m] at e; cases e) e, a.fr, a.th⟩
/-! ### all that is there but the list at b is read for ever -/
def wo (H : Hp) (b : Addr) : Hp := fun a => if a = b then none else H a
theorem wo_self {H : Hp} {b : Addr} : wo H b b = none := if_pos rfl
theorem wo_same {H : Hp} {b : Addr} : Same (wo H b) H := fun a o e => by unfold wo at e; split at e; cases e; exact e
theorem same_wo {R H : Hp} {b : Addr} (h : Same R H) (n : R b = none) : Same R (wo H b) := fun a o e => by
  unfold wo
  rw [if_neg (fun z => by rw [z, n] at e; cases e)]
  exact h _ _ e
theorem rd_wo {H : Hp} {a b : Addr} {l xs : List V} (hb : H b = some (.lst l)) (h : Rd H a (.tup xs)) : Rd (wo H b) a (.tup xs) := by
  have : a ≠ b := by
    rintro rfl
    rcases h with h | ⟨o, h⟩ <;> rw [hb] at h <;> cases h
  unfold Rd wo
  rw [if_neg this]
  exact h
theorem sqT_wo {K : PySem.W.Frag} {H : Hp} {a b : Addr} {l xs : List V} (hb : H b = some (.lst l)) (h : SqT K H a xs) : SqT K (wo H b) a xs := by
  rcases h with h | h
  · exact .inl (rd_wo hb h)
  · exact .inr h
mutual
def tupOnly : PyData → Bool
  | .none | .bool _ | .int _ | .str _ => true
  | .tuple ds => tupOnlyAll ds
  | .list _ | .dict _ => false
def tupOnlyAll : List PyData → Bool
  | [] => true
  | d :: ds => tupOnly d && tupOnlyAll ds
end
mutual
theorem dp_wo {K : PySem.W.Frag} {H : Hp} {b : Addr} {l : List V} (hb : H b = some (.lst l)) : ∀ {d : PyData} {v : V}, tupOnly d = true → Dp K H v d → Dp K (wo H b) v d
  | .none, _, _, h => by cases h; exact .non
  | .bool b, _, _, h => by cases h; exact .bl b
  | .int i, _, _, h => by cases h; exact .int i
  | .str x, _, _, h => by cases h; exact .str x
  | .tuple ds, _, t, h => by cases h with | tup p q => exact .tup (sqT_wo hb p) (dpAll_wo hb (by simpa [tupOnly] using t) q)
  | .list _, _, t, _ => by simp [tupOnly] at t
  | .dict _, _, t, _ => by simp [tupOnly] at t
theorem dpAll_wo {K : PySem.W.Frag} {H : Hp} {b : Addr} {l : List V} (hb : H b = some (.lst l)) : ∀ {ds : List PyData} {vs : List V}, tupOnlyAll ds = true → DpAll K H vs ds → DpAll K (wo H b) vs ds
  | [], _, _, h => by cases h; exact .nil
  | d :: ds, _, t, h => by
    have t' : tupOnly d = true ∧ tupOnlyAll ds = true := by simpa [tupOnlyAll] using t
    cases h with | cons p q => exact .cons (dp_wo hb t'.1 p) (dpAll_wo hb t'.2 q)
end
theorem tupOnly_ints : ∀ l : List Int, tupOnlyAll (l.map PyData.int) = true
  | [] => by simp [tupOnlyAll]
  | _ :: r => by simp [tupOnlyAll, tupOnly, tupOnly_ints r]
/-! ### what can be compared -/
def LaD (d : PyData) (n : Nat) : Prop := d.canLay0 = true ∧ d.depth ≤ n
theorem laAll {n : Nat} : ∀ (l : List PyData), (∀ d ∈ l, LaD d n) → PyData.canLayAll0 l = true ∧ PyData.depthAll l ≤ n
  | [], _ => ⟨by simp [PyData.canLayAll0], by simp [PyData.depthAll]⟩
  | d :: r, h => by
    obtain ⟨a, b⟩ := laAll r fun d m => h d (List.mem_cons_of_mem _ m)
    obtain ⟨c, e⟩ := h d List.mem_cons_self
    exact ⟨by rw [PyData.canLayAll0, c, a]; rfl, by rw [PyData.depthAll]; omega⟩
theorem la_int {i : Int} {n : Nat} : LaD (.int i) n := ⟨by simp [PyData.canLay0], by simp [PyData.depth]⟩
theorem la_non {n : Nat} : LaD .none n := ⟨by simp [PyData.canLay0], by simp [PyData.depth]⟩
theorem la_bl {i : Bool} {n : Nat} : LaD (.bool i) n := ⟨by simp [PyData.canLay0], by simp [PyData.depth]⟩
theorem la_lst {l : List PyData} {n : Nat} (h : ∀ d ∈ l, LaD d n) : LaD (.list l) (n + 1) := ⟨by rw [PyData.canLay0]; exact (laAll l h).1, by rw [PyData.depth]; have := (laAll l h).2; omega⟩
theorem la_tup {l : List PyData} {n : Nat} (h : ∀ d ∈ l, LaD d n) : LaD (.tuple l) (n + 1) := ⟨by rw [PyData.canLay0]; exact (laAll l h).1, by rw [PyData.depth]; have := (laAll l h).2; omega⟩
theorem la_ints {l : List Int} {n : Nat} : ∀ d ∈ l.map PyData.int, LaD d n := fun d h => by obtain ⟨i, _, rfl⟩ := List.mem_map.mp h; exact la_int
theorem la_up {d : PyData} {n m : Nat} (h : LaD d n) (z : n ≤ m) : LaD d m := ⟨h.1, Nat.le_trans h.2 z⟩
theorem la_non' {n : Nat} : ∀ d ∈ ([] : List PyData), LaD d n := fun _ h => nomatch h
theorem la_cons {d : PyData} {r : List PyData} {n : Nat} (a : LaD d n) (b : ∀ d ∈ r, LaD d n) : ∀ e ∈ d :: r, LaD e n := fun e h => by
  rcases List.mem_cons.mp h with rfl | h
  · exact a
  · exact b e h
theorem la_shaped {d : PyData} {n : Nat} (h : LaD d n) (z : n ≤ 60 := by decide) : PySem.SeqAt.shaped d = true := by
  unfold PySem.SeqAt.shaped
  rw [h.1, Bool.true_and, decide_eq_true_eq]
  have := h.2
  omega
theorem clean_ints : ∀ l : List Int, cleanAll (l.map PyData.int) = true
  | [] => rfl
  | _ :: r => by rw [List.map_cons, cleanAll, clean, clean_ints r]; rfl
theorem eqv_same {d : PyData} (h : clean d = true) : PyData.eqv d d = true := (eqv_iff h h).mpr rfl
theorem eqv_dec {d e : PyData} (h : clean d = true) (g : clean e = true) {b : Bool} (x : b = true ↔ d = e) : PyData.eqv d e = b := by
  have := eqv_iff h g
  cases b <;> simp_all
theorem eqv_bls : ∀ l m : List Bool, PyData.eqvAll (l.map PyData.bool) (m.map PyData.bool) = decide (l = m)
  | [], [] => by simp [PyData.eqvAll]
  | [], _ :: _ => by simp [PyData.eqvAll]
  | _ :: _, [] => by simp [PyData.eqvAll]
  | a :: r, b :: t => by
    simp only [List.map_cons, PyData.eqvAll, PyData.eqv, eqv_bls r t]
    by_cases h : a = b <;> by_cases h' : r = t <;> simp [h, h']
theorem g_neDa {K : PySem.W.Frag} {H : Hp} {Q : VK} {v w : V} {d e : PyData} (hv : Dp K H v d) (hw : Dp K H w e) (hd : PySem.SeqAt.shaped d = true) (he : PySem.SeqAt.shaped e = true) (hn : (∃ a, v = .ref a) ∨ v = .non) (q : Q (.bl (!PyData.eqv d e)) H) : rNeU K v w H Q := by
  have : rNeD K v w H Q := ⟨d, e, hv, hw, hd, he, q⟩
  rcases hn with ⟨a, rfl⟩ | rfl <;> exact this
theorem g_eqDa {K : PySem.W.Frag} {H : Hp} {Q : VK} {v w : V} {d e : PyData} (hv : Dp K H v d) (hw : Dp K H w e) (hd : PySem.SeqAt.shaped d = true) (he : PySem.SeqAt.shaped e = true) (hn : (∃ a, v = .ref a) ∨ v = .non) (q : Q (.bl (PyData.eqv d e)) H) : rEqU K v w H Q := by
  have : rEqD K v w H Q := ⟨d, e, hv, hw, hd, he, q⟩
  rcases hn with ⟨a, rfl⟩ | rfl <;> exact this
end Sk

namespace Sk
open PySem L2
/-! ### layouts, blocks, cells: the plain side -/
def partsOf (n z : Int) : Int := (n + z - 1) / z
def lows : Int → Nat → List Int
  | _, 0 => []
  | n, k + 1 => n % 256 :: lows (n / 256) k
@[simp] theorem lows_len : ∀ (n : Int) (k : Nat), (lows n k).length = k
  | _, 0 => rfl
  | n, k + 1 => by rw [lows, List.length_cons, lows_len]
def lowsRest : Int → Nat → Int
  | n, 0 => n
  | n, k + 1 => lowsRest (n / 256) k
theorem lows_succ : ∀ (n : Int) (k : Nat), lows n (k + 1) = lows n k ++ [lowsRest n k % 256]
  | n, 0 => rfl
  | n, k + 1 => by rw [lows, lows_succ (n / 256) k, lows, List.cons_append, lowsRest]
theorem lowsRest_succ : ∀ (n : Int) (k : Nat), lowsRest n (k + 1) = lowsRest n k / 256
  | n, 0 => rfl
  | n, k + 1 => by rw [lowsRest, lowsRest_succ (n / 256) k, lowsRest]
def pairs : List Int → List Int
  | [] => []
  | n :: r => n % 256 :: n / 256 :: pairs r
@[simp] theorem pairs_len : ∀ l : List Int, (pairs l).length = 2 * l.length
  | [] => rfl
  | n :: r => by rw [pairs, List.length_cons, List.length_cons, pairs_len, List.length_cons]; omega
theorem pairs_snoc (n : Int) : ∀ l : List Int, pairs (l ++ [n]) = pairs l ++ [n % 256, n / 256]
  | [] => rfl
  | m :: r => by rw [List.cons_append, pairs, pairs_snoc n r, pairs, List.cons_append, List.cons_append]
theorem map_get {ns : List Int} {i : Nat} {x : V} (h : (ns.map V.int)[i]? = some x) : ∃ n, ns[i]? = some n ∧ x = .int n := by
  rw [List.getElem?_map] at h
  obtain ⟨n, hn, rfl⟩ := Option.map_eq_some_iff.mp h
  exact ⟨n, hn, rfl⟩
theorem take_snoc {ns : List Int} {i : Nat} {n : Int} (h : ns[i]? = some n) : ns.take (i + 1) = ns.take i ++ [n] := by
  rw [List.take_add_one, h]; rfl
structure Lay where
  seg : Int
  blk : Int
  oct : Int
def Lay.payload (L : Lay) : Int := L.blk - 1
def Lay.limit (L : Lay) : Int := (L.seg - 2) * L.payload
def Lay.lastId (L : Lay) : Int := L.limit + L.payload
def Lay.fan (L : Lay) : Int := L.oct / 2
def Lay.region (L : Lay) : Int := partsOf (2 * ((3 + 1) * L.lastId + 3 + 3 + L.seg)) L.oct
def Lay.device (L : Lay) : Int := 2 * L.region + L.seg * L.blk
def Lay.flds (L : Lay) : List (Str × V) := [("segments", .int L.seg), ("segment_blocks", .int L.blk), ("block_size", .int L.oct), ("payload", .int L.payload), ("limit", .int L.limit), ("last_id", .int L.lastId), ("fan", .int L.fan), ("region_blocks", .int L.region), ("device_blocks", .int L.device)]
structure Lay.Ok (L : Lay) : Prop where
  s1 : 4 ≤ L.seg
  s2 : L.seg ≤ 16
  b1 : 16 ≤ L.blk
  b2 : L.blk ≤ 32
  o1 : L.oct = 64 ∨ L.oct = 128 ∨ L.oct = 256
  fits : 16 + 2 * L.payload + partsOf L.lastId 8 ≤ L.oct
theorem oct_in {z : Int} (h : z = 64 ∨ z = 128 ∨ z = 256) : (!inV (.int z) [.int 64, .int 128, .int 256]) = false := by
  rcases h with rfl | rfl | rfl <;> decide
/-- a layout at a, in what is read -/
def LayAt (C : Addr) (H : Hp) (a : Addr) (L : Lay) : Prop := ∃ dx, H a = some (.ins C dx L.flds)
theorem LayAt.mono {C : Addr} {H H' : Hp} {a : Addr} {L : Lay} (h : LayAt C H a L) (s : Same H H') : LayAt C H' a L := let ⟨dx, e⟩ := h; ⟨dx, s _ _ e⟩
/-- a block that is neither a COMMIT nor a MOVE -/
structure Blk where
  kind : Int
  seq : Int
  place : Int
  body : List Int
def intsD (l : List Int) : PyData := .tuple (l.map PyData.int)
def Blk.d (b : Blk) : PyData := .tuple [.int b.kind, .int b.seq, .int b.place, intsD b.body]
def found (kind : Int) (body : List Int) : List Int := if kind = 3 then body else pairs body
def bodyOf (L : Lay) (kind : Int) (body : List Int) : List Int := found kind body ++ List.replicate (L.oct - ((found kind body).length : Int)).toNat 0
theorem found_len {k : Int} {l : List Int} : (found k l).length ≤ 2 * l.length := by
  unfold found
  split
  · omega
  · rw [pairs_len]; omega
def octs (L : Lay) : Option Blk → List Int
  | none => List.replicate (16 + L.oct).toNat 0
  | some b => (([b.kind] ++ lows b.seq 6 ++ lows b.place 2) ++ List.replicate 7 0) ++ bodyOf L b.kind b.body
def optD : Option Blk → PyData
  | none => .none
  | some b => b.d
/-- the blocks that are told here -/
def BlkOk : Option Blk → Prop
  | none => True
  | some b => 3 ≤ b.kind ∧ b.body.length ≤ 300
theorem dpInts {K : PySem.W.Frag} {H : Hp} {v : V} {l : List Int} (h : Dp K H v (intsD l)) : ∃ t, v = .ref t ∧ SqT K H t (l.map V.int) := by
  obtain ⟨t, us, rfl, ht, hu⟩ := dp_tup h
  refine ⟨t, rfl, ?_⟩
  have : us = l.map V.int := by
    clear ht h
    induction l generalizing us with
    | nil => exact dpAll_nil hu
    | cons n r ih =>
      obtain ⟨v, vs, rfl, hv, hr⟩ := dpAll_cons hu
      rw [dp_int hv, ih _ hr]; rfl
  rw [← this]; exact ht
theorem dpBlk {K : PySem.W.Frag} {H : Hp} {v : V} {b : Blk} (h : Dp K H v b.d) : ∃ t u, v = .ref t ∧ SqT K H t [.int b.kind, .int b.seq, .int b.place, .ref u] ∧ SqT K H u (b.body.map V.int) := by
  obtain ⟨a, us, rfl, hs, hu⟩ := dp_tup h
  obtain ⟨x, us, rfl, hx, hu⟩ := dpAll_cons hu
  obtain ⟨y, us, rfl, hy, hu⟩ := dpAll_cons hu
  obtain ⟨z, us, rfl, hz, hu⟩ := dpAll_cons hu
  obtain ⟨w, us, rfl, hw, hu⟩ := dpAll_cons hu
  obtain rfl := dpAll_nil hu
  obtain ⟨u, rfl, hb⟩ := dpInts hw
  rw [dp_int hx, dp_int hy, dp_int hz] at hs
  exact ⟨a, u, rfl, hs, hb⟩
theorem bodyOf_len {L : Lay} {k : Int} {l : List Int} (h : L.Ok) (hl : l.length ≤ 300) : (bodyOf L k l).length ≤ 1000 := by
  have f1 := found_len (k := k) (l := l)
  have o1 := h.o1
  unfold bodyOf
  rw [List.length_append, List.length_replicate]
  omega
def chkStep (t o : Int) : Int := (t * 257 + o + 1) % 4294967291
def chk (L : Lay) (addr : Int) (b : Option Blk) : Int := (octs L b).foldl chkStep (addr + 1)
abbrev Cell := Option (Option Blk × Int)
def cellD : Cell → PyData
  | none => .none
  | some (b, c) => .tuple [optD b, .int c]
def sealOf (L : Lay) (n : Int) : Option Blk → Cell
  | none => none
  | some b => some (some b, chk L n (some b))
theorem optV {K : PySem.W.Frag} {H : Hp} {v : V} {b : Option Blk} (h : Dp K H v (optD b)) : (b = none ∧ v = .non) ∨ ∃ c t, b = some c ∧ v = .ref t := by
  cases b with
  | none => exact .inl ⟨rfl, dp_non h⟩
  | some b => obtain ⟨t, u, rfl, _⟩ := dpBlk h; exact .inr ⟨b, t, rfl, rfl⟩
def whole (L : Lay) (n : Int) : Cell → Bool
  | none => false
  | some (none, _) => false
  | some (some b, c) => decide (c = chk L n (some b))
def CellOk : Cell → Prop
  | none => True
  | some (b, _) => BlkOk b
theorem cellV {K : PySem.W.Frag} {H : Hp} {v : V} {c : Cell} (h : Dp K H v (cellD c)) : (c = none ∧ v = .non) ∨ ∃ b k t u, c = some (b, k) ∧ v = .ref t ∧ SqT K H t [u, .int k] ∧ Dp K H u (optD b) := by
  rcases c with _ | ⟨b, k⟩
  · exact .inl ⟨rfl, dp_non h⟩
  · obtain ⟨t, u, w, rfl, ht, hu, hw⟩ := dpT2 h
    rw [dp_int hw] at ht
    exact .inr ⟨b, k, t, u, rfl, rfl, ht, hu⟩
def lays : List Lay := [⟨4, 16, 64⟩, ⟨4, 16, 64⟩, ⟨5, 16, 64⟩, ⟨4, 16, 128⟩, ⟨4, 17, 64⟩, ⟨4, 16, 256⟩]
theorem lays_ok : ∀ L ∈ lays, L.Ok := by
  intro L h
  simp only [lays, List.mem_cons, List.not_mem_nil, or_false] at h
  rcases h with rfl | rfl | rfl | rfl | rfl | rfl <;> exact ⟨by decide, by decide, by decide, by decide, by decide, by decide⟩
/-- a block that fills its cell -/
structure Full (L : Lay) (b : Blk) : Prop where
  k : 3 ≤ b.kind
  d : b.kind = 3 → (b.body.length : Int) = L.oct
  p : b.kind ≠ 3 → 2 * (b.body.length : Int) = L.oct
  r : b.kind ≠ 3 → ∀ n ∈ b.body, 0 ≤ n ∧ n < 65536
def FullO (L : Lay) : Option Blk → Prop
  | none => True
  | some b => Full L b
def headOf (b : Blk) : List Int := ([b.kind] ++ lows b.seq 6 ++ lows b.place 2) ++ List.replicate 7 0
theorem octs_full {L : Lay} {b : Blk} (h : Full L b) : octs L (some b) = headOf b ++ found b.kind b.body := by
  show headOf b ++ bodyOf L b.kind b.body = _
  have e : (L.oct - ((found b.kind b.body).length : Int)).toNat = 0 := by
    unfold found
    split
    · have := h.d (by assumption); omega
    · have := h.p (by assumption); rw [pairs_len]; omega
  unfold bodyOf
  rw [e, List.replicate_zero, List.append_nil]
theorem pair_low {n : Int} (h : 0 ≤ n ∧ n < 65536) : [n % 256, n / 256] = lows n 2 := by
  have e : n / 256 = n / 256 % 256 := by omega
  show _ = [n % 256, n / 256 % 256]
  rw [← e]
@[simp] theorem headOf_len (b : Blk) : (headOf b).length = 16 := by unfold headOf; simp
end Sk

namespace Sk
open PySem L2
local macro_rules | `(tactic| fail "ne") => `(tactic| first
  | assumption
  | exact Ne.symm (by assumption)
  | exact Free.ne (by with_reducible assumption) (by fail "hp")
  | exact Ne.symm (Free.ne (by with_reducible assumption) (by fail "hp")))
local macro_rules | `(tactic| fail "rp") => `(tactic| first
  | assumption
  | exact Gr.rr (by assumption) _ _ (by fail "rp"))
local macro_rules | `(tactic| fail "nm") => `(tactic| first
  | exact List.not_mem_nil
  | (rw [List.mem_singleton]; fail "ne")
  | (simp only [List.mem_cons, List.not_mem_nil, not_or, or_false]; (repeat' constructor) <;> fail "ne"))
local macro_rules | `(tactic| fail "hp") => `(tactic| first
  | assumption
  | (with_reducible exact upd_same)
  | ((with_reducible show upd _ _ _ _ = _); refine Eq.trans (upd_ne ?_) ?_; (fail "ne"); (fail "hp"))
  | exact (show Same _ _ by assumption) _ _ (by fail "rp")
  | exact Gr.hh (by assumption) _ _ (by fail "nm") (by fail "hp")
  | exact Gr.hh (Mu.g (by assumption)) _ _ (by fail "nm") (by fail "hp"))
local macro_rules | `(tactic| fail "sr") => `(tactic| first
  | assumption
  | exact SqL.of (by assumption)
  | exact SqT.of (by assumption)
  | exact sqL_mono (Gr.rr (by assumption)) (by fail "sr")
  | exact sqT_mono (Gr.rr (by assumption)) (by fail "sr"))
local macro_rules | `(tactic| fail "sq") => `(tactic| first
  | assumption
  | exact SqL.of (by fail "hp")
  | exact SqT.of (by fail "hp")
  | exact sqL_mono (show Same _ _ by assumption) (by fail "sr")
  | exact sqT_mono (show Same _ _ by assumption) (by fail "sr"))
local macro_rules | `(tactic| fail "dr") => `(tactic| first
  | assumption
  | ((with_reducible show DpAll _ _ _ _); first
    | exact DpAll.nil
    | (refine DpAll.cons ?_ ?_ <;> fail "dr")
    | exact dpAll_mono (Gr.rr (by assumption)) (by fail "dr"))
  | ((with_reducible show Dp _ _ _ _); first
    | exact Dp.non
    | exact Dp.int _
    | exact Dp.str _
    | exact Dp.bl _
    | exact Dp.tup (SqT.of (by fail "rp")) (by fail "dr")
    | exact Dp.lst (SqL.of (by fail "rp")) (by fail "dr")
    | exact dp_mono (Gr.rr (by assumption)) (by fail "dr")))
local macro_rules | `(tactic| fail "dp") => `(tactic| first
  | assumption
  | ((with_reducible show DpAll _ _ _ _); exact dpAll_mono (show Same _ _ by assumption) (by fail "dr"))
  | ((with_reducible show Dp _ _ _ _); first
    | exact Dp.non
    | exact Dp.int _
    | exact Dp.str _
    | exact Dp.bl _
    | exact dp_mono (show Same _ _ by assumption) (by fail "dr")))
local macro_rules | `(tactic| fail "gr") => `(tactic| first
  | assumption
  | exact Gr.nil (by assumption)
  | exact Mu.g (by assumption)
  | exact Gr.nil (Mu.g (by assumption))
  | (refine Gr.trans ?_ (by first | assumption | exact Gr.nil (by assumption) | exact Mu.g (by assumption) | exact Gr.nil (Mu.g (by assumption))); fail "gr")
  | exact Gr.refl (by assumption))
local macro_rules | `(tactic| fail "rn") => `(tactic| first
  | assumption
  | exact Gr.frI (by assumption) (by fail "hp") (by fail "rn"))
local macro_rules | `(tactic| fail "newR") => `(tactic| (
  intro p n; generalize hq : upd _ p _ = H1; have z := newR_ex (by assumption) n hq; obtain ⟨R1, f, g, h, s⟩ := z; clear hq n))
local macro_rules | `(tactic| fail "newM") => `(tactic| (
  intro p n; generalize hq : upd _ p _ = H1; have z := newM_ex (by assumption) n hq; obtain ⟨f, g, m, h, s⟩ := z; clear hq n))
local macro_rules | `(tactic| fail "ret") => `(tactic| (
  intro p H1 sk n h; have z := call_ex (by assumption) sk n; obtain ⟨f, g, m, s⟩ := z; clear sk n))
local macro_rules | `(tactic| fail "mut") => `(tactic| (
  generalize hq : upd _ _ _ = H1; have z := mut_ex (by assumption) (by fail "rn") (by fail "hp") hq; obtain ⟨g, h, s⟩ := z; clear hq))
local macro_rules | `(tactic| fail "ar") => `(tactic| first
  | assumption
  | decide
  | omega
  | exact Or.inr ⟨by decide, by decide⟩
  | exact Or.inl ⟨by decide, by decide⟩
  | exact ⟨by decide, by decide, by decide⟩
  | exact ⟨by omega, by omega⟩
  | exact Or.inr ⟨by omega, by omega⟩
  | exact Or.inl ⟨by omega, by omega⟩)
local macro_rules | `(tactic| fail "st") => `(tactic| first
  | (with_reducible refine g_seqA ?_)
  | (with_reducible refine g_seqI ?_)
  | (with_reducible refine g_seqFor ?_)
  | (with_reducible refine g_seqD ?_)
  | (with_reducible refine g_seqS ?_)
  | (with_reducible refine g_seq ?_)
  | (with_reducible refine g_asg ?_)
  | (with_reducible refine g_asgS ?_)
  | (with_reducible refine g_drop ?_)
  | (with_reducible refine g_if ?_)
  | (with_reducible refine g_ret ?_)
  | (with_reducible refine g_retN ?_)
  | (with_reducible refine g_next ?_)
  | (with_reducible refine g_op ?_)
  | (with_reducible refine g_un ?_)
  | (with_reducible refine g_c ?_)
  | ((with_reducible show tVar _ _ _ _); refine g_var rfl ?_)
  | (with_reducible refine g_add ?_)
  | (with_reducible refine g_sub ?_)
  | (with_reducible refine g_neg ?_)
  | (with_reducible refine g_cmp ?_)
  | (with_reducible refine g_eqI ?_)
  | (with_reducible refine g_eqS ?_)
  | (with_reducible refine g_neI ?_)
  | (with_reducible refine g_neS ?_)
  | (with_reducible refine g_isN ?_)
  | (with_reducible refine g_notN ?_)
  | (with_reducible refine g_isB ?_)
  | (with_reducible refine g_notB ?_)
  | ((with_reducible refine g_mul ?_ ?_); (fail "ar"))
  | ((with_reducible refine g_mod ?_ ?_); (fail "ar"))
  | ((with_reducible refine g_div ?_ ?_); (fail "ar"))
  | ((with_reducible refine g_pow ?_ ?_); (fail "ar"))
  | (with_reducible refine g_nil ?_)
  | (with_reducible refine g_cons ?_)
  | (with_reducible refine g_cb ?_)
  | (with_reducible refine g_tup ?_)
  | (with_reducible refine g_lst ?_)
  | (with_reducible refine g_test ?_)
  | (with_reducible refine g_tB ?_)
  | (with_reducible refine g_yes ?_)
  | (with_reducible refine g_truth ?_)
  | (with_reducible refine g_bl ?_)
  | (with_reducible refine g_not ?_)
  | (with_reducible refine g_and ?_)
  | (with_reducible refine g_or ?_)
  | (with_reducible refine g_ife ?_)
  | (with_reducible refine g_andV ?_)
  | (with_reducible refine g_orV ?_)
  | (with_reducible refine g_notV ?_)
  | (with_reducible refine g_int ?_)
  | (with_reducible refine g_intB ?_)
  | (with_reducible refine g_for ?_)
  | (with_reducible refine g_gName ?_)
  | (with_reducible refine g_call ?_)
  | (with_reducible refine g_lc ?_)
  | (with_reducible refine g_iList ?_)
  | (with_reducible refine g_iTup ?_)
  | (with_reducible refine g_seqT ?_)
  | (with_reducible refine g_asgT ?_)
  | (with_reducible refine g_gCons ?_)
  | (with_reducible refine g_gNil ?_)
  | ((with_reducible show gTup _ _ _ (.ref _) _ _ _); refine g_gTup (by fail "sq") (by exact rfl) ?_)
  | (with_reducible refine g_iR1 ?_)
  | (with_reducible refine g_iR2 ?_)
  | (with_reducible refine g_iEnum ?_)
  | (with_reducible refine g_iteT rfl ?_)
  | (with_reducible refine g_iteF rfl ?_)
  | (with_reducible refine g_sl ?_)
  | (with_reducible refine g_part ?_)
  | (with_reducible refine g_partW ?_)
  | (with_reducible refine g_noPart ?_)
  | (with_reducible refine g_fld ?_)
  | (with_reducible refine g_seqF ?_)
  | (with_reducible refine g_sfld ?_)
  | (with_reducible refine g_bm ?_)
  | (with_reducible refine g_bm0 ?_)
  | (with_reducible refine g_meth ?_)
  | (with_reducible refine g_make ?_)
  | ((with_reducible show FldW _ (.ref _) _ _ _); refine g_fldW (by fail "hp") (by assumption) (by assumption) (by rfl) ?_)
  | ((with_reducible show MW _ _ (.ref _) _ _); refine g_MW (by fail "hp") (by rfl) ?_)
  | ((with_reducible show SetW _ (.ref _) _ _ _ _); refine g_setW (by fail "hp") (by assumption) (by assumption) (by (simp only [List.length_cons, List.length_nil]; decide)) ?_; fail "putf"; try fail "mut")
  | ((with_reducible show tyV _ "list" (.ref _) _ ∧ _); refine g_tyL (by fail "hp") ?_)
  | ((with_reducible show rAppend (.ref _) [_] _ _); refine g_app (by fail "hp") (by fail "sz") ?_; try fail "mut")
  | ((with_reducible show rLenU _ [_] _ _); first | refine g_lenL (by fail "sq") ?_ | refine g_lenT (by fail "sq") ?_)
  | ((with_reducible first | show rIx _ _ (.int (@OfNat.ofNat Int _ _)) _ _ | show rIx _ _ (.int (-(@OfNat.ofNat Int _ _))) _ _); first | refine g_ixL (by fail "sq") (by exact rfl) ?_ | refine g_ixT (by fail "sq") (by exact rfl) ?_)
  | ((with_reducible show rSetL _ _ _ _ _); refine g_setL (by fail "hp") (by first | exact rfl | assumption) ?_)
  | (dsimp only))
local macro_rules | `(tactic| fail "gi") => `(tactic| repeat ((fail_if_success (with_reducible show tSeq (tIfS _ _ _) _ _ _ _)); fail "st"))
local macro_rules | `(tactic| fail "go") => `(tactic| repeat (fail "st"))
local macro_rules | `(tactic| fail "st") => `(tactic| (fail "calls"))
local macro_rules | `(tactic| fail "sz") => `(tactic| first
  | assumption
  | decide
  | (refine Nat.le_trans (m := 1000) ?_ (by decide); (first | omega | (simp only [List.length_cons, List.length_nil]; omega) | (simp; omega) | simp))
  | (refine Nat.lt_of_le_of_lt (m := 1000) ?_ (by decide); (first | omega | (simp only [List.length_cons, List.length_nil]; omega) | (simp; omega) | simp)))

def topS (i : Nat) : Stmt := PySem.Challenge.pw_sidekeep_k06_cells_are_sealed.main.body.getD i (.Pass ⟨0, 0, 0, 0⟩)
abbrev s__law_take : Stmt := (topS 36)
abbrev N__law_take : List Str := ["box", "size", "digit"]
theorem sc__law_take : FnScope N__law_take ["box", "size"] (defScope s__law_take) := ⟨rfl, rfl, rfl, by decide +kernel, rfl, by decide +kernel, by decide +kernel⟩
abbrev s_parts_of : Stmt := (topS 14)
abbrev N_parts_of : List Str := ["number", "size"]
theorem sc_parts_of : FnScope N_parts_of ["number", "size"] (defScope s_parts_of) := ⟨rfl, rfl, rfl, by decide +kernel, rfl, by decide +kernel, by decide +kernel⟩
abbrev s_Layout___init__ : Stmt := (inClass (topS 13) 0)
abbrev N_Layout___init__ : List Str := ["self", "segments", "segment_blocks", "block_size", "numbers"]
theorem sc_Layout___init__ : FnScope N_Layout___init__ ["self", "segments", "segment_blocks", "block_size"] (defScope s_Layout___init__) := ⟨rfl, rfl, rfl, by decide +kernel, rfl, by decide +kernel, by decide +kernel⟩
abbrev s__law_layout : Stmt := (topS 37)
abbrev N__law_layout : List Str := ["box", "sizes"]
theorem sc__law_layout : FnScope N__law_layout ["box"] (defScope s__law_layout) := ⟨rfl, rfl, rfl, by decide +kernel, rfl, by decide +kernel, by decide +kernel⟩
abbrev s__law_number : Stmt := (topS 35)
abbrev N__law_number : List Str := ["script", "k", "cell", "first", "second"]
theorem sc__law_number : FnScope N__law_number ["script", "k"] (defScope s__law_number) := ⟨rfl, rfl, rfl, by decide +kernel, rfl, by decide +kernel, by decide +kernel⟩
abbrev s__law_block : Stmt := (topS 39)
abbrev N__law_block : List Str := ["layout", "box", "kind", "sequence", "first", "step", "body", "k"]
theorem sc__law_block : FnScope N__law_block ["layout", "box"] (defScope s__law_block) := ⟨rfl, rfl, rfl, by decide +kernel, rfl, by decide +kernel, by decide +kernel⟩
abbrev s_number_octets : Stmt := (topS 16)
abbrev N_number_octets : List Str := ["number", "count", "found", "_"]
theorem sc_number_octets : FnScope N_number_octets ["number", "count"] (defScope s_number_octets) := ⟨rfl, rfl, rfl, by decide +kernel, rfl, by decide +kernel, by decide +kernel⟩
abbrev s_summary_octets : Stmt := (topS 23)
abbrev N_summary_octets : List Str := ["layout", "mark", "numbers", "action", "header"]
theorem sc_summary_octets : FnScope N_summary_octets ["layout", "mark", "numbers", "action"] (defScope s_summary_octets) := ⟨rfl, rfl, rfl, by decide +kernel, rfl, by decide +kernel, by decide +kernel⟩
abbrev s_bits_of : Stmt := (topS 22)
abbrev N_bits_of : List Str := ["used", "last_id", "octets", "number"]
theorem sc_bits_of : FnScope N_bits_of ["used", "last_id"] (defScope s_bits_of) := ⟨rfl, rfl, rfl, by decide +kernel, rfl, by decide +kernel, by decide +kernel⟩
abbrev s_pairs_of : Stmt := (topS 17)
abbrev N_pairs_of : List Str := ["numbers", "found", "number"]
theorem sc_pairs_of : FnScope N_pairs_of ["numbers"] (defScope s_pairs_of) := ⟨rfl, rfl, rfl, by decide +kernel, rfl, by decide +kernel, by decide +kernel⟩
abbrev s_body_octets : Stmt := (topS 24)
abbrev N_body_octets : List Str := ["layout", "kind", "body", "found"]
theorem sc_body_octets : FnScope N_body_octets ["layout", "kind", "body"] (defScope s_body_octets) := ⟨rfl, rfl, rfl, by decide +kernel, rfl, by decide +kernel, by decide +kernel⟩
abbrev s_block_octets : Stmt := (topS 27)
abbrev N_block_octets : List Str := ["layout", "block", "kind", "sequence", "place", "body", "spare"]
theorem sc_block_octets : FnScope N_block_octets ["layout", "block"] (defScope s_block_octets) := ⟨rfl, rfl, rfl, by decide +kernel, rfl, by decide +kernel, by decide +kernel⟩
abbrev s_check_of : Stmt := (topS 31)
abbrev N_check_of : List Str := ["layout", "address", "block", "total", "octet"]
theorem sc_check_of : FnScope N_check_of ["layout", "address", "block"] (defScope s_check_of) := ⟨rfl, rfl, rfl, by decide +kernel, rfl, by decide +kernel, by decide +kernel⟩
abbrev s_sealed : Stmt := (topS 32)
abbrev N_sealed : List Str := ["layout", "address", "block"]
theorem sc_sealed : FnScope N_sealed ["layout", "address", "block"] (defScope s_sealed) := ⟨rfl, rfl, rfl, by decide +kernel, rfl, by decide +kernel, by decide +kernel⟩
abbrev s__law_low : Stmt := (topS 38)
abbrev N__law_low : List Str := ["number", "count", "octets", "k"]
theorem sc__law_low : FnScope N__law_low ["number", "count"] (defScope s__law_low) := ⟨rfl, rfl, rfl, by decide +kernel, rfl, by decide +kernel, by decide +kernel⟩
abbrev s__law_octets : Stmt := (topS 40)
abbrev N__law_octets : List Str := ["layout", "block", "octets", "number"]
theorem sc__law_octets : FnScope N__law_octets ["layout", "block"] (defScope s__law_octets) := ⟨rfl, rfl, rfl, by decide +kernel, rfl, by decide +kernel, by decide +kernel⟩
abbrev s__law_check : Stmt := (topS 41)
abbrev N__law_check : List Str := ["layout", "address", "block", "total", "octet"]
theorem sc__law_check : FnScope N__law_check ["layout", "address", "block"] (defScope s__law_check) := ⟨rfl, rfl, rfl, by decide +kernel, rfl, by decide +kernel, by decide +kernel⟩
abbrev s_is_whole : Stmt := (topS 33)
abbrev N_is_whole : List Str := ["layout", "address", "cell"]
theorem sc_is_whole : FnScope N_is_whole ["layout", "address", "cell"] (defScope s_is_whole) := ⟨rfl, rfl, rfl, by decide +kernel, rfl, by decide +kernel, by decide +kernel⟩
abbrev s__law_changed : Stmt := (topS 42)
abbrev N__law_changed : List Str := ["layout", "block", "box", "spot", "more", "low", "body", "at"]
theorem sc__law_changed : FnScope N__law_changed ["layout", "block", "box"] (defScope s__law_changed) := ⟨rfl, rfl, rfl, by decide +kernel, rfl, by decide +kernel, by decide +kernel⟩
abbrev s__law_cells_hold : Stmt := (topS 43)
abbrev N__law_cells_hold : List Str := ["layout", "address", "block", "box", "cell", "check", "other", "further", "wrong", "one"]
theorem sc__law_cells_hold : FnScope N__law_cells_hold ["layout", "address", "block", "box"] (defScope s__law_cells_hold) := ⟨rfl, rfl, rfl, by decide +kernel, rfl, by decide +kernel, by decide +kernel⟩
abbrev s_law : Stmt := (topS 44)
abbrev N_law : List Str := ["script", "layout", "k", "box", "block", "address"]
theorem sc_law : FnScope N_law ["script"] (defScope s_law) := ⟨rfl, rfl, rfl, by decide +kernel, rfl, by decide +kernel, by decide +kernel⟩
theorem putI_Layout_segments {y : V} : putF "segments" y ([] : List (Str × V)) = ([(("segments" : Str), y)] : List (Str × V)) := by rfl
theorem putU_Layout_segments {v0 v1 v2 v3 v4 v5 v6 v7 v8 y : V} : putF "segments" y ([(("segments" : Str), v0), (("segment_blocks" : Str), v1), (("block_size" : Str), v2), (("payload" : Str), v3), (("limit" : Str), v4), (("last_id" : Str), v5), (("fan" : Str), v6), (("region_blocks" : Str), v7), (("device_blocks" : Str), v8)] : List (Str × V)) = ([(("segments" : Str), y), (("segment_blocks" : Str), v1), (("block_size" : Str), v2), (("payload" : Str), v3), (("limit" : Str), v4), (("last_id" : Str), v5), (("fan" : Str), v6), (("region_blocks" : Str), v7), (("device_blocks" : Str), v8)] : List (Str × V)) := by rfl
theorem putI_Layout_segment_blocks {v0 y : V} : putF "segment_blocks" y ([(("segments" : Str), v0)] : List (Str × V)) = ([(("segments" : Str), v0), (("segment_blocks" : Str), y)] : List (Str × V)) := by rfl
theorem putU_Layout_segment_blocks {v0 v1 v2 v3 v4 v5 v6 v7 v8 y : V} : putF "segment_blocks" y ([(("segments" : Str), v0), (("segment_blocks" : Str), v1), (("block_size" : Str), v2), (("payload" : Str), v3), (("limit" : Str), v4), (("last_id" : Str), v5), (("fan" : Str), v6), (("region_blocks" : Str), v7), (("device_blocks" : Str), v8)] : List (Str × V)) = ([(("segments" : Str), v0), (("segment_blocks" : Str), y), (("block_size" : Str), v2), (("payload" : Str), v3), (("limit" : Str), v4), (("last_id" : Str), v5), (("fan" : Str), v6), (("region_blocks" : Str), v7), (("device_blocks" : Str), v8)] : List (Str × V)) := by rfl
theorem putI_Layout_block_size {v0 v1 y : V} : putF "block_size" y ([(("segments" : Str), v0), (("segment_blocks" : Str), v1)] : List (Str × V)) = ([(("segments" : Str), v0), (("segment_blocks" : Str), v1), (("block_size" : Str), y)] : List (Str × V)) := by rfl
theorem putU_Layout_block_size {v0 v1 v2 v3 v4 v5 v6 v7 v8 y : V} : putF "block_size" y ([(("segments" : Str), v0), (("segment_blocks" : Str), v1), (("block_size" : Str), v2), (("payload" : Str), v3), (("limit" : Str), v4), (("last_id" : Str), v5), (("fan" : Str), v6), (("region_blocks" : Str), v7), (("device_blocks" : Str), v8)] : List (Str × V)) = ([(("segments" : Str), v0), (("segment_blocks" : Str), v1), (("block_size" : Str), y), (("payload" : Str), v3), (("limit" : Str), v4), (("last_id" : Str), v5), (("fan" : Str), v6), (("region_blocks" : Str), v7), (("device_blocks" : Str), v8)] : List (Str × V)) := by rfl
theorem putI_Layout_payload {v0 v1 v2 y : V} : putF "payload" y ([(("segments" : Str), v0), (("segment_blocks" : Str), v1), (("block_size" : Str), v2)] : List (Str × V)) = ([(("segments" : Str), v0), (("segment_blocks" : Str), v1), (("block_size" : Str), v2), (("payload" : Str), y)] : List (Str × V)) := by rfl
theorem putU_Layout_payload {v0 v1 v2 v3 v4 v5 v6 v7 v8 y : V} : putF "payload" y ([(("segments" : Str), v0), (("segment_blocks" : Str), v1), (("block_size" : Str), v2), (("payload" : Str), v3), (("limit" : Str), v4), (("last_id" : Str), v5), (("fan" : Str), v6), (("region_blocks" : Str), v7), (("device_blocks" : Str), v8)] : List (Str × V)) = ([(("segments" : Str), v0), (("segment_blocks" : Str), v1), (("block_size" : Str), v2), (("payload" : Str), y), (("limit" : Str), v4), (("last_id" : Str), v5), (("fan" : Str), v6), (("region_blocks" : Str), v7), (("device_blocks" : Str), v8)] : List (Str × V)) := by rfl
theorem putI_Layout_limit {v0 v1 v2 v3 y : V} : putF "limit" y ([(("segments" : Str), v0), (("segment_blocks" : Str), v1), (("block_size" : Str), v2), (("payload" : Str), v3)] : List (Str × V)) = ([(("segments" : Str), v0), (("segment_blocks" : Str), v1), (("block_size" : Str), v2), (("payload" : Str), v3), (("limit" : Str), y)] : List (Str × V)) := by rfl
theorem putU_Layout_limit {v0 v1 v2 v3 v4 v5 v6 v7 v8 y : V} : putF "limit" y ([(("segments" : Str), v0), (("segment_blocks" : Str), v1), (("block_size" : Str), v2), (("payload" : Str), v3), (("limit" : Str), v4), (("last_id" : Str), v5), (("fan" : Str), v6), (("region_blocks" : Str), v7), (("device_blocks" : Str), v8)] : List (Str × V)) = ([(("segments" : Str), v0), (("segment_blocks" : Str), v1), (("block_size" : Str), v2), (("payload" : Str), v3), (("limit" : Str), y), (("last_id" : Str), v5), (("fan" : Str), v6), (("region_blocks" : Str), v7), (("device_blocks" : Str), v8)] : List (Str × V)) := by rfl
theorem putI_Layout_last_id {v0 v1 v2 v3 v4 y : V} : putF "last_id" y ([(("segments" : Str), v0), (("segment_blocks" : Str), v1), (("block_size" : Str), v2), (("payload" : Str), v3), (("limit" : Str), v4)] : List (Str × V)) = ([(("segments" : Str), v0), (("segment_blocks" : Str), v1), (("block_size" : Str), v2), (("payload" : Str), v3), (("limit" : Str), v4), (("last_id" : Str), y)] : List (Str × V)) := by rfl
theorem putU_Layout_last_id {v0 v1 v2 v3 v4 v5 v6 v7 v8 y : V} : putF "last_id" y ([(("segments" : Str), v0), (("segment_blocks" : Str), v1), (("block_size" : Str), v2), (("payload" : Str), v3), (("limit" : Str), v4), (("last_id" : Str), v5), (("fan" : Str), v6), (("region_blocks" : Str), v7), (("device_blocks" : Str), v8)] : List (Str × V)) = ([(("segments" : Str), v0), (("segment_blocks" : Str), v1), (("block_size" : Str), v2), (("payload" : Str), v3), (("limit" : Str), v4), (("last_id" : Str), y), (("fan" : Str), v6), (("region_blocks" : Str), v7), (("device_blocks" : Str), v8)] : List (Str × V)) := by rfl
theorem putI_Layout_fan {v0 v1 v2 v3 v4 v5 y : V} : putF "fan" y ([(("segments" : Str), v0), (("segment_blocks" : Str), v1), (("block_size" : Str), v2), (("payload" : Str), v3), (("limit" : Str), v4), (("last_id" : Str), v5)] : List (Str × V)) = ([(("segments" : Str), v0), (("segment_blocks" : Str), v1), (("block_size" : Str), v2), (("payload" : Str), v3), (("limit" : Str), v4), (("last_id" : Str), v5), (("fan" : Str), y)] : List (Str × V)) := by rfl
theorem putU_Layout_fan {v0 v1 v2 v3 v4 v5 v6 v7 v8 y : V} : putF "fan" y ([(("segments" : Str), v0), (("segment_blocks" : Str), v1), (("block_size" : Str), v2), (("payload" : Str), v3), (("limit" : Str), v4), (("last_id" : Str), v5), (("fan" : Str), v6), (("region_blocks" : Str), v7), (("device_blocks" : Str), v8)] : List (Str × V)) = ([(("segments" : Str), v0), (("segment_blocks" : Str), v1), (("block_size" : Str), v2), (("payload" : Str), v3), (("limit" : Str), v4), (("last_id" : Str), v5), (("fan" : Str), y), (("region_blocks" : Str), v7), (("device_blocks" : Str), v8)] : List (Str × V)) := by rfl
theorem putI_Layout_region_blocks {v0 v1 v2 v3 v4 v5 v6 y : V} : putF "region_blocks" y ([(("segments" : Str), v0), (("segment_blocks" : Str), v1), (("block_size" : Str), v2), (("payload" : Str), v3), (("limit" : Str), v4), (("last_id" : Str), v5), (("fan" : Str), v6)] : List (Str × V)) = ([(("segments" : Str), v0), (("segment_blocks" : Str), v1), (("block_size" : Str), v2), (("payload" : Str), v3), (("limit" : Str), v4), (("last_id" : Str), v5), (("fan" : Str), v6), (("region_blocks" : Str), y)] : List (Str × V)) := by rfl
theorem putU_Layout_region_blocks {v0 v1 v2 v3 v4 v5 v6 v7 v8 y : V} : putF "region_blocks" y ([(("segments" : Str), v0), (("segment_blocks" : Str), v1), (("block_size" : Str), v2), (("payload" : Str), v3), (("limit" : Str), v4), (("last_id" : Str), v5), (("fan" : Str), v6), (("region_blocks" : Str), v7), (("device_blocks" : Str), v8)] : List (Str × V)) = ([(("segments" : Str), v0), (("segment_blocks" : Str), v1), (("block_size" : Str), v2), (("payload" : Str), v3), (("limit" : Str), v4), (("last_id" : Str), v5), (("fan" : Str), v6), (("region_blocks" : Str), y), (("device_blocks" : Str), v8)] : List (Str × V)) := by rfl
theorem putI_Layout_device_blocks {v0 v1 v2 v3 v4 v5 v6 v7 y : V} : putF "device_blocks" y ([(("segments" : Str), v0), (("segment_blocks" : Str), v1), (("block_size" : Str), v2), (("payload" : Str), v3), (("limit" : Str), v4), (("last_id" : Str), v5), (("fan" : Str), v6), (("region_blocks" : Str), v7)] : List (Str × V)) = ([(("segments" : Str), v0), (("segment_blocks" : Str), v1), (("block_size" : Str), v2), (("payload" : Str), v3), (("limit" : Str), v4), (("last_id" : Str), v5), (("fan" : Str), v6), (("region_blocks" : Str), v7), (("device_blocks" : Str), y)] : List (Str × V)) := by rfl
theorem putU_Layout_device_blocks {v0 v1 v2 v3 v4 v5 v6 v7 v8 y : V} : putF "device_blocks" y ([(("segments" : Str), v0), (("segment_blocks" : Str), v1), (("block_size" : Str), v2), (("payload" : Str), v3), (("limit" : Str), v4), (("last_id" : Str), v5), (("fan" : Str), v6), (("region_blocks" : Str), v7), (("device_blocks" : Str), v8)] : List (Str × V)) = ([(("segments" : Str), v0), (("segment_blocks" : Str), v1), (("block_size" : Str), v2), (("payload" : Str), v3), (("limit" : Str), v4), (("last_id" : Str), v5), (("fan" : Str), v6), (("region_blocks" : Str), v7), (("device_blocks" : Str), y)] : List (Str × V)) := by rfl
local macro_rules | `(tactic| fail "putf") => `(tactic| first
  | rw [putI_Layout_segments]
  | rw [putU_Layout_segments]
  | rw [putI_Layout_segment_blocks]
  | rw [putU_Layout_segment_blocks]
  | rw [putI_Layout_block_size]
  | rw [putU_Layout_block_size]
  | rw [putI_Layout_payload]
  | rw [putU_Layout_payload]
  | rw [putI_Layout_limit]
  | rw [putU_Layout_limit]
  | rw [putI_Layout_last_id]
  | rw [putU_Layout_last_id]
  | rw [putI_Layout_fan]
  | rw [putU_Layout_fan]
  | rw [putI_Layout_region_blocks]
  | rw [putU_Layout_region_blocks]
  | rw [putI_Layout_device_blocks]
  | rw [putU_Layout_device_blocks]
  | skip)
structure Txt (K : PySem.W.Frag) (mg : Str → Option Value) where
  C_Layout : Addr
  f__law_take : Addr
  fd__law_take : FuncData
  F__law_take : Fun K "_law_take" "_law_take" s__law_take f__law_take fd__law_take
  b__law_take : Binds K fd__law_take ["box", "size"] []
  g__law_take : mg "_law_take" = some (.ref f__law_take)
  f_parts_of : Addr
  fd_parts_of : FuncData
  F_parts_of : Fun K "parts_of" "parts_of" s_parts_of f_parts_of fd_parts_of
  b_parts_of : Binds K fd_parts_of ["number", "size"] []
  g_parts_of : mg "parts_of" = some (.ref f_parts_of)
  f_Layout___init__ : Addr
  fd_Layout___init__ : FuncData
  F_Layout___init__ : Fun K "__init__" "Layout.__init__" s_Layout___init__ f_Layout___init__ fd_Layout___init__
  b_Layout___init__ : Binds K fd_Layout___init__ ["self", "segments", "segment_blocks", "block_size"] []
  mk_Layout : Mk K C_Layout f_Layout___init__
  f__law_layout : Addr
  fd__law_layout : FuncData
  F__law_layout : Fun K "_law_layout" "_law_layout" s__law_layout f__law_layout fd__law_layout
  b__law_layout : Binds K fd__law_layout ["box"] []
  g__law_layout : mg "_law_layout" = some (.ref f__law_layout)
  f__law_number : Addr
  fd__law_number : FuncData
  F__law_number : Fun K "_law_number" "_law_number" s__law_number f__law_number fd__law_number
  b__law_number : Binds K fd__law_number ["script", "k"] []
  g__law_number : mg "_law_number" = some (.ref f__law_number)
  f__law_block : Addr
  fd__law_block : FuncData
  F__law_block : Fun K "_law_block" "_law_block" s__law_block f__law_block fd__law_block
  b__law_block : Binds K fd__law_block ["layout", "box"] []
  g__law_block : mg "_law_block" = some (.ref f__law_block)
  f_number_octets : Addr
  fd_number_octets : FuncData
  F_number_octets : Fun K "number_octets" "number_octets" s_number_octets f_number_octets fd_number_octets
  b_number_octets : Binds K fd_number_octets ["number", "count"] []
  g_number_octets : mg "number_octets" = some (.ref f_number_octets)
  f_summary_octets : Addr
  fd_summary_octets : FuncData
  F_summary_octets : Fun K "summary_octets" "summary_octets" s_summary_octets f_summary_octets fd_summary_octets
  b_summary_octets : Binds K fd_summary_octets ["layout", "mark", "numbers", "action"] []
  g_summary_octets : mg "summary_octets" = some (.ref f_summary_octets)
  f_bits_of : Addr
  fd_bits_of : FuncData
  F_bits_of : Fun K "bits_of" "bits_of" s_bits_of f_bits_of fd_bits_of
  b_bits_of : Binds K fd_bits_of ["used", "last_id"] []
  g_bits_of : mg "bits_of" = some (.ref f_bits_of)
  f_pairs_of : Addr
  fd_pairs_of : FuncData
  F_pairs_of : Fun K "pairs_of" "pairs_of" s_pairs_of f_pairs_of fd_pairs_of
  b_pairs_of : Binds K fd_pairs_of ["numbers"] []
  g_pairs_of : mg "pairs_of" = some (.ref f_pairs_of)
  f_body_octets : Addr
  fd_body_octets : FuncData
  F_body_octets : Fun K "body_octets" "body_octets" s_body_octets f_body_octets fd_body_octets
  b_body_octets : Binds K fd_body_octets ["layout", "kind", "body"] []
  g_body_octets : mg "body_octets" = some (.ref f_body_octets)
  f_block_octets : Addr
  fd_block_octets : FuncData
  F_block_octets : Fun K "block_octets" "block_octets" s_block_octets f_block_octets fd_block_octets
  b_block_octets : Binds K fd_block_octets ["layout", "block"] []
  g_block_octets : mg "block_octets" = some (.ref f_block_octets)
  f_check_of : Addr
  fd_check_of : FuncData
  F_check_of : Fun K "check_of" "check_of" s_check_of f_check_of fd_check_of
  b_check_of : Binds K fd_check_of ["layout", "address", "block"] []
  g_check_of : mg "check_of" = some (.ref f_check_of)
  f_sealed : Addr
  fd_sealed : FuncData
  F_sealed : Fun K "sealed" "sealed" s_sealed f_sealed fd_sealed
  b_sealed : Binds K fd_sealed ["layout", "address", "block"] []
  g_sealed : mg "sealed" = some (.ref f_sealed)
  f__law_low : Addr
  fd__law_low : FuncData
  F__law_low : Fun K "_law_low" "_law_low" s__law_low f__law_low fd__law_low
  b__law_low : Binds K fd__law_low ["number", "count"] []
  g__law_low : mg "_law_low" = some (.ref f__law_low)
  f__law_octets : Addr
  fd__law_octets : FuncData
  F__law_octets : Fun K "_law_octets" "_law_octets" s__law_octets f__law_octets fd__law_octets
  b__law_octets : Binds K fd__law_octets ["layout", "block"] []
  g__law_octets : mg "_law_octets" = some (.ref f__law_octets)
  f__law_check : Addr
  fd__law_check : FuncData
  F__law_check : Fun K "_law_check" "_law_check" s__law_check f__law_check fd__law_check
  b__law_check : Binds K fd__law_check ["layout", "address", "block"] []
  g__law_check : mg "_law_check" = some (.ref f__law_check)
  f_is_whole : Addr
  fd_is_whole : FuncData
  F_is_whole : Fun K "is_whole" "is_whole" s_is_whole f_is_whole fd_is_whole
  b_is_whole : Binds K fd_is_whole ["layout", "address", "cell"] []
  g_is_whole : mg "is_whole" = some (.ref f_is_whole)
  f__law_changed : Addr
  fd__law_changed : FuncData
  F__law_changed : Fun K "_law_changed" "_law_changed" s__law_changed f__law_changed fd__law_changed
  b__law_changed : Binds K fd__law_changed ["layout", "block", "box"] []
  g__law_changed : mg "_law_changed" = some (.ref f__law_changed)
  f__law_cells_hold : Addr
  fd__law_cells_hold : FuncData
  F__law_cells_hold : Fun K "_law_cells_hold" "_law_cells_hold" s__law_cells_hold f__law_cells_hold fd__law_cells_hold
  b__law_cells_hold : Binds K fd__law_cells_hold ["layout", "address", "block", "box"] []
  g__law_cells_hold : mg "_law_cells_hold" = some (.ref f__law_cells_hold)
  f_law : Addr
  fd_law : FuncData
  F_law : Fun K "law" "law" s_law f_law fd_law
  b_law : Binds K fd_law ["script"] []
  g_law : mg "law" = some (.ref f_law)
  cl_Layout : Cls K C_Layout
  g_Layout : mg "Layout" = some (.ref C_Layout)
  a_Layout_segments : NoAttr K C_Layout "segments"
  a_Layout_segment_blocks : NoAttr K C_Layout "segment_blocks"
  a_Layout_block_size : NoAttr K C_Layout "block_size"
  a_Layout_payload : NoAttr K C_Layout "payload"
  a_Layout_limit : NoAttr K C_Layout "limit"
  a_Layout_last_id : NoAttr K C_Layout "last_id"
  a_Layout_fan : NoAttr K C_Layout "fan"
  a_Layout_region_blocks : NoAttr K C_Layout "region_blocks"
  a_Layout_device_blocks : NoAttr K C_Layout "device_blocks"
  n_int : mg "int" = none
  n_len : mg "len" = none
  n_tuple : mg "tuple" = none
  n_range : mg "range" = none
  n_list : mg "list" = none
  n_isinstance : mg "isinstance" = none
  n_bool : mg "bool" = none
  u_MOST_SEGMENTS : Value
  g_MOST_SEGMENTS : mg "MOST_SEGMENTS" = some u_MOST_SEGMENTS
  r_MOST_SEGMENTS : RelV (.int 16) u_MOST_SEGMENTS
  u_LEAST_SEGMENTS : Value
  g_LEAST_SEGMENTS : mg "LEAST_SEGMENTS" = some u_LEAST_SEGMENTS
  r_LEAST_SEGMENTS : RelV (.int 4) u_LEAST_SEGMENTS
  u_MOST_BLOCKS : Value
  g_MOST_BLOCKS : mg "MOST_BLOCKS" = some u_MOST_BLOCKS
  r_MOST_BLOCKS : RelV (.int 32) u_MOST_BLOCKS
  u_LEAST_BLOCKS : Value
  g_LEAST_BLOCKS : mg "LEAST_BLOCKS" = some u_LEAST_BLOCKS
  r_LEAST_BLOCKS : RelV (.int 16) u_LEAST_BLOCKS
  u_HEAD_OCTETS : Value
  g_HEAD_OCTETS : mg "HEAD_OCTETS" = some u_HEAD_OCTETS
  r_HEAD_OCTETS : RelV (.int 16) u_HEAD_OCTETS
  u_SLOTS : Value
  g_SLOTS : mg "SLOTS" = some u_SLOTS
  r_SLOTS : RelV (.int 3) u_SLOTS
  u_COMMIT : Value
  g_COMMIT : mg "COMMIT" = some u_COMMIT
  r_COMMIT : RelV (.int 1) u_COMMIT
  u_MOVE : Value
  g_MOVE : mg "MOVE" = some u_MOVE
  r_MOVE : RelV (.int 2) u_MOVE
  u_DATA : Value
  g_DATA : mg "DATA" = some u_DATA
  r_DATA : RelV (.int 3) u_DATA
  u_SPARE : Value
  g_SPARE : mg "SPARE" = some u_SPARE
  r_SPARE : RelV (.int 16) u_SPARE
  u_FACTOR : Value
  g_FACTOR : mg "FACTOR" = some u_FACTOR
  r_FACTOR : RelV (.int 257) u_FACTOR
  u_PRIME : Value
  g_PRIME : mg "PRIME" = some u_PRIME
  r_PRIME : RelV (.int 4294967291) u_PRIME
def spTake : Sp := fun vs H Q _ => ∃ (b : Addr) (n z : Int), vs = [.ref b, .int z] ∧ H b = some (.lst [.int n]) ∧ 0 < z ∧ z < 1073741824 ∧ Q (.int (n % z)) (upd H b (.lst [.int (n / z)]))
local macro_rules | `(tactic| fail "calls") => `(tactic| ((with_reducible show spTake _ _ _ _); refine ⟨_, _, _, rfl, by fail "hp", by fail "ar", by fail "ar", ?_⟩))
section
variable {P : Program} {w : World} {K : PySem.W.Frag} {mg : Str → Option Value} {base : Heap}
theorem ok__law_take (T : Txt K mg) : FnOk P w K mg base CX0 1 T.f__law_take T.fd__law_take ["box", "size"] (spTake) := by
  refine T.F__law_take.ok sc__law_take (fun vs H Q E h => ?_) (fun cdv A outer s H vs Q E hr h => ?_)
  · obtain ⟨b, n, z, rfl, hb, z0, z1, hq⟩ := h
    rfl
  · obtain ⟨b, n, z, rfl, hb, z0, z1, hq⟩ := h
    refine ⟨_, (pss_cons (ps_set (i := 2) sc__law_take.nd rfl (by first | exact Or.inl rfl | exact Or.inr rfl) (pe_op opModU (pe_callTy callIntU (by rfl) T.n_int (by decide +kernel) (pa_cons (pe_ix (ixU (K := K)) (pv 0) pe_int (fun _ _ => rfl)) pa_nil)) (pv 1)))
      (pss_cons (ps_asg (pe_op opFloorDivU (pe_ix (ixU (K := K)) (pv 0) pe_int (fun _ _ => rfl)) (pv 1)) (pg_sub (pv 0) pe_int set_list))
      (pss_one (ps_ret (pv 2))))), ?_⟩
    try dsimp only [cxOf]
    fail "go"
    exact hq
end
def spParts : Sp := fun vs H Q _ => ∃ n z : Int, vs = [.int n, .int z] ∧ 0 < z ∧ z < 1000 ∧ Q (.int (partsOf n z)) H
local macro_rules | `(tactic| fail "calls") => `(tactic| ((with_reducible show spParts _ _ _ _); refine ⟨_, _, rfl, by fail "ar", by fail "ar", ?_⟩))
section
variable {P : Program} {w : World} {K : PySem.W.Frag} {mg : Str → Option Value} {base : Heap}
theorem ok_parts_of (T : Txt K mg) : FnOk P w K mg base CX0 1 T.f_parts_of T.fd_parts_of ["number", "size"] (spParts) := by
  refine T.F_parts_of.ok sc_parts_of (fun vs H Q E h => ?_) (fun cdv A outer s H vs Q E hr h => ?_)
  · obtain ⟨n, z, rfl, z0, z1, hq⟩ := h
    rfl
  · obtain ⟨n, z, rfl, z0, z1, hq⟩ := h
    refine ⟨_, (pss_one (ps_ret (pe_op opFloorDivU (pe_op opSubU (pe_op (opAddU (K := K)) (pv 0) (pv 1)) pe_int) (pv 1)))), ?_⟩
    try dsimp only [cxOf]
    fail "go"
    exact hq
end
def spLay (C : Addr) : Sp := fun vs H Q _ => ∃ (R : Hp) (p dx : Addr) (L : Lay), vs = [.ref p, .int L.seg, .int L.blk, .int L.oct] ∧ Same R H ∧ R p = none ∧ H p = some (.ins C dx []) ∧ L.Ok ∧ ∀ H', Same R H' → H' p = some (.ins C dx L.flds) → Q .non H'
section
variable {P : Program} {w : World} {K : PySem.W.Frag} {mg : Str → Option Value} {base : Heap}
theorem ok_Layout___init__ (T : Txt K mg) : FnOk P w K mg base CX0 2 T.f_Layout___init__ T.fd_Layout___init__ ["self", "segments", "segment_blocks", "block_size"] (spLay T.C_Layout) := by
  have cl_Layout := T.cl_Layout
  have a_Layout_segments := T.a_Layout_segments
  have a_Layout_segment_blocks := T.a_Layout_segment_blocks
  have a_Layout_block_size := T.a_Layout_block_size
  have a_Layout_payload := T.a_Layout_payload
  have a_Layout_limit := T.a_Layout_limit
  have a_Layout_last_id := T.a_Layout_last_id
  have a_Layout_fan := T.a_Layout_fan
  have a_Layout_region_blocks := T.a_Layout_region_blocks
  have a_Layout_device_blocks := T.a_Layout_device_blocks
  have G_parts_of := ok_parts_of (P := P) (w := w) (base := base) T
  refine T.F_Layout___init__.ok sc_Layout___init__ (fun vs H Q E h => ?_) (fun cdv A outer s H vs Q E hr h => ?_)
  · obtain ⟨R, p, dx, L, rfl, sR, Rp, hp, hL, hq⟩ := h
    rfl
  · obtain ⟨R, p, dx, L, rfl, sR, Rp, hp, hL, hq⟩ := h
    refine ⟨_, (pss_cons (ps_if (PW.pt (pw_or (pt_cmpR op_lt (pv 1) (pe_glob rfl T.g_LEAST_SEGMENTS T.r_LEAST_SEGMENTS) (nomark _)) (pw_or1 (pt_cmpR op_gt (pv 1) (pe_glob rfl T.g_MOST_SEGMENTS T.r_MOST_SEGMENTS) (nomark _))))) (pss_one ps_never) pss_nil)
      (pss_cons (ps_if (PW.pt (pw_or (pt_cmpR op_lt (pv 2) (pe_glob rfl T.g_LEAST_BLOCKS T.r_LEAST_BLOCKS) (nomark _)) (pw_or1 (pt_cmpR op_gt (pv 2) (pe_glob rfl T.g_MOST_BLOCKS T.r_MOST_BLOCKS) (nomark _))))) (pss_one ps_never) pss_nil)
      (pss_cons (ps_if (pt_cmpR (opNinF (K := K)) (pv 3) (pe_tup (pa_cons pe_int (pa_cons pe_int (pa_cons pe_int pa_nil)))) (by rfl)) (pss_one ps_never) pss_nil)
      (pss_cons (ps_fld (pv 0) (pv 1) rfl)
      (pss_cons (ps_fld (pv 0) (pv 2) rfl)
      (pss_cons (ps_fld (pv 0) (pv 3) rfl)
      (pss_cons (ps_fld (pv 0) (pe_op opSubU (pv 2) pe_int) rfl)
      (pss_cons (ps_fld (pv 0) (pe_op opMultU (pe_op opSubU (pv 1) pe_int) (pe_fldK (K := K) (pv 0) rfl)) rfl)
      (pss_cons (ps_fld (pv 0) (pe_op (opAddU (K := K)) (pe_fldK (K := K) (pv 0) rfl) (pe_fldK (K := K) (pv 0) rfl)) rfl)
      (pss_cons (ps_fld (pv 0) (pe_op opFloorDivU (pv 3) pe_int) rfl)
      (pss_cons (ps_if (pt_cmpR op_gt (pe_op (opAddU (K := K)) (pe_op (opAddU (K := K)) (pe_glob rfl T.g_HEAD_OCTETS T.r_HEAD_OCTETS) (pe_op opMultU pe_int (pe_fldK (K := K) (pv 0) rfl))) (pe_call G_parts_of (hr.mono (by decide)) rfl T.g_parts_of T.F_parts_of.kp T.b_parts_of .nil pass0 (pa_cons (pe_fldK (K := K) (pv 0) rfl) (pa_cons pe_int pa_nil)))) (pv 3) (nomark _)) (pss_one ps_never) pss_nil)
      (pss_cons (ps_set (i := 4) sc_Layout___init__.nd rfl (by first | exact Or.inl rfl | exact Or.inr rfl) (pe_op (opAddU (K := K)) (pe_op (opAddU (K := K)) (pe_op (opAddU (K := K)) (pe_op opMultU (pe_op (opAddU (K := K)) (pe_glob rfl T.g_SLOTS T.r_SLOTS) pe_int) (pe_fldK (K := K) (pv 0) rfl)) (pe_glob rfl T.g_SLOTS T.r_SLOTS)) pe_int) (pv 1)))
      (pss_cons (ps_fld (pv 0) (pe_call G_parts_of (hr.mono (by decide)) rfl T.g_parts_of T.F_parts_of.kp T.b_parts_of .nil pass0 (pa_cons (pe_op opMultU pe_int (pv 4)) (pa_cons (pv 3) pa_nil))) rfl)
      (pss_one (ps_fld (pv 0) (pe_op (opAddU (K := K)) (pe_op opMultU pe_int (pe_fldK (K := K) (pv 0) rfl)) (pe_op opMultU (pv 1) (pv 2))) rfl))))))))))))))), ?_⟩
    try dsimp only [cxOf]
    obtain ⟨s1, s2, b1, b2, o1, fits⟩ := id hL
    fail "go"
    refine g_iteF (decide_eq_false (by omega)) ?_
    fail "go"
    refine g_iteF (decide_eq_false (by omega)) ?_
    fail "go"
    refine g_iteF (decide_eq_false (by omega)) ?_
    fail "go"
    refine g_iteF (decide_eq_false (by omega)) ?_
    fail "go"
    refine ⟨by fail "sz", ?_⟩
    fail "newR"
    rename_i t H1 R1 n1 g1 h1 r1
    fail "go"
    refine g_ninF (.inr (SqT.of (r1 _ _ h1))) rfl rfl ?_
    fail "go"
    rw [oct_in o1]
    fail "go"
    refine g_iteF (decide_eq_false (by have := fits; unfold Lay.lastId Lay.limit Lay.payload at this; omega)) ?_
    fail "go"
    rename_i H2 g2 h2 s2
    exact hq _ (g1.rr.trans s2) h2
end
def spLawLay (C : Addr) : Sp := fun vs H Q _ => ∃ (R : Hp) (b : Addr) (n : Int), vs = [.ref b] ∧ Same R H ∧ R b = none ∧ H b = some (.lst [.int n]) ∧ ∀ p H' L, Same R H' → LayAt C H' p L → L ∈ lays → Q (.ref p) H'
section
variable {P : Program} {w : World} {K : PySem.W.Frag} {mg : Str → Option Value} {base : Heap}
theorem ok__law_layout (T : Txt K mg) : FnOk P w K mg base CX0 4 T.f__law_layout T.fd__law_layout ["box"] (spLawLay T.C_Layout) := by
  have G__law_take := ok__law_take (P := P) (w := w) (base := base) T
  have G_Layout___init__ := ok_Layout___init__ (P := P) (w := w) (base := base) T
  refine T.F__law_layout.ok sc__law_layout (fun vs H Q E h => ?_) (fun cdv A outer s H vs Q E hr h => ?_)
  · obtain ⟨R, b, n, rfl, sR, Rb, hb, hq⟩ := h
    rfl
  · obtain ⟨R, b, n, rfl, sR, Rb, hb, hq⟩ := h
    refine ⟨_, (pss_cons (ps_set (i := 1) sc__law_layout.nd rfl (by first | exact Or.inl rfl | exact Or.inr rfl) (pe_ix (ixU (K := K)) (pe_lst (pa_cons (pe_tup (pa_cons pe_int (pa_cons pe_int (pa_cons pe_int pa_nil)))) (pa_cons (pe_tup (pa_cons pe_int (pa_cons pe_int (pa_cons pe_int pa_nil)))) (pa_cons (pe_tup (pa_cons pe_int (pa_cons pe_int (pa_cons pe_int pa_nil)))) (pa_cons (pe_tup (pa_cons pe_int (pa_cons pe_int (pa_cons pe_int pa_nil)))) (pa_cons (pe_tup (pa_cons pe_int (pa_cons pe_int (pa_cons pe_int pa_nil)))) (pa_cons (pe_tup (pa_cons pe_int (pa_cons pe_int (pa_cons pe_int pa_nil)))) pa_nil))))))) (pe_call G__law_take (hr.mono (by decide)) rfl T.g__law_take T.F__law_take.kp T.b__law_take .nil pass0 (pa_cons (pv 0) (pa_cons pe_int pa_nil))) (fun _ _ => rfl)))
      (pss_one (ps_ret (pe_make T.mk_Layout G_Layout___init__ (hr.mono (by decide)) rfl T.g_Layout T.b_Layout___init__ .nil pass0 (pa_cons (pe_ix (ixU (K := K)) (pv 1) pe_int (fun _ _ => rfl)) (pa_cons (pe_ix (ixU (K := K)) (pv 1) pe_int (fun _ _ => rfl)) (pa_cons (pe_ix (ixU (K := K)) (pv 1) pe_int (fun _ _ => rfl)) pa_nil))))))), ?_⟩
    try dsimp only [cxOf]
    fail "go"
    refine ⟨by fail "sz", ?_⟩
    fail "newM"
    rename_i t1 H1 n1 g1 m1 h1 s1
    fail "go"
    refine ⟨by fail "sz", ?_⟩
    fail "newM"
    rename_i t2 H2 n2 g2 m2 h2 s2
    fail "go"
    refine ⟨by fail "sz", ?_⟩
    fail "newM"
    rename_i t3 H3 n3 g3 m3 h3 s3
    fail "go"
    refine ⟨by fail "sz", ?_⟩
    fail "newM"
    rename_i t4 H4 n4 g4 m4 h4 s4
    fail "go"
    refine ⟨by fail "sz", ?_⟩
    fail "newM"
    rename_i t5 H5 n5 g5 m5 h5 s5
    fail "go"
    refine ⟨by fail "sz", ?_⟩
    fail "newM"
    rename_i t6 H6 n6 g6 m6 h6 s6
    fail "go"
    refine ⟨by fail "sz", ?_⟩
    fail "newM"
    rename_i l H7 n7 g7 m7 h7 s7
    fail "go"
    fail "mut"
    rename_i H8 g8 h8 s8
    have pick : ∃ (L : Lay) (t : Addr), L ∈ lays ∧ atI [V.ref t1, V.ref t2, V.ref t3, V.ref t4, V.ref t5, V.ref t6] (n % 6) = some (.ref t) ∧ SqT K H8 t [.int L.seg, .int L.blk, .int L.oct] := by
      have h0 := Int.emod_nonneg n (show (6 : Int) ≠ 0 by decide)
      have h1 := Int.emod_lt_of_pos n (show (0 : Int) < 6 by decide)
      have : n % 6 = 0 ∨ n % 6 = 1 ∨ n % 6 = 2 ∨ n % 6 = 3 ∨ n % 6 = 4 ∨ n % 6 = 5 := by omega
      rcases this with e | e | e | e | e | e <;> rw [e]
      · exact ⟨⟨4, 16, 64⟩, t1, by simp [lays], rfl, SqT.of (by fail "hp")⟩
      · exact ⟨⟨4, 16, 64⟩, t2, by simp [lays], rfl, SqT.of (by fail "hp")⟩
      · exact ⟨⟨5, 16, 64⟩, t3, by simp [lays], rfl, SqT.of (by fail "hp")⟩
      · exact ⟨⟨4, 16, 128⟩, t4, by simp [lays], rfl, SqT.of (by fail "hp")⟩
      · exact ⟨⟨4, 17, 64⟩, t5, by simp [lays], rfl, SqT.of (by fail "hp")⟩
      · exact ⟨⟨4, 16, 256⟩, t6, by simp [lays], rfl, SqT.of (by fail "hp")⟩
    obtain ⟨L, t, hL, hi, ht⟩ := pick
    refine g_ixL (SqL.of (by fail "hp")) hi ?_
    fail "go"
    intro p dx np ndx nex
    refine ⟨R, p, dx, L, rfl, s8.trans (made_same np ndx), s8.free np, upd_same, lays_ok L hL, fun H9 s9 h9 => ⟨rfl, ?_⟩⟩
    fail "go"
    exact hq p H9 L s9 ⟨dx, h9⟩ hL
end
def lawCell0 (ns : List Int) (k : Int) : Int := if (0 : Int) < (ns.length : Int) then ns.getD (k % (ns.length : Int)).toNat 0 else 0
def lawCell (ns : List Int) (k : Int) : Int := if lawCell0 ns k < 0 then 1 - 2 * lawCell0 ns k else lawCell0 ns k
def lawMix1 (c k : Int) : Int := ((c + 7) * 48271 + (k + 3) * 69621) % 2147483647
def lawMix2 (c k : Int) : Int := ((lawMix1 c k + 11) * 16807 + (c + 1) * 40692 + k) % 2147483399
def lawMix (c k : Int) : Int := (lawMix1 c k * 2147483399 + lawMix2 c k * 31 + c) % 4611686014132420609
def lawNumber (ns : List Int) (k : Int) : Int := if 1000000000 ≤ lawCell ns k ∧ k < (ns.length : Int) then lawCell ns k else lawMix (lawCell ns k) k
def spNum (K : PySem.W.Frag) : Sp := fun vs H Q _ => ∃ (a : Addr) (ns : List Int) (k : Int), vs = [.ref a, .int k] ∧ SqL K H a (ns.map V.int) ∧ 0 ≤ k ∧ Q (.int (lawNumber ns k)) H
theorem atI_mod {ns : List Int} {k : Int} (h : (0 : Int) < (ns.length : Int)) : atI (ns.map V.int) (k % (ns.length : Int)) = some (.int (ns.getD (k % (ns.length : Int)).toNat 0)) := by
  have h1 := Int.emod_nonneg k (b := (ns.length : Int)) (by omega)
  have h2 := Int.emod_lt_of_pos k h
  obtain ⟨j, hj⟩ := Int.eq_ofNat_of_zero_le h1
  rw [hj]
  have hl : j < ns.length := by omega
  refine atI_nat ?_
  simp [hl, List.getD_eq_getElem?_getD]
theorem len_map {ns : List Int} : ((List.map V.int ns).length : Int) = (ns.length : Int) := by simp
section
variable {P : Program} {w : World} {K : PySem.W.Frag} {mg : Str → Option Value} {base : Heap}
theorem ok__law_number (T : Txt K mg) : FnOk P w K mg base CX0 1 T.f__law_number T.fd__law_number ["script", "k"] (spNum K) := by
  refine T.F__law_number.ok sc__law_number (fun vs H Q E h => ?_) (fun cdv A outer s H vs Q E hr h => ?_)
  · obtain ⟨a, ns, k, rfl, hS, k0, hq⟩ := h
    rfl
  · obtain ⟨a, ns, k, rfl, hS, k0, hq⟩ := h
    refine ⟨_, (pss_cons (ps_set (i := 2) sc__law_number.nd rfl (by first | exact Or.inl rfl | exact Or.inr rfl) pe_int)
      (pss_cons (ps_if (pt_cmpR op_gt (pe_callB (callLenU (K := K)) (by rfl) T.n_len (by decide +kernel) (pa_cons (pv 0) pa_nil)) pe_int (nomark _)) (pss_one (ps_set (i := 2) sc__law_number.nd rfl (by first | exact Or.inl rfl | exact Or.inr rfl) (pe_ix (ixU (K := K)) (pv 0) (pe_op opModU (pe_callTy callIntU (by rfl) T.n_int (by decide +kernel) (pa_cons (pv 1) pa_nil)) (pe_callB (callLenU (K := K)) (by rfl) T.n_len (by decide +kernel) (pa_cons (pv 0) pa_nil))) (fun _ _ => rfl)))) pss_nil)
      (pss_cons (ps_if (pt_cmpR op_lt (pv 2) pe_int (nomark _)) (pss_one (ps_set (i := 2) sc__law_number.nd rfl (by first | exact Or.inl rfl | exact Or.inr rfl) (pe_op opSubU pe_int (pe_op opMultU pe_int (pv 2))))) pss_nil)
      (pss_cons (ps_if (PW.pt (pw_and (pt_cmpR op_ge (pv 2) (pe_op opPowU pe_int pe_int) (nomark _)) (pw_and1 (pt_cmpR op_lt (pv 1) (pe_callB (callLenU (K := K)) (by rfl) T.n_len (by decide +kernel) (pa_cons (pv 0) pa_nil)) (nomark _))))) (pss_one (ps_ret (pv 2))) pss_nil)
      (pss_cons (ps_set (i := 3) sc__law_number.nd rfl (by first | exact Or.inl rfl | exact Or.inr rfl) (pe_op opModU (pe_callTy callIntU (by rfl) T.n_int (by decide +kernel) (pa_cons (pe_op (opAddU (K := K)) (pe_op opMultU (pe_op (opAddU (K := K)) (pv 2) pe_int) pe_int) (pe_op opMultU (pe_op (opAddU (K := K)) (pv 1) pe_int) pe_int)) pa_nil)) pe_int))
      (pss_cons (ps_set (i := 4) sc__law_number.nd rfl (by first | exact Or.inl rfl | exact Or.inr rfl) (pe_op opModU (pe_callTy callIntU (by rfl) T.n_int (by decide +kernel) (pa_cons (pe_op (opAddU (K := K)) (pe_op (opAddU (K := K)) (pe_op opMultU (pe_op (opAddU (K := K)) (pv 3) pe_int) pe_int) (pe_op opMultU (pe_op (opAddU (K := K)) (pv 2) pe_int) pe_int)) (pv 1)) pa_nil)) pe_int))
      (pss_one (ps_ret (pe_op opModU (pe_callTy callIntU (by rfl) T.n_int (by decide +kernel) (pa_cons (pe_op (opAddU (K := K)) (pe_op (opAddU (K := K)) (pe_op opMultU (pv 3) pe_int) (pe_op opMultU (pv 4) pe_int)) (pv 2)) pa_nil)) pe_int))))))))), ?_⟩
    try dsimp only [cxOf]
    fail "go"
    rw [len_map]
    refine g_joinI (fun x => x = .int (lawCell0 ns k)) rfl (fun h Q' q' => ?_) (fun h => ?_) (fun x hx => ?_)
    · fail "go"
      rw [len_map]
      fail "go"
      refine g_ixL hS (atI_mod h) (q' _ ?_)
      rw [lawCell0, if_pos h]
    · rw [lawCell0, if_neg h]
    subst hx
    fail "go"
    refine g_joinI (fun x => x = .int (lawCell ns k)) rfl (fun h Q' q' => ?_) (fun h => ?_) (fun x hx => ?_)
    · fail "go"
      refine q' _ ?_
      rw [lawCell, if_pos h]
    · rw [lawCell, if_neg h]
    subst hx
    fail "go"
    have e9 : (10 : Int) ^ Int.toNat 9 = 1000000000 := by decide
    rw [e9]
    refine g_ite (fun h1 => ?_) (fun h1 => ?_)
    · fail "go"
      rw [len_map]
      refine g_ite (fun h2 => ?_) (fun h2 => ?_)
      · fail "go"
        rw [lawNumber, if_pos ⟨h1, h2⟩] at hq
        exact hq
      · fail "go"
        rw [lawNumber, if_neg (fun z => h2 z.2)] at hq
        exact hq
    · fail "go"
      rw [lawNumber, if_neg (fun z => h1 z.1)] at hq
      exact hq
end
def spLawBlock (K : PySem.W.Frag) (C : Addr) : Sp := fun vs H Q _ => ∃ (R : Hp) (a b : Addr) (L : Lay) (n : Int), vs = [.ref a, .ref b] ∧ Same R H ∧ LayAt C R a L ∧ L ∈ lays ∧ R b = none ∧ H b = some (.lst [.int n]) ∧
  ∀ v R' H' k, Gr [b] R H R' H' → (∃ m, H' b = some (.lst [.int m])) → Dp K R' v k.d → Full L k → 0 ≤ k.place ∧ k.place < 32 → Q v H'
theorem pick2 {x y : Int} (c : Bool) : atI [V.int x, V.int y] (if c = true then 1 else 0) = some (V.int (if c = true then y else x)) := by cases c <;> rfl
def BodyFull (L : Lay) (k : Int) (l : List Int) : Prop := (k = 3 → (l.length : Int) = L.oct) ∧ (k ≠ 3 → 2 * (l.length : Int) = L.oct) ∧ (k ≠ 3 → ∀ n ∈ l, 0 ≤ n ∧ n < 65536)
def LbMid (R Hc : Hp) (L : Lay) (a b : Addr) (k s f st : Int) (σ : St) (H : Hp) : Prop := ∃ (R' : Hp) (t : Addr) (l : List Int) (x : Option V), σ = [some (.ref a), some (.ref b), some (.int k), some (.int s), some (.int f), some (.int st), some (.ref t), x] ∧ Gr [] R Hc R' H ∧ R' t = some (.tup (l.map V.int)) ∧ BodyFull L k l
def col (f : Nat → Int) (j : Nat) : List Int := (List.range j).map f
@[simp] theorem col_len (f : Nat → Int) (j : Nat) : (col f j).length = j := by simp [col]
theorem col_succ (f : Nat → Int) (j : Nat) : col f (j + 1) = col f j ++ [f j] := by simp [col, List.range_succ]
def ColInv (R Hc : Hp) (D : Addr) (f : Nat → Int) (j : Nat) (H : Hp) : Prop := Same Hc H ∧ H D = some (.lst ((col f j).map V.int))
local macro_rules | `(tactic| fail "calls") => `(tactic| ((with_reducible show spTake _ _ _ _); refine ⟨_, _, _, rfl, by fail "hp", by fail "ar", by fail "ar", ?_⟩; fail "mut"))
section
variable {P : Program} {w : World} {K : PySem.W.Frag} {mg : Str → Option Value} {base : Heap}
theorem ok__law_block (T : Txt K mg) : FnOk P w K mg base CX0 2 T.f__law_block T.fd__law_block ["layout", "box"] (spLawBlock K T.C_Layout) := by
  have cl_Layout := T.cl_Layout
  have a_Layout_block_size := T.a_Layout_block_size
  have a_Layout_fan := T.a_Layout_fan
  have G__law_take := ok__law_take (P := P) (w := w) (base := base) T
  refine T.F__law_block.ok sc__law_block (fun vs H Q E h => ?_) (fun cdv A outer s H vs Q E hr h => ?_)
  · obtain ⟨R, a, b, L, n, rfl, sR, ⟨dx, ha⟩, hL, Rb, hb, hq⟩ := h
    rfl
  · obtain ⟨R, a, b, L, n, rfl, sR, ⟨dx, ha⟩, hL, Rb, hb, hq⟩ := h
    refine ⟨_, (pss_cons (ps_set (i := 2) sc__law_block.nd rfl (by first | exact Or.inl rfl | exact Or.inr rfl) (pe_op (opAddU (K := K)) pe_int (pe_call G__law_take (hr.mono (by decide)) rfl T.g__law_take T.F__law_take.kp T.b__law_take .nil pass0 (pa_cons (pv 1) (pa_cons pe_int pa_nil)))))
      (pss_cons (ps_set (i := 3) sc__law_block.nd rfl (by first | exact Or.inl rfl | exact Or.inr rfl) (pe_ix (ixU (K := K)) (pe_lst (pa_cons (pe_op (opAddU (K := K)) pe_int (pe_call G__law_take (hr.mono (by decide)) rfl T.g__law_take T.F__law_take.kp T.b__law_take .nil pass0 (pa_cons (pv 1) (pa_cons pe_int pa_nil)))) (pa_cons (pe_op opSubU (pe_op opSubU (pe_op opPowU pe_int pe_int) pe_int) (pe_call G__law_take (hr.mono (by decide)) rfl T.g__law_take T.F__law_take.kp T.b__law_take .nil pass0 (pa_cons (pv 1) (pa_cons pe_int pa_nil)))) pa_nil))) (pe_callTy callIntU (by rfl) T.n_int (by decide +kernel) (pa_cons (pe_cmpR (opEqU (K := K) hr.units) (pe_call G__law_take (hr.mono (by decide)) rfl T.g__law_take T.F__law_take.kp T.b__law_take .nil pass0 (pa_cons (pv 1) (pa_cons pe_int pa_nil))) pe_int (nomark _)) pa_nil)) (fun _ _ => rfl)))
      (pss_cons (ps_set (i := 4) sc__law_block.nd rfl (by first | exact Or.inl rfl | exact Or.inr rfl) (pe_call G__law_take (hr.mono (by decide)) rfl T.g__law_take T.F__law_take.kp T.b__law_take .nil pass0 (pa_cons (pv 1) (pa_cons pe_int pa_nil))))
      (pss_cons (ps_set (i := 5) sc__law_block.nd rfl (by first | exact Or.inl rfl | exact Or.inr rfl) (pe_call G__law_take (hr.mono (by decide)) rfl T.g__law_take T.F__law_take.kp T.b__law_take .nil pass0 (pa_cons (pv 1) (pa_cons pe_int pa_nil))))
      (pss_cons (ps_if (pt_cmpR (opEqU (K := K) hr.units) (pv 2) pe_int (nomark _)) (pss_one (ps_set (i := 6) sc__law_block.nd rfl (by first | exact Or.inl rfl | exact Or.inr rfl) (pe_callTy (callTupU (K := K)) (by rfl) T.n_tuple (by decide +kernel) (pa_cons (pe_lc (own := [("k", 7)]) (g := gName 7) (tt := tYes) rfl sc__law_block.nd (pi_range1 rfl T.n_range (pa_cons (pe_fldK (K := K) (pv 0) rfl) pa_nil)) (blkOk_by (N := N__law_block) (sc := defScope s__law_block) (by decide +kernel)) (fun _ _ _ _ _ => (pg_name (i := 7) sc__law_block.nd rfl (by first | exact Or.inl rfl | exact Or.inr rfl))) (fun _ _ _ _ _ => pts_nil) (fun _ _ _ _ _ => (pe_op opModU (pe_callTy callIntU (by rfl) T.n_int (by decide +kernel) (pa_cons (pe_op (opAddU (K := K)) (pv 4) (pe_op opMultU (pv 7) (pv 5))) pa_nil)) pe_int))) pa_nil)))) (pss_one (ps_set (i := 6) sc__law_block.nd rfl (by first | exact Or.inl rfl | exact Or.inr rfl) (pe_callTy (callTupU (K := K)) (by rfl) T.n_tuple (by decide +kernel) (pa_cons (pe_lc (own := [("k", 7)]) (g := gName 7) (tt := tYes) rfl sc__law_block.nd (pi_range1 rfl T.n_range (pa_cons (pe_fldK (K := K) (pv 0) rfl) pa_nil)) (blkOk_by (N := N__law_block) (sc := defScope s__law_block) (by decide +kernel)) (fun _ _ _ _ _ => (pg_name (i := 7) sc__law_block.nd rfl (by first | exact Or.inl rfl | exact Or.inr rfl))) (fun _ _ _ _ _ => pts_nil) (fun _ _ _ _ _ => (pe_op opModU (pe_callTy callIntU (by rfl) T.n_int (by decide +kernel) (pa_cons (pe_op (opAddU (K := K)) (pv 4) (pe_op opMultU (pe_op opMultU (pv 7) (pv 5)) pe_int)) pa_nil)) pe_int))) pa_nil)))))
      (pss_one (ps_ret (pe_tup (pa_cons (pv 2) (pa_cons (pv 3) (pa_cons (pe_call G__law_take (hr.mono (by decide)) rfl T.g__law_take T.F__law_take.kp T.b__law_take .nil pass0 (pa_cons (pv 1) (pa_cons pe_int pa_nil))) (pa_cons (pv 6) pa_nil)))))))))))), ?_⟩
    try dsimp only [cxOf]
    have haH := sR _ _ ha
    have ok := lays_ok L hL
    fail "go"
    refine ⟨by fail "sz", ?_⟩
    fail "newM"
    rename_i p H1 n1 g1 m1 h1 s1
    fail "go"
    refine g_ixL (SqL.of (by fail "hp")) (pick2 _) ?_
    generalize (if decide (n / 3 / 300 / 9 % 8 = 0) = true then _ else _ : Int) = sq
    fail "gi"
    rename_i H2 g2 h2 s2
    generalize n / 3 / 300 / 9 / 8 % 70 = f at *
    generalize n / 3 / 300 / 9 / 8 / 70 % 251 = d at *
    have k0 := Int.emod_nonneg n (show (3 : Int) ≠ 0 by decide)
    refine g_seqIN (LbMid R H2 L a b (3 + n % 3) sq f d) ?_ (fun N rest => ?_)
    · rintro σ H3 ⟨R3, t, l, x, rfl, g3, h3, hl⟩
      have s3 := g3.rh
      have h3b := g3.same _ _ h2
      have r3b : R3 b = none := g3.fr _ _ h2 Rb
      fail "go"
      refine ⟨by fail "sz", ?_⟩
      fail "newR"
      rename_i p H5 R5 n5 g5 h5 s5
      refine hq _ R5 H5 ⟨3 + n % 3, sq, n / 3 / 300 / 9 / 8 / 70 / 251 % 32, l⟩ (by fail "gr") ⟨_, by fail "hp"⟩ ?_ ⟨by show 3 ≤ 3 + n % 3; omega, hl.1, hl.2.1, hl.2.2⟩ ⟨Int.emod_nonneg _ (by decide), Int.emod_lt_of_pos _ (by decide)⟩
      exact .tup (SqT.of h5) (.cons (.int _) (.cons (.int _) (.cons (.int _) (.cons (.tup (SqT.of (by fail "rp")) (dpAll_ints l)) .nil))))
    · have o1 := ok.o1
      have hfan : L.fan = L.oct / 2 := rfl
      fail "go"
      refine g_ite (fun e => ?_) (fun e => ?_)
      · fail "go"
        refine g_R1W (n := (L.oct).toNat) (by omega) (by omega) ?_
        intro D nD
        refine lc_range (lo := 0) (n := (L.oct).toNat) (ColInv R H2 D fun k => (f + (0 + (k : Int)) * d) % 256) ⟨(Gr.newM (M := []) (Same.refl H2) nD).same, by rw [upd_same]; rfl⟩ ?_ ?_
        · rintro j H3 hj ⟨s3, h3⟩
          refine ⟨rfl, ?_⟩
          fail "go"
          refine ⟨_, h3, by rw [List.length_map, col_len]; fail "sz", fun c o q => by rw [upd_ne (ne_of_none q nD)]; exact s3 c o q, ?_⟩
          rw [upd_same, col_succ, List.map_append]; rfl
        rintro H3 ⟨s3, h3⟩
        have sR3 := s2.trans s3
        have gm := Mu.ofSame (M := []) s2 s3
        fail "go"
        refine g_tupL (SqL.of h3) ?_
        fail "newR"
        rename_i t H4 R4 n4 g4 h4 s4
        fail "go"
        refine rest _ _ ⟨R4, t, _, _, rfl, gm.g.trans g4, h4, ?_, ?_, ?_⟩
        · intro _; rw [col_len]; omega
        · intro z; exact absurd e z
        · intro z; exact absurd e z
      · fail "go"
        refine g_R1W (n := (L.fan).toNat) (by omega) (by omega) ?_
        intro D nD
        refine lc_range (lo := 0) (n := (L.fan).toNat) (ColInv R H2 D fun k => (f + (0 + (k : Int)) * d * 37) % 65536) ⟨(Gr.newM (M := []) (Same.refl H2) nD).same, by rw [upd_same]; rfl⟩ ?_ ?_
        · rintro j H3 hj ⟨s3, h3⟩
          refine ⟨rfl, ?_⟩
          fail "go"
          refine ⟨_, h3, by rw [List.length_map, col_len]; fail "sz", fun c o q => by rw [upd_ne (ne_of_none q nD)]; exact s3 c o q, ?_⟩
          rw [upd_same, col_succ, List.map_append]; rfl
        rintro H3 ⟨s3, h3⟩
        have sR3 := s2.trans s3
        have gm := Mu.ofSame (M := []) s2 s3
        fail "go"
        refine g_tupL (SqL.of h3) ?_
        fail "newR"
        rename_i t H4 R4 n4 g4 h4 s4
        fail "go"
        refine rest _ _ ⟨R4, t, _, _, rfl, gm.g.trans g4, h4, ?_, ?_, ?_⟩
        · intro z; exact absurd z e
        · intro _; rw [col_len]; rw [hfan]; omega
        · intro _ n hn
          obtain ⟨k, _, rfl⟩ := List.mem_map.mp hn
          exact ⟨Int.emod_nonneg _ (by decide), Int.emod_lt_of_pos _ (by decide)⟩
end
def spOctets : Sp := fun vs H Q _ => ∃ (n : Int) (k : Nat), vs = [.int n, .int (k : Int)] ∧ k ≤ 100 ∧ ∀ p H', Same H H' → H p = none → H' p = some (.lst ((lows n k).map V.int)) → Q (.ref p) H'
def OctInv (R : Hp) (n : Int) (k : Nat) (p : Addr) (i : Nat) (σ : St) (H : Hp) : Prop := ∃ x : Option V, σ = [some (.int (lowsRest n i)), some (.int (k : Int)), some (.ref p), x] ∧ Same R H ∧ H p = some (.lst ((lows n i).map V.int))
section
variable {P : Program} {w : World} {K : PySem.W.Frag} {mg : Str → Option Value} {base : Heap}
theorem ok_number_octets (T : Txt K mg) : FnOk P w K mg base CX0 1 T.f_number_octets T.fd_number_octets ["number", "count"] (spOctets) := by
  refine T.F_number_octets.ok sc_number_octets (fun vs H Q E h => ?_) (fun cdv A outer s H vs Q E hr h => ?_)
  · obtain ⟨n, k, rfl, hk, hq⟩ := h
    rfl
  · obtain ⟨n, k, rfl, hk, hq⟩ := h
    refine ⟨_, (pss_cons (ps_set (i := 2) sc_number_octets.nd rfl (by first | exact Or.inl rfl | exact Or.inr rfl) (pe_lst pa_nil))
      (pss_cons (ps_for PassesOwn.never rfl (pi_range1 rfl T.n_range (pa_cons (pv 1) pa_nil)) (pg_name (i := 3) sc_number_octets.nd rfl (by first | exact Or.inl rfl | exact Or.inr rfl)) (pss_cons (ps_expr (pe_bm PySem.F.plainAttrs_list PySem.F.slot_list_append PySem.F.type_list_append mt_append (pv 2) (pa_cons (pe_op opModU (pv 0) pe_int) pa_nil)))
      (pss_one (ps_set (i := 0) sc_number_octets.nd rfl (by first | exact Or.inl rfl | exact Or.inr rfl) (pe_op opFloorDivU (pv 0) pe_int)))))
      (pss_one (ps_ret (pv 2))))), ?_⟩
    try dsimp only [cxOf]
    have r0 := Same.refl H
    fail "go"
    refine ⟨by fail "sz", ?_⟩
    fail "newM"
    rename_i p H1 n1 g1 m1 h1 s1
    fail "go"
    refine g_R1W rfl (by omega) ?_
    refine for_range (lo := 0) (n := k) (OctInv H n k p) ⟨none, rfl, s1, h1⟩ ?_ ?_
    · rintro i σ H2 hi ⟨x0, rfl, s2, h2⟩
      fail "go"
      rename_i H3 g3 h3 s3
      refine ⟨some (.int (0 + (i : Int))), ?_, s3, ?_⟩
      · rw [lowsRest_succ]; rfl
      · rw [lows_succ, List.map_append]; exact h3
    · rintro σ H2 ⟨x0, rfl, s2, h2⟩
      fail "go"
      exact hq _ _ s2 m1 h2
end
section
variable {P : Program} {w : World} {K : PySem.W.Frag} {mg : Str → Option Value} {base : Heap}
theorem ok_summary_octets (T : Txt K mg) : FnOk P w K mg base CX0 1 T.f_summary_octets T.fd_summary_octets ["layout", "mark", "numbers", "action"] (fun _ _ _ _ => False) := T.F_summary_octets.ok sc_summary_octets (fun _ _ _ _ h => h.elim) (fun _ _ _ _ _ _ _ _ _ h => h.elim)
end
section
variable {P : Program} {w : World} {K : PySem.W.Frag} {mg : Str → Option Value} {base : Heap}
theorem ok_bits_of (T : Txt K mg) : FnOk P w K mg base CX0 1 T.f_bits_of T.fd_bits_of ["used", "last_id"] (fun _ _ _ _ => False) := T.F_bits_of.ok sc_bits_of (fun _ _ _ _ h => h.elim) (fun _ _ _ _ _ _ _ _ _ h => h.elim)
end
def spPairs (K : PySem.W.Frag) : Sp := fun vs H Q _ => ∃ (a : Addr) (ns : List Int), vs = [.ref a] ∧ SqT K H a (ns.map V.int) ∧ ns.length ≤ 300 ∧ ∀ p H', Same H H' → H p = none → H' p = some (.lst ((pairs ns).map V.int)) → Q (.ref p) H'
def PairInv (R : Hp) (a : Addr) (ns : List Int) (p : Addr) (i : Nat) (σ : St) (H : Hp) : Prop := ∃ x : Option V, σ = [some (.ref a), some (.ref p), x] ∧ Same R H ∧ H p = some (.lst ((pairs (ns.take i)).map V.int))
section
variable {P : Program} {w : World} {K : PySem.W.Frag} {mg : Str → Option Value} {base : Heap}
theorem ok_pairs_of (T : Txt K mg) : FnOk P w K mg base CX0 1 T.f_pairs_of T.fd_pairs_of ["numbers"] (spPairs K) := by
  refine T.F_pairs_of.ok sc_pairs_of (fun vs H Q E h => ?_) (fun cdv A outer s H vs Q E hr h => ?_)
  · obtain ⟨a, ns, rfl, ha, hk, hq⟩ := h
    rfl
  · obtain ⟨a, ns, rfl, ha, hk, hq⟩ := h
    refine ⟨_, (pss_cons (ps_set (i := 1) sc_pairs_of.nd rfl (by first | exact Or.inl rfl | exact Or.inr rfl) (pe_lst pa_nil))
      (pss_cons (ps_for PassesOwn.never rfl (pi_tupK (K := K) (pv 0)) (pg_name (i := 2) sc_pairs_of.nd rfl (by first | exact Or.inl rfl | exact Or.inr rfl)) (pss_cons (ps_expr (pe_bm PySem.F.plainAttrs_list PySem.F.slot_list_append PySem.F.type_list_append mt_append (pv 1) (pa_cons (pe_op opModU (pv 2) pe_int) pa_nil)))
      (pss_one (ps_expr (pe_bm PySem.F.plainAttrs_list PySem.F.slot_list_append PySem.F.type_list_append mt_append (pv 1) (pa_cons (pe_op opFloorDivU (pv 2) pe_int) pa_nil))))))
      (pss_one (ps_ret (pv 1))))), ?_⟩
    try dsimp only [cxOf]
    have r0 := Same.refl H
    fail "go"
    refine ⟨by fail "sz", ?_⟩
    fail "newM"
    rename_i p H1 n1 g1 m1 h1 s1
    fail "go"
    refine g_TsW (by fail "sq") ?_
    refine for_tup (K := K) (xs := ns.map V.int) (PairInv H a ns p) ⟨none, rfl, s1, h1⟩ (fun i σ H2 _ ⟨_, _, s2, _⟩ => sqT_mono s2 ha) ?_ ?_
    · rintro i x σ H2 hi ⟨x0, rfl, s2, h2⟩
      obtain ⟨n, hn, rfl⟩ := map_get hi
      have hil : i < ns.length := (List.getElem?_eq_some_iff.mp hn).1
      have htl : (ns.take i).length = i := by rw [List.length_take]; omega
      fail "go"
      rename_i H3 g3 h3 s3
      refine ⟨_, rfl, s3, ?_⟩
      rw [take_snoc hn, pairs_snoc, List.map_append]
      rw [h3, List.append_assoc]; rfl
    · rintro σ H2 ⟨x0, rfl, s2, h2⟩
      rw [List.length_map, List.take_length] at h2
      fail "go"
      exact hq _ _ s2 m1 h2
end
def spBody (K : PySem.W.Frag) (C : Addr) : Sp := fun vs H Q _ => ∃ (a t : Addr) (L : Lay) (k : Int) (ns : List Int), vs = [.ref a, .int k, .ref t] ∧ LayAt C H a L ∧ L.Ok ∧ 3 ≤ k ∧ SqT K H t (ns.map V.int) ∧ ns.length ≤ 300 ∧
  ∀ p H', Same H H' → H p = none → H' p = some (.lst ((bodyOf L k ns).map V.int)) → Q (.ref p) H'
def BodyMid (R : Hp) (a t : Addr) (k : Int) (ns : List Int) (σ : St) (H : Hp) : Prop := ∃ p, σ = [some (.ref a), some (.int k), some (.ref t), some (.ref p)] ∧ Same R H ∧ R p = none ∧ H p = some (.lst ((found k ns).map V.int))
local macro_rules | `(tactic| fail "calls") => `(tactic| ((with_reducible show spPairs _ _ _ _ _); refine ⟨_, _, rfl, by fail "sq", by fail "ar", ?_⟩))
section
variable {P : Program} {w : World} {K : PySem.W.Frag} {mg : Str → Option Value} {base : Heap}
theorem ok_body_octets (T : Txt K mg) : FnOk P w K mg base CX0 2 T.f_body_octets T.fd_body_octets ["layout", "kind", "body"] (spBody K T.C_Layout) := by
  have cl_Layout := T.cl_Layout
  have a_Layout_last_id := T.a_Layout_last_id
  have a_Layout_block_size := T.a_Layout_block_size
  have G_summary_octets := ok_summary_octets (P := P) (w := w) (base := base) T
  have G_bits_of := ok_bits_of (P := P) (w := w) (base := base) T
  have G_pairs_of := ok_pairs_of (P := P) (w := w) (base := base) T
  refine T.F_body_octets.ok sc_body_octets (fun vs H Q E h => ?_) (fun cdv A outer s H vs Q E hr h => ?_)
  · obtain ⟨a, t, L, k, ns, rfl, ⟨dx, ha⟩, hL, hk, ht, hl, hq⟩ := h
    rfl
  · obtain ⟨a, t, L, k, ns, rfl, ⟨dx, ha⟩, hL, hk, ht, hl, hq⟩ := h
    refine ⟨_, (pss_cons (ps_if (pt_cmpR (opEqU (K := K) hr.units) (pv 1) (pe_glob rfl T.g_COMMIT T.r_COMMIT) (nomark _)) (pss_one (ps_set (i := 3) sc_body_octets.nd rfl (by first | exact Or.inl rfl | exact Or.inr rfl) (pe_op (opAddU (K := K)) (pe_call G_summary_octets (hr.mono (by decide)) rfl T.g_summary_octets T.F_summary_octets.kp T.b_summary_octets .nil pass0 (pa_cons (pv 0) (pa_cons pe_int (pa_cons (pe_ix (ixU (K := K)) (pv 2) pe_int (fun _ _ => rfl)) (pa_cons (pe_ix (ixU (K := K)) (pv 2) pe_int (fun _ _ => rfl)) pa_nil))))) (pe_call G_bits_of (hr.mono (by decide)) rfl T.g_bits_of T.F_bits_of.kp T.b_bits_of .nil pass0 (pa_cons (pe_ix (ixU (K := K)) (pv 2) pe_int (fun _ _ => rfl)) (pa_cons (pe_fldK (K := K) (pv 0) rfl) pa_nil)))))) (pss_one (ps_if (pt_cmpR (opEqU (K := K) hr.units) (pv 1) (pe_glob rfl T.g_MOVE T.r_MOVE) (nomark _)) (pss_one (ps_set (i := 3) sc_body_octets.nd rfl (by first | exact Or.inl rfl | exact Or.inr rfl) (pe_call G_summary_octets (hr.mono (by decide)) rfl T.g_summary_octets T.F_summary_octets.kp T.b_summary_octets .nil pass0 (pa_cons (pv 0) (pa_cons pe_int (pa_cons (pv 2) (pa_cons pe_int pa_nil))))))) (pss_one (ps_if (pt_cmpR (opEqU (K := K) hr.units) (pv 1) (pe_glob rfl T.g_DATA T.r_DATA) (nomark _)) (pss_one (ps_set (i := 3) sc_body_octets.nd rfl (by first | exact Or.inl rfl | exact Or.inr rfl) (pe_callTy (callListU (K := K)) (by rfl) T.n_list (by decide +kernel) (pa_cons (pv 2) pa_nil)))) (pss_one (ps_set (i := 3) sc_body_octets.nd rfl (by first | exact Or.inl rfl | exact Or.inr rfl) (pe_call G_pairs_of (hr.mono (by decide)) rfl T.g_pairs_of T.F_pairs_of.kp T.b_pairs_of .nil pass0 (pa_cons (pv 2) pa_nil)))))))))
      (pss_one (ps_ret (pe_op (opAddU (K := K)) (pv 3) (pe_op opMultU (pe_lst (pa_cons pe_int pa_nil)) (pe_op opSubU (pe_fldK (K := K) (pv 0) rfl) (pe_callB (callLenU (K := K)) (by rfl) T.n_len (by decide +kernel) (pa_cons (pv 3) pa_nil)))))))), ?_⟩
    try dsimp only [cxOf]
    have r0 := Same.refl H
    refine g_seqIN (BodyMid H a t k ns) ?_ (fun N rest => ?_)
    · rintro σ H1 ⟨p, rfl, s1, m1, h1⟩
      fail "go"
      refine ⟨by fail "sz", ?_⟩
      fail "newM"
      rename_i z H2 n2 g2 m2 h2 s2
      fail "go"
      have f1 := found_len (k := k) (l := ns)
      have o1 := hL.o1
      rw [List.length_map]
      refine g_repZ (by fail "hp") (by omega) (by omega) ?_
      fail "newM"
      rename_i y H3 n3 g3 m3 h3 s3
      fail "go"
      refine g_catI (l := found k ns) (by fail "hp") h3 (by rw [List.length_replicate]; omega) ?_
      fail "newM"
      rename_i w H4 n4 g4 m4 h4 s4
      exact hq _ _ s4 m4 h4
    · fail "go"
      refine g_iteF (decide_eq_false (by omega)) ?_
      fail "go"
      refine g_iteF (decide_eq_false (by omega)) ?_
      fail "go"
      refine g_ite (fun e => ?_) (fun e => ?_)
      · fail "go"
        refine g_listT (by fail "sq") ?_
        fail "newM"
        rename_i p H1 n1 g1 m1 h1 s1
        fail "go"
        refine rest _ _ ⟨p, rfl, s1, m1, ?_⟩
        rw [found, if_pos e]; exact h1
      · fail "go"
        intro p H1 s1 n1 h1
        fail "go"
        refine rest _ _ ⟨p, rfl, s1, n1, ?_⟩
        rw [found, if_neg e]; exact h1
end
local macro_rules | `(tactic| fail "calls") => `(tactic| ((with_reducible show spOctets _ _ _ _); first | refine ⟨_, 6, rfl, by omega, ?_⟩ | refine ⟨_, 2, rfl, by omega, ?_⟩ | refine ⟨_, 3, rfl, by omega, ?_⟩))
def spBlock (K : PySem.W.Frag) (C : Addr) : Sp := fun vs H Q _ => ∃ (a : Addr) (v : V) (L : Lay) (b : Option Blk), vs = [.ref a, v] ∧ LayAt C H a L ∧ L.Ok ∧ Dp K H v (optD b) ∧ BlkOk b ∧
  ∀ p H', Same H H' → H p = none → H' p = some (.lst ((octs L b).map V.int)) → Q (.ref p) H'
section
variable {P : Program} {w : World} {K : PySem.W.Frag} {mg : Str → Option Value} {base : Heap}
theorem ok_block_octets (T : Txt K mg) : FnOk P w K mg base CX0 3 T.f_block_octets T.fd_block_octets ["layout", "block"] (spBlock K T.C_Layout) := by
  have cl_Layout := T.cl_Layout
  have a_Layout_block_size := T.a_Layout_block_size
  have G_number_octets := ok_number_octets (P := P) (w := w) (base := base) T
  have G_body_octets := ok_body_octets (P := P) (w := w) (base := base) T
  refine T.F_block_octets.ok sc_block_octets (fun vs H Q E h => ?_) (fun cdv A outer s H vs Q E hr h => ?_)
  · obtain ⟨a, v, L, b, rfl, ⟨dx, ha⟩, hL, hv, hb, hq⟩ := h
    rfl
  · obtain ⟨a, v, L, b, rfl, ⟨dx, ha⟩, hL, hv, hb, hq⟩ := h
    refine ⟨_, (pss_cons (ps_if (pt_cmpR opIsU (pv 1) pe_non (nomark _)) (pss_one (ps_ret (pe_op opMultU (pe_lst (pa_cons pe_int pa_nil)) (pe_op (opAddU (K := K)) (pe_glob rfl T.g_SPARE T.r_SPARE) (pe_fldK (K := K) (pv 0) rfl))))) pss_nil)
      (pss_cons (ps_asg (pv 1) (pg_tupK (K := K) rfl (pgs_cons (pg_name (i := 2) sc_block_octets.nd rfl (by first | exact Or.inl rfl | exact Or.inr rfl)) (pgs_cons (pg_name (i := 3) sc_block_octets.nd rfl (by first | exact Or.inl rfl | exact Or.inr rfl)) (pgs_cons (pg_name (i := 4) sc_block_octets.nd rfl (by first | exact Or.inl rfl | exact Or.inr rfl)) (pgs_cons (pg_name (i := 5) sc_block_octets.nd rfl (by first | exact Or.inl rfl | exact Or.inr rfl)) pgs_nil))))))
      (pss_cons (ps_set (i := 6) sc_block_octets.nd rfl (by first | exact Or.inl rfl | exact Or.inr rfl) (pe_op (opAddU (K := K)) (pe_op (opAddU (K := K)) (pe_lst (pa_cons (pv 2) pa_nil)) (pe_call G_number_octets (hr.mono (by decide)) rfl T.g_number_octets T.F_number_octets.kp T.b_number_octets .nil pass0 (pa_cons (pv 3) (pa_cons pe_int pa_nil)))) (pe_call G_number_octets (hr.mono (by decide)) rfl T.g_number_octets T.F_number_octets.kp T.b_number_octets .nil pass0 (pa_cons (pv 4) (pa_cons pe_int pa_nil)))))
      (pss_one (ps_ret (pe_op (opAddU (K := K)) (pe_op (opAddU (K := K)) (pv 6) (pe_op opMultU (pe_lst (pa_cons pe_int pa_nil)) (pe_op opSubU (pe_glob rfl T.g_SPARE T.r_SPARE) (pe_callB (callLenU (K := K)) (by rfl) T.n_len (by decide +kernel) (pa_cons (pv 6) pa_nil))))) (pe_call G_body_octets (hr.mono (by decide)) rfl T.g_body_octets T.F_body_octets.kp T.b_body_octets .nil pass0 (pa_cons (pv 0) (pa_cons (pv 2) (pa_cons (pv 5) pa_nil)))))))))), ?_⟩
    try dsimp only [cxOf]
    have r0 := Same.refl H
    have o1 := hL.o1
    cases b with
    | none =>
      obtain rfl := dp_non hv
      fail "go"
      refine ⟨by fail "sz", ?_⟩
      fail "newM"
      rename_i z H2 n2 g2 m2 h2 s2
      fail "go"
      refine g_repZ (by fail "hp") (by omega) (by omega) ?_
      fail "newM"
      rename_i y H3 n3 g3 m3 h3 s3
      exact hq _ _ s3 m3 h3
    | some b =>
      obtain ⟨t, u, rfl, ht, hu⟩ := dpBlk hv
      obtain ⟨b1, b2⟩ := hb
      have bl := bodyOf_len (k := b.kind) hL b2
      fail "go"
      refine ⟨by fail "sz", ?_⟩
      fail "newM"
      rename_i z H1 n1 g1 m1 h1 s1
      fail "go"
      fail "ret"
      rename_i p2 H2 h2 f2 g2 m2 s2
      refine g_catI (l := [b.kind]) (by fail "hp") h2 (by simp) ?_
      fail "newM"
      rename_i p3 H3 n3 g3 m3 h3 s3
      fail "go"
      fail "ret"
      rename_i p4 H4 h4 f4 g4 m4 s4
      refine g_catI (by fail "hp") h4 (by simp) ?_
      fail "newM"
      rename_i p5 H5 n5 g5 m5 h5 s5
      fail "go"
      refine ⟨by fail "sz", ?_⟩
      fail "newM"
      rename_i p6 H6 n6 g6 m6 h6 s6
      fail "go"
      rw [List.length_map]
      refine g_repZ (by fail "hp") (by simp) (by simp) ?_
      fail "newM"
      rename_i p7 H7 n7 g7 m7 h7 s7
      refine g_catI (by fail "hp") h7 (by simp) ?_
      fail "newM"
      rename_i p8 H8 n8 g8 m8 h8 s8
      fail "go"
      refine ⟨a, u, L, _, _, rfl, ⟨dx, by fail "hp"⟩, hL, b1, by fail "sq", b2, ?_⟩
      fail "ret"
      rename_i p9 H9 h9 f9 g9 m9 s9
      fail "go"
      refine g_catI (by fail "hp") h9 (by simp; omega) ?_
      fail "newM"
      rename_i pA HA nA gA mA hA sA
      refine hq _ _ sA mA ?_
      rw [hA]
      have e7 : ((16 : Int) - (([b.kind] ++ lows b.seq 6 ++ lows b.place 2).length : Int)).toNat = 7 := by simp
      rw [e7]
      rfl
end
def spCheck (K : PySem.W.Frag) (C : Addr) : Sp := fun vs H Q _ => ∃ (a : Addr) (v : V) (L : Lay) (n : Int) (b : Option Blk), vs = [.ref a, .int n, v] ∧ LayAt C H a L ∧ L.Ok ∧ Dp K H v (optD b) ∧ BlkOk b ∧ ∀ H', Same H H' → Q (.int (chk L n b)) H'
def ChkInv (R : Hp) (a : Addr) (v : V) (n : Int) (os : List Int) (i : Nat) (σ : St) (H : Hp) : Prop := ∃ x : Option V, σ = [some (.ref a), some (.int n), some v, some (.int ((os.take i).foldl chkStep (n + 1))), x] ∧ Same R H
section
variable {P : Program} {w : World} {K : PySem.W.Frag} {mg : Str → Option Value} {base : Heap}
theorem ok_check_of (T : Txt K mg) : FnOk P w K mg base CX0 4 T.f_check_of T.fd_check_of ["layout", "address", "block"] (spCheck K T.C_Layout) := by
  have G_block_octets := ok_block_octets (P := P) (w := w) (base := base) T
  refine T.F_check_of.ok sc_check_of (fun vs H Q E h => ?_) (fun cdv A outer s H vs Q E hr h => ?_)
  · obtain ⟨a, v, L, n, b, rfl, ha, hL, hv, hb, hq⟩ := h
    rfl
  · obtain ⟨a, v, L, n, b, rfl, ha, hL, hv, hb, hq⟩ := h
    refine ⟨_, (pss_cons (ps_set (i := 3) sc_check_of.nd rfl (by first | exact Or.inl rfl | exact Or.inr rfl) (pe_op (opAddU (K := K)) (pv 1) pe_int))
      (pss_cons (ps_for PassesOwn.never rfl (pi_listK (K := K) (pe_call G_block_octets (hr.mono (by decide)) rfl T.g_block_octets T.F_block_octets.kp T.b_block_octets .nil pass0 (pa_cons (pv 0) (pa_cons (pv 2) pa_nil)))) (pg_name (i := 4) sc_check_of.nd rfl (by first | exact Or.inl rfl | exact Or.inr rfl)) (pss_one (ps_set (i := 3) sc_check_of.nd rfl (by first | exact Or.inl rfl | exact Or.inr rfl) (pe_op opModU (pe_op (opAddU (K := K)) (pe_op (opAddU (K := K)) (pe_op opMultU (pv 3) (pe_glob rfl T.g_FACTOR T.r_FACTOR)) (pv 4)) pe_int) (pe_glob rfl T.g_PRIME T.r_PRIME)))))
      (pss_one (ps_ret (pv 3))))), ?_⟩
    try dsimp only [cxOf]
    have r0 := Same.refl H
    fail "go"
    refine ⟨a, v, L, b, rfl, ha, hL, hv, hb, ?_⟩
    fail "ret"
    rename_i p H1 h1 f1 g1 m1 s1
    refine g_LsW (SqL.of h1) ?_
    refine for_list (K := K) (xs := (octs L b).map V.int) (ChkInv H1 a v n (octs L b)) ⟨none, rfl, Same.refl H1⟩ (fun i σ H2 _ ⟨_, _, s2⟩ => SqL.of (s2 _ _ h1)) ?_ ?_
    · rintro i x σ H2 hi ⟨x0, rfl, s2⟩
      obtain ⟨o, ho, rfl⟩ := map_get hi
      fail "go"
      refine ⟨some (.int o), ?_, s2⟩
      rw [take_snoc ho, List.foldl_append]; rfl
    · rintro σ H2 ⟨x0, rfl, s2⟩
      rw [List.length_map, List.take_length]
      fail "go"
      exact hq _ (s1.trans s2)
end
def spSealed (K : PySem.W.Frag) (C : Addr) : Sp := fun vs H Q _ => ∃ (a : Addr) (v : V) (L : Lay) (n : Int) (b : Option Blk), vs = [.ref a, .int n, v] ∧ LayAt C H a L ∧ L.Ok ∧ Dp K H v (optD b) ∧ BlkOk b ∧ ∀ w H', Same H H' → Dp K H' w (cellD (sealOf L n b)) → Q w H'
section
variable {P : Program} {w : World} {K : PySem.W.Frag} {mg : Str → Option Value} {base : Heap}
theorem ok_sealed (T : Txt K mg) : FnOk P w K mg base CX0 5 T.f_sealed T.fd_sealed ["layout", "address", "block"] (spSealed K T.C_Layout) := by
  have G_check_of := ok_check_of (P := P) (w := w) (base := base) T
  refine T.F_sealed.ok sc_sealed (fun vs H Q E h => ?_) (fun cdv A outer s H vs Q E hr h => ?_)
  · obtain ⟨a, v, L, n, b, rfl, ha, hL, hv, hb, hq⟩ := h
    rfl
  · obtain ⟨a, v, L, n, b, rfl, ha, hL, hv, hb, hq⟩ := h
    refine ⟨_, (pss_cons (ps_if (pt_cmpR opIsU (pv 2) pe_non (nomark _)) (pss_one (ps_ret pe_non)) pss_nil)
      (pss_one (ps_ret (pe_tup (pa_cons (pv 2) (pa_cons (pe_call G_check_of (hr.mono (by decide)) rfl T.g_check_of T.F_check_of.kp T.b_check_of .nil pass0 (pa_cons (pv 0) (pa_cons (pv 1) (pa_cons (pv 2) pa_nil)))) pa_nil)))))), ?_⟩
    try dsimp only [cxOf]
    have r0 := Same.refl H
    rcases optV hv with ⟨rfl, rfl⟩ | ⟨c, t, rfl, rfl⟩
    · fail "go"
      exact hq _ _ r0 .non
    · fail "go"
      refine ⟨a, _, L, n, some c, rfl, ha, hL, hv, hb, fun H1 s1 => ?_⟩
      fail "go"
      refine ⟨by fail "sz", fun p n1 => ?_⟩
      have s2 := (Gr.newR (M := []) (o := HO.tup [.ref t, .int (chk L n (some c))]) (Same.refl H1) n1).same
      exact hq _ _ (s1.trans s2) (.tup (SqT.of upd_same) (.cons (dp_mono (s1.trans s2) hv) (.cons (.int _) .nil)))
end
def LowInv (R : Hp) (n : Int) (k : Nat) (p : Addr) (i : Nat) (σ : St) (H : Hp) : Prop := ∃ x : Option V, σ = [some (.int (lowsRest n i)), some (.int (k : Int)), some (.ref p), x] ∧ Same R H ∧ H p = some (.lst ((lows n i).map V.int))
local macro_rules | `(tactic| fail "calls") => `(tactic| ((with_reducible show spOctets _ _ _ _); first | refine ⟨_, 6, rfl, by omega, ?_⟩ | refine ⟨_, 2, rfl, by omega, ?_⟩ | refine ⟨_, 3, rfl, by omega, ?_⟩))
section
variable {P : Program} {w : World} {K : PySem.W.Frag} {mg : Str → Option Value} {base : Heap}
theorem ok__law_low (T : Txt K mg) : FnOk P w K mg base CX0 1 T.f__law_low T.fd__law_low ["number", "count"] (spOctets) := by
  refine T.F__law_low.ok sc__law_low (fun vs H Q E h => ?_) (fun cdv A outer s H vs Q E hr h => ?_)
  · obtain ⟨n, k, rfl, hk, hq⟩ := h
    rfl
  · obtain ⟨n, k, rfl, hk, hq⟩ := h
    refine ⟨_, (pss_cons (ps_set (i := 2) sc__law_low.nd rfl (by first | exact Or.inl rfl | exact Or.inr rfl) (pe_lst pa_nil))
      (pss_cons (ps_for PassesOwn.never rfl (pi_range1 rfl T.n_range (pa_cons (pv 1) pa_nil)) (pg_name (i := 3) sc__law_low.nd rfl (by first | exact Or.inl rfl | exact Or.inr rfl)) (pss_cons (ps_expr (pe_bm PySem.F.plainAttrs_list PySem.F.slot_list_append PySem.F.type_list_append mt_append (pv 2) (pa_cons (pe_op opModU (pe_callTy callIntU (by rfl) T.n_int (by decide +kernel) (pa_cons (pv 0) pa_nil)) pe_int) pa_nil)))
      (pss_one (ps_set (i := 0) sc__law_low.nd rfl (by first | exact Or.inl rfl | exact Or.inr rfl) (pe_op opFloorDivU (pv 0) pe_int)))))
      (pss_one (ps_ret (pv 2))))), ?_⟩
    try dsimp only [cxOf]
    have r0 := Same.refl H
    fail "go"
    refine ⟨by fail "sz", ?_⟩
    fail "newM"
    rename_i p H1 n1 g1 m1 h1 s1
    fail "go"
    refine g_R1W rfl (by omega) ?_
    refine for_range (lo := 0) (n := k) (LowInv H n k p) ⟨none, rfl, s1, h1⟩ ?_ ?_
    · rintro i σ H2 hi ⟨x0, rfl, s2, h2⟩
      fail "go"
      rename_i H3 g3 h3 s3
      fail "go"
      refine ⟨some (.int (0 + (i : Int))), ?_, s3, ?_⟩
      · rw [lowsRest_succ]; rfl
      · rw [lows_succ, List.map_append]; exact h3
    · rintro σ H2 ⟨x0, rfl, s2, h2⟩
      fail "go"
      exact hq _ _ s2 m1 h2
end
def spLawOcts (K : PySem.W.Frag) (C : Addr) : Sp := fun vs H Q _ => ∃ (a : Addr) (v : V) (L : Lay) (b : Option Blk), vs = [.ref a, v] ∧ LayAt C H a L ∧ L.Ok ∧ Dp K H v (optD b) ∧ FullO L b ∧
  ∀ p H', Same H H' → H p = none → H' p = some (.lst ((octs L b).map V.int)) → Q (.ref p) H'
def LoInv (R : Hp) (a t : Addr) (b : Blk) (i : Nat) (σ : St) (H : Hp) : Prop := ∃ (x : Option V) (p : Addr), σ = [some (.ref a), some (.ref t), some (.ref p), x] ∧ Same R H ∧ R p = none ∧ H p = some (.lst ((headOf b ++ pairs (b.body.take i)).map V.int))
section
variable {P : Program} {w : World} {K : PySem.W.Frag} {mg : Str → Option Value} {base : Heap}
theorem ok__law_octets (T : Txt K mg) : FnOk P w K mg base CX0 2 T.f__law_octets T.fd__law_octets ["layout", "block"] (spLawOcts K T.C_Layout) := by
  have cl_Layout := T.cl_Layout
  have a_Layout_block_size := T.a_Layout_block_size
  have G__law_low := ok__law_low (P := P) (w := w) (base := base) T
  refine T.F__law_octets.ok sc__law_octets (fun vs H Q E h => ?_) (fun cdv A outer s H vs Q E hr h => ?_)
  · obtain ⟨a, v, L, b, rfl, ⟨dx, ha⟩, hL, hv, hb, hq⟩ := h
    rfl
  · obtain ⟨a, v, L, b, rfl, ⟨dx, ha⟩, hL, hv, hb, hq⟩ := h
    refine ⟨_, (pss_cons (ps_if (pt_cmpR opIsU (pv 1) pe_non (nomark _)) (pss_one (ps_ret (pe_op opMultU (pe_lst (pa_cons pe_int pa_nil)) (pe_op (opAddU (K := K)) pe_int (pe_fldK (K := K) (pv 0) rfl))))) pss_nil)
      (pss_cons (ps_set (i := 2) sc__law_octets.nd rfl (by first | exact Or.inl rfl | exact Or.inr rfl) (pe_op (opAddU (K := K)) (pe_op (opAddU (K := K)) (pe_op (opAddU (K := K)) (pe_lst (pa_cons (pe_ix (ixU (K := K)) (pv 1) pe_int (fun _ _ => rfl)) pa_nil)) (pe_call G__law_low (hr.mono (by decide)) rfl T.g__law_low T.F__law_low.kp T.b__law_low .nil pass0 (pa_cons (pe_ix (ixU (K := K)) (pv 1) pe_int (fun _ _ => rfl)) (pa_cons pe_int pa_nil)))) (pe_call G__law_low (hr.mono (by decide)) rfl T.g__law_low T.F__law_low.kp T.b__law_low .nil pass0 (pa_cons (pe_ix (ixU (K := K)) (pv 1) pe_int (fun _ _ => rfl)) (pa_cons pe_int pa_nil)))) (pe_op opMultU (pe_lst (pa_cons pe_int pa_nil)) pe_int)))
      (pss_cons (ps_if (pt_cmpR (opEqU (K := K) hr.units) (pe_ix (ixU (K := K)) (pv 1) pe_int (fun _ _ => rfl)) pe_int (nomark _)) (pss_one (ps_ret (pe_op (opAddU (K := K)) (pv 2) (pe_callTy (callListU (K := K)) (by rfl) T.n_list (by decide +kernel) (pa_cons (pe_ix (ixU (K := K)) (pv 1) pe_int (fun _ _ => rfl)) pa_nil))))) pss_nil)
      (pss_cons (ps_for PassesOwn.never rfl (pi_tupK (K := K) (pe_ix (ixU (K := K)) (pv 1) pe_int (fun _ _ => rfl))) (pg_name (i := 3) sc__law_octets.nd rfl (by first | exact Or.inl rfl | exact Or.inr rfl)) (pss_one (ps_set (i := 2) sc__law_octets.nd rfl (by first | exact Or.inl rfl | exact Or.inr rfl) (pe_op (opAddU (K := K)) (pv 2) (pe_call G__law_low (hr.mono (by decide)) rfl T.g__law_low T.F__law_low.kp T.b__law_low .nil pass0 (pa_cons (pv 3) (pa_cons pe_int pa_nil)))))))
      (pss_one (ps_ret (pv 2))))))), ?_⟩
    try dsimp only [cxOf]
    have r0 := Same.refl H
    have o1 := hL.o1
    cases b with
    | none =>
      obtain rfl := dp_non hv
      fail "go"
      refine ⟨by fail "sz", ?_⟩
      fail "newM"
      rename_i z H2 n2 g2 m2 h2 s2
      fail "go"
      refine g_repZ (by fail "hp") (by omega) (by omega) ?_
      fail "newM"
      rename_i y H3 n3 g3 m3 h3 s3
      exact hq _ _ s3 m3 h3
    | some b =>
      obtain ⟨t, u, rfl, ht, hu⟩ := dpBlk hv
      have hf : Full L b := hb
      rw [octs_full hf] at hq
      fail "go"
      refine ⟨by fail "sz", ?_⟩
      fail "newM"
      rename_i z H1 n1 g1 m1 h1 s1
      fail "go"
      fail "ret"
      rename_i p2 H2 h2 f2 g2 m2 s2
      refine g_catI (l := [b.kind]) (by fail "hp") h2 (by simp) ?_
      fail "newM"
      rename_i p3 H3 n3 g3 m3 h3 s3
      fail "go"
      fail "ret"
      rename_i p4 H4 h4 f4 g4 m4 s4
      refine g_catI (by fail "hp") h4 (by simp) ?_
      fail "newM"
      rename_i p5 H5 n5 g5 m5 h5 s5
      fail "go"
      refine ⟨by fail "sz", ?_⟩
      fail "newM"
      rename_i p6 H6 n6 g6 m6 h6 s6
      fail "go"
      refine g_repZ (by fail "hp") (by simp) (by simp) ?_
      fail "newM"
      rename_i p7 H7 n7 g7 m7 h7 s7
      refine g_catI (by fail "hp") h7 (by simp) ?_
      fail "newM"
      rename_i p8 H8 n8 g8 m8 h8 s8
      have h8' : H8 p8 = some (.lst ((headOf b).map V.int)) := h8
      clear h8
      fail "go"
      refine g_ite (fun e => ?_) (fun e => ?_)
      · have hd := hf.d e
        fail "go"
        refine g_listT (by fail "sq") ?_
        fail "newM"
        rename_i y H9 n9 g9 m9 h9 s9
        fail "go"
        refine g_catI (by fail "hp") h9 (by simp; omega) ?_
        fail "newM"
        rename_i w HA nA gA mA hA sA
        refine hq _ _ sA mA ?_
        rw [hA, found, if_pos e]
      · have hd := hf.p e
        have hr := hf.r e
        rw [found, if_neg e] at hq
        fail "go"
        refine g_TsW (by fail "sq") ?_
        refine for_tup (K := K) (xs := b.body.map V.int) (LoInv H a t b) ⟨none, p8, rfl, s8, m8, by rw [h8']; simp [pairs]⟩ (fun i σ H2 _ ⟨_, _, _, s2, _⟩ => sqT_mono s2 hu) ?_ ?_
        · rintro i x σ H9 hi ⟨x0, p, rfl, s9, m9, h9⟩
          obtain ⟨n, hn, rfl⟩ := map_get hi
          have hil : i < b.body.length := (List.getElem?_eq_some_iff.mp hn).1
          fail "go"
          fail "ret"
          rename_i pA HA hA fA gA mA sA
          refine g_catI (by fail "hp") hA (by simp; omega) ?_
          fail "newM"
          rename_i w HB nB gB mB hB sB
          fail "go"
          refine ⟨some (.int n), w, rfl, sB, mB, ?_⟩
          rw [hB, take_snoc hn, pairs_snoc, pair_low (hr n (List.mem_of_getElem? hn)), List.append_assoc]
        · rintro σ H9 ⟨x0, p, rfl, s9, m9, h9⟩
          rw [List.length_map, List.take_length] at h9
          fail "go"
          exact hq _ _ s9 m9 h9
end
def spLawCheck (K : PySem.W.Frag) (C : Addr) : Sp := fun vs H Q _ => ∃ (a : Addr) (v : V) (L : Lay) (n : Int) (b : Option Blk), vs = [.ref a, .int n, v] ∧ LayAt C H a L ∧ L.Ok ∧ Dp K H v (optD b) ∧ FullO L b ∧ ∀ H', Same H H' → Q (.int (chk L n b)) H'
def LChkInv (R : Hp) (a : Addr) (v : V) (n : Int) (os : List Int) (i : Nat) (σ : St) (H : Hp) : Prop := ∃ x : Option V, σ = [some (.ref a), some (.int n), some v, some (.int ((os.take i).foldl chkStep (n + 1))), x] ∧ Same R H
section
variable {P : Program} {w : World} {K : PySem.W.Frag} {mg : Str → Option Value} {base : Heap}
theorem ok__law_check (T : Txt K mg) : FnOk P w K mg base CX0 3 T.f__law_check T.fd__law_check ["layout", "address", "block"] (spLawCheck K T.C_Layout) := by
  have G__law_octets := ok__law_octets (P := P) (w := w) (base := base) T
  refine T.F__law_check.ok sc__law_check (fun vs H Q E h => ?_) (fun cdv A outer s H vs Q E hr h => ?_)
  · obtain ⟨a, v, L, n, b, rfl, ha, hL, hv, hb, hq⟩ := h
    rfl
  · obtain ⟨a, v, L, n, b, rfl, ha, hL, hv, hb, hq⟩ := h
    refine ⟨_, (pss_cons (ps_set (i := 3) sc__law_check.nd rfl (by first | exact Or.inl rfl | exact Or.inr rfl) (pe_op (opAddU (K := K)) (pv 1) pe_int))
      (pss_cons (ps_for PassesOwn.never rfl (pi_listK (K := K) (pe_call G__law_octets (hr.mono (by decide)) rfl T.g__law_octets T.F__law_octets.kp T.b__law_octets .nil pass0 (pa_cons (pv 0) (pa_cons (pv 2) pa_nil)))) (pg_name (i := 4) sc__law_check.nd rfl (by first | exact Or.inl rfl | exact Or.inr rfl)) (pss_one (ps_set (i := 3) sc__law_check.nd rfl (by first | exact Or.inl rfl | exact Or.inr rfl) (pe_op opModU (pe_callTy callIntU (by rfl) T.n_int (by decide +kernel) (pa_cons (pe_op (opAddU (K := K)) (pe_op (opAddU (K := K)) (pe_op opMultU (pv 3) pe_int) (pv 4)) pe_int) pa_nil)) pe_int))))
      (pss_one (ps_ret (pv 3))))), ?_⟩
    try dsimp only [cxOf]
    have r0 := Same.refl H
    fail "go"
    refine ⟨a, v, L, b, rfl, ha, hL, hv, hb, ?_⟩
    fail "ret"
    rename_i p H1 h1 f1 g1 m1 s1
    refine g_LsW (SqL.of h1) ?_
    refine for_list (K := K) (xs := (octs L b).map V.int) (LChkInv H1 a v n (octs L b)) ⟨none, rfl, Same.refl H1⟩ (fun i σ H2 _ ⟨_, _, s2⟩ => SqL.of (s2 _ _ h1)) ?_ ?_
    · rintro i x σ H2 hi ⟨x0, rfl, s2⟩
      obtain ⟨o, ho, rfl⟩ := map_get hi
      fail "go"
      refine ⟨some (.int o), ?_, s2⟩
      rw [take_snoc ho, List.foldl_append]; rfl
    · rintro σ H2 ⟨x0, rfl, s2⟩
      rw [List.length_map, List.take_length]
      fail "go"
      exact hq _ (s1.trans s2)
end
def spWhole (K : PySem.W.Frag) (C : Addr) : Sp := fun vs H Q _ => ∃ (a : Addr) (v : V) (L : Lay) (n : Int) (c : Cell), vs = [.ref a, .int n, v] ∧ LayAt C H a L ∧ L.Ok ∧ Dp K H v (cellD c) ∧ CellOk c ∧ ∀ H', Same H H' → Q (.bl (whole L n c)) H'
section
variable {P : Program} {w : World} {K : PySem.W.Frag} {mg : Str → Option Value} {base : Heap}
theorem ok_is_whole (T : Txt K mg) : FnOk P w K mg base CX0 5 T.f_is_whole T.fd_is_whole ["layout", "address", "cell"] (spWhole K T.C_Layout) := by
  have G_check_of := ok_check_of (P := P) (w := w) (base := base) T
  refine T.F_is_whole.ok sc_is_whole (fun vs H Q E h => ?_) (fun cdv A outer s H vs Q E hr h => ?_)
  · obtain ⟨a, v, L, n, c, rfl, ha, hL, hv, hc, hq⟩ := h
    rfl
  · obtain ⟨a, v, L, n, c, rfl, ha, hL, hv, hc, hq⟩ := h
    refine ⟨_, (pss_cons (ps_if (PW.pt (pw_or (pt_cmpR opIsU (pv 2) pe_non (nomark _)) (pw_or1 (pt_cmpR opIsU (pe_ix (ixU (K := K)) (pv 2) pe_int (fun _ _ => rfl)) pe_non (nomark _))))) (pss_one (ps_ret pe_bl)) pss_nil)
      (pss_one (ps_ret (pe_cmpR (opEqU (K := K) hr.units) (pe_ix (ixU (K := K)) (pv 2) pe_int (fun _ _ => rfl)) (pe_call G_check_of (hr.mono (by decide)) rfl T.g_check_of T.F_check_of.kp T.b_check_of .nil pass0 (pa_cons (pv 0) (pa_cons (pv 1) (pa_cons (pe_ix (ixU (K := K)) (pv 2) pe_int (fun _ _ => rfl)) pa_nil)))) (nomark _))))), ?_⟩
    try dsimp only [cxOf]
    have r0 := Same.refl H
    rcases cellV hv with ⟨rfl, rfl⟩ | ⟨b, k, t, u, rfl, rfl, ht, hu⟩
    · fail "go"
      exact hq _ r0
    · fail "go"
      rcases optV hu with ⟨rfl, rfl⟩ | ⟨d, w, rfl, rfl⟩
      · fail "go"
        exact hq _ r0
      · fail "go"
        refine ⟨a, _, L, n, some d, rfl, ha, hL, hu, hc, fun H1 s1 => ?_⟩
        fail "go"
        exact hq _ s1
end
/-- one octet of the first is changed -/
inductive Chg (k : Blk) (m : Int) : Blk → Prop
  | seq : Chg k m ⟨k.kind, k.seq - k.seq % 256 + (k.seq % 256 + m) % 256, k.place, k.body⟩
  | place : Chg k m ⟨k.kind, k.seq, (k.place + m) % 256, k.body⟩
  | body (i : Nat) (n : Int) (h : k.body[i]? = some n) : Chg k m ⟨k.kind, k.seq, k.place, k.body.set i (n - n % 256 + (n % 256 + m) % 256)⟩
def spChanged (K : PySem.W.Frag) (C : Addr) : Sp := fun vs H Q _ => ∃ (R : Hp) (a b : Addr) (v : V) (L : Lay) (k : Blk) (n : Int), vs = [.ref a, v, .ref b] ∧ Same R H ∧ Dp K R v k.d ∧ Full L k ∧ L.Ok ∧ R b = none ∧ H b = some (.lst [.int n]) ∧
  ∀ w R' H' e, Gr [b] R H R' H' → (∃ m, H' b = some (.lst [.int m])) → Dp K R' w e.d → (∃ m, 0 < m ∧ m < 256 ∧ Chg k m e) → Q w H'
section
variable {P : Program} {w : World} {K : PySem.W.Frag} {mg : Str → Option Value} {base : Heap}
theorem ok__law_changed (T : Txt K mg) : FnOk P w K mg base CX0 2 T.f__law_changed T.fd__law_changed ["layout", "block", "box"] (spChanged K T.C_Layout) := by
  have G__law_take := ok__law_take (P := P) (w := w) (base := base) T
  refine T.F__law_changed.ok sc__law_changed (fun vs H Q E h => ?_) (fun cdv A outer s H vs Q E hr h => ?_)
  · obtain ⟨R, a, b, v, L, k, n, rfl, sR, dv, hf, hL, Rb, hb, hq⟩ := h
    rfl
  · obtain ⟨R, a, b, v, L, k, n, rfl, sR, dv, hf, hL, Rb, hb, hq⟩ := h
    refine ⟨_, (pss_cons (ps_set (i := 3) sc__law_changed.nd rfl (by first | exact Or.inl rfl | exact Or.inr rfl) (pe_call G__law_take (hr.mono (by decide)) rfl T.g__law_take T.F__law_take.kp T.b__law_take .nil pass0 (pa_cons (pv 2) (pa_cons pe_int pa_nil))))
      (pss_cons (ps_set (i := 4) sc__law_changed.nd rfl (by first | exact Or.inl rfl | exact Or.inr rfl) (pe_op (opAddU (K := K)) pe_int (pe_call G__law_take (hr.mono (by decide)) rfl T.g__law_take T.F__law_take.kp T.b__law_take .nil pass0 (pa_cons (pv 2) (pa_cons pe_int pa_nil)))))
      (pss_cons (ps_if (pt_cmpR (opEqU (K := K) hr.units) (pv 3) pe_int (nomark _)) (pss_cons (ps_set (i := 5) sc__law_changed.nd rfl (by first | exact Or.inl rfl | exact Or.inr rfl) (pe_op opModU (pe_callTy callIntU (by rfl) T.n_int (by decide +kernel) (pa_cons (pe_ix (ixU (K := K)) (pv 1) pe_int (fun _ _ => rfl)) pa_nil)) pe_int))
      (pss_one (ps_ret (pe_tup (pa_cons (pe_ix (ixU (K := K)) (pv 1) pe_int (fun _ _ => rfl)) (pa_cons (pe_op (opAddU (K := K)) (pe_op opSubU (pe_ix (ixU (K := K)) (pv 1) pe_int (fun _ _ => rfl)) (pv 5)) (pe_op opModU (pe_callTy callIntU (by rfl) T.n_int (by decide +kernel) (pa_cons (pe_op (opAddU (K := K)) (pv 5) (pv 4)) pa_nil)) pe_int)) (pa_cons (pe_ix (ixU (K := K)) (pv 1) pe_int (fun _ _ => rfl)) (pa_cons (pe_ix (ixU (K := K)) (pv 1) pe_int (fun _ _ => rfl)) pa_nil)))))))) pss_nil)
      (pss_cons (ps_if (pt_cmpR (opEqU (K := K) hr.units) (pv 3) pe_int (nomark _)) (pss_one (ps_ret (pe_tup (pa_cons (pe_ix (ixU (K := K)) (pv 1) pe_int (fun _ _ => rfl)) (pa_cons (pe_ix (ixU (K := K)) (pv 1) pe_int (fun _ _ => rfl)) (pa_cons (pe_op opModU (pe_callTy callIntU (by rfl) T.n_int (by decide +kernel) (pa_cons (pe_op (opAddU (K := K)) (pe_ix (ixU (K := K)) (pv 1) pe_int (fun _ _ => rfl)) (pv 4)) pa_nil)) pe_int) (pa_cons (pe_ix (ixU (K := K)) (pv 1) pe_int (fun _ _ => rfl)) pa_nil))))))) pss_nil)
      (pss_cons (ps_set (i := 6) sc__law_changed.nd rfl (by first | exact Or.inl rfl | exact Or.inr rfl) (pe_callTy (callListU (K := K)) (by rfl) T.n_list (by decide +kernel) (pa_cons (pe_ix (ixU (K := K)) (pv 1) pe_int (fun _ _ => rfl)) pa_nil)))
      (pss_cons (ps_set (i := 7) sc__law_changed.nd rfl (by first | exact Or.inl rfl | exact Or.inr rfl) (pe_call G__law_take (hr.mono (by decide)) rfl T.g__law_take T.F__law_take.kp T.b__law_take .nil pass0 (pa_cons (pv 2) (pa_cons (pe_callB (callLenU (K := K)) (by rfl) T.n_len (by decide +kernel) (pa_cons (pv 6) pa_nil)) pa_nil))))
      (pss_cons (ps_set (i := 5) sc__law_changed.nd rfl (by first | exact Or.inl rfl | exact Or.inr rfl) (pe_op opModU (pe_callTy callIntU (by rfl) T.n_int (by decide +kernel) (pa_cons (pe_ix (ixU (K := K)) (pv 6) (pv 7) (fun _ _ => rfl)) pa_nil)) pe_int))
      (pss_cons (ps_asg (pe_op (opAddU (K := K)) (pe_op opSubU (pe_ix (ixU (K := K)) (pv 6) (pv 7) (fun _ _ => rfl)) (pv 5)) (pe_op opModU (pe_callTy callIntU (by rfl) T.n_int (by decide +kernel) (pa_cons (pe_op (opAddU (K := K)) (pv 5) (pv 4)) pa_nil)) pe_int)) (pg_sub (pv 6) (pv 7) set_list))
      (pss_one (ps_ret (pe_tup (pa_cons (pe_ix (ixU (K := K)) (pv 1) pe_int (fun _ _ => rfl)) (pa_cons (pe_ix (ixU (K := K)) (pv 1) pe_int (fun _ _ => rfl)) (pa_cons (pe_ix (ixU (K := K)) (pv 1) pe_int (fun _ _ => rfl)) (pa_cons (pe_callTy (callTupU (K := K)) (by rfl) T.n_tuple (by decide +kernel) (pa_cons (pv 6) pa_nil)) pa_nil))))))))))))))), ?_⟩
    try dsimp only [cxOf]
    obtain ⟨t, u, rfl, ht, hu⟩ := dpBlk dv
    have m0 : 0 < 1 + n / 3 % 255 := by have := Int.emod_nonneg (n / 3) (show (255 : Int) ≠ 0 by decide); omega
    have m1 : 1 + n / 3 % 255 < 256 := by have := Int.emod_lt_of_pos (n / 3) (show (0 : Int) < 255 by decide); omega
    fail "go"
    rename_i H1 g1 h1 s1 H2 g2 h2 s2
    have hu2 := sqT_mono s2 hu
    refine g_ite (fun e => ?_) (fun e => ?_)
    · fail "go"
      refine ⟨by fail "sz", ?_⟩
      fail "newR"
      rename_i p H5 R5 n5 g5 h5 s5
      refine hq _ R5 H5 _ (by fail "gr") ⟨_, by fail "hp"⟩ ?_ ⟨_, m0, m1, .seq⟩
      exact .tup (SqT.of h5) (.cons (.int _) (.cons (.int _) (.cons (.int _) (.cons (.tup (sqT_mono g5.rr hu) (dpAll_ints _)) .nil))))
    · fail "go"
      refine g_ite (fun e => ?_) (fun e => ?_)
      · fail "go"
        refine ⟨by fail "sz", ?_⟩
        fail "newR"
        rename_i p H5 R5 n5 g5 h5 s5
        refine hq _ R5 H5 _ (by fail "gr") ⟨_, by fail "hp"⟩ ?_ ⟨_, m0, m1, .place⟩
        exact .tup (SqT.of h5) (.cons (.int _) (.cons (.int _) (.cons (.int _) (.cons (.tup (sqT_mono g5.rr hu) (dpAll_ints _)) .nil))))
      · fail "go"
        refine g_listT (by fail "sq") ?_
        fail "newM"
        rename_i l H3 n3 g3 m3 h3 s3
        fail "go"
        rw [List.length_map]
        have o1 := hL.o1
        have len0 : 0 < k.body.length ∧ k.body.length ≤ 256 := by
          by_cases e3 : k.kind = 3
          · have := hf.d e3; omega
          · have := hf.p e3; omega
        refine ⟨_, _, _, rfl, by fail "hp", by omega, by omega, ?_⟩
        fail "mut"
        rename_i H4 g4 h4 s4
        obtain ⟨i, hi, il⟩ : ∃ i : Nat, n / 3 / 255 % (k.body.length : Int) = (i : Int) ∧ i < k.body.length := by
          have a1 := Int.emod_nonneg (n / 3 / 255) (b := (k.body.length : Int)) (by omega)
          have a2 := Int.emod_lt_of_pos (n / 3 / 255) (b := (k.body.length : Int)) (by omega)
          exact ⟨(n / 3 / 255 % (k.body.length : Int)).toNat, by omega, by omega⟩
        rw [hi]
        obtain ⟨c, hc⟩ : ∃ c, k.body[i]? = some c := ⟨k.body[i], List.getElem?_eq_getElem il⟩
        have hci : atI (k.body.map V.int) (i : Int) = some (.int c) := atI_nat (by rw [List.getElem?_map, hc]; rfl)
        have hl4 : H4 l = some (.lst (k.body.map V.int)) := by fail "hp"
        fail "go"
        refine g_ixL (SqL.of hl4) hci ?_
        fail "go"
        refine g_ixL (SqL.of hl4) hci ?_
        fail "go"
        refine g_setL (j := i) hl4 (by unfold ixN; simp; omega) ?_
        fail "mut"
        rename_i H5 g5 h5 s5
        rw [← List.map_set] at h5
        fail "go"
        refine g_tupL (SqL.of h5) ?_
        fail "newR"
        rename_i q H6 R6 n6 g6 h6 s6
        fail "go"
        refine ⟨by fail "sz", ?_⟩
        fail "newR"
        rename_i p H7 R7 n7 g7 h7 s7
        clear h5
        have gP : Gr [b] R H R H2 := g1.g.trans g2.g
        have ln : H l = none := gP.free n3
        have gA : Gr [b] R H R H4 := gP.trans ((Gr.nil g3.g).trans g4.g)
        have gC : Gr [b, l] R H R H5 := (gA.mono (by simp)).trans (g5.g.mono (by simp))
        have gD : Gr [b] R H R H5 := gC.forget (by intro x hx hn; simp at hx hn; rcases hx with rfl | rfl; exact absurd rfl hn; exact ln)
        have hb4 : ∃ m, H4 b = some (.lst [.int m]) := ⟨_, h4⟩
        have bl : b ≠ l := by
          intro z
          rw [z, ln] at hb
          cases hb
        have h5b := g5.g.hh _ _ (by simpa using bl) h4
        refine hq _ R7 H7 _ (gD.trans (g6.nil.trans g7.nil)) ⟨_, g7.same _ _ (g6.same _ _ h5b)⟩ ?_ ⟨_, m0, m1, .body i c hc⟩
        exact .tup (SqT.of h7) (.cons (.int _) (.cons (.int _) (.cons (.int _) (.cons (.tup (SqT.of (g7.rr _ _ h6)) (dpAll_ints _)) .nil))))
end
theorem step_range (t o : Int) : 0 ≤ chkStep t o ∧ chkStep t o < 4294967291 := ⟨Int.emod_nonneg _ (by decide), Int.emod_lt_of_pos _ (by decide)⟩
theorem step_inj {t t' o : Int} (h : 0 ≤ t ∧ t < 4294967291) (h' : 0 ≤ t' ∧ t' < 4294967291) (n : t ≠ t') : chkStep t o ≠ chkStep t' o := by
  unfold chkStep; omega
theorem step_oct {t o o' : Int} (n : o ≠ o') (h : o - o' < 4294967291 ∧ o' - o < 4294967291) : chkStep t o ≠ chkStep t o' := by
  unfold chkStep; generalize t * 257 = u; omega
theorem fold_inj : ∀ (os : List Int) {t t' : Int}, 0 ≤ t ∧ t < 4294967291 → 0 ≤ t' ∧ t' < 4294967291 → t ≠ t' → os.foldl chkStep t ≠ os.foldl chkStep t'
  | [], _, _, _, _, n => n
  | o :: os, _, _, h, h', n => fold_inj os (step_range _ _) (step_range _ _) (step_inj h h' n)
theorem fold_oct {pre post : List Int} {o o' t : Int} (n : o ≠ o') (h : o - o' < 4294967291 ∧ o' - o < 4294967291) : (pre ++ o :: post).foldl chkStep t ≠ (pre ++ o' :: post).foldl chkStep t := by
  rw [List.foldl_append, List.foldl_append, List.foldl_cons, List.foldl_cons]
  exact fold_inj post (step_range _ _) (step_range _ _) (step_oct n h)
theorem pairs_app : ∀ (a b : List Int), pairs (a ++ b) = pairs a ++ pairs b
  | [], _ => rfl
  | n :: r, b => by rw [List.cons_append, pairs, pairs_app r b, pairs, List.cons_append, List.cons_append]
theorem set_split {l : List Int} {i : Nat} {c d : Int} (h : l[i]? = some c) : ∃ pre post, l = pre ++ c :: post ∧ l.set i d = pre ++ d :: post := by
  obtain ⟨hl, rfl⟩ := List.getElem?_eq_some_iff.mp h
  refine ⟨l.take i, l.drop (i + 1), ?_, ?_⟩
  · rw [List.getElem_cons_drop, List.take_append_drop]
  · rw [List.set_eq_take_append_cons_drop, if_pos hl]
theorem lowMod {c m : Int} (h : 0 < m ∧ m < 256) : (c - c % 256 + (c % 256 + m) % 256) / 256 = c / 256 ∧ (c - c % 256 + (c % 256 + m) % 256) % 256 = (c % 256 + m) % 256 ∧ (c % 256 + m) % 256 ≠ c % 256 := by omega
/-- a changed block has other octets, at one place -/
theorem chg_octs {L : Lay} {k e : Blk} {m : Int} (hm : 0 < m ∧ m < 256) (hp : 0 ≤ k.place ∧ k.place < 256) (hf : Full L k) (c : Chg k m e) :
    Full L e ∧ ∃ pre post o o', octs L (some k) = pre ++ o :: post ∧ octs L (some e) = pre ++ o' :: post ∧ o ≠ o' ∧ o - o' < 4294967291 ∧ o' - o < 4294967291 := by
  have lm : ∀ c : Int, _ := fun c => lowMod (c := c) hm
  cases c with
  | seq =>
    have hf' : Full L ⟨k.kind, k.seq - k.seq % 256 + (k.seq % 256 + m) % 256, k.place, k.body⟩ := ⟨hf.k, hf.d, hf.p, hf.r⟩
    obtain ⟨a1, a2, a3⟩ := lm k.seq
    refine ⟨hf', [k.kind], lows (k.seq / 256) 5 ++ (lows k.place 2 ++ (List.replicate 7 0 ++ found k.kind k.body)), k.seq % 256, (k.seq % 256 + m) % 256, ?_, ?_, fun z => a3 z.symm, by omega, by omega⟩
    · rw [octs_full hf, headOf, lows]; simp
    · rw [octs_full hf', headOf, lows, a1, a2]; simp
  | place =>
    have hf' : Full L ⟨k.kind, k.seq, (k.place + m) % 256, k.body⟩ := ⟨hf.k, hf.d, hf.p, hf.r⟩
    have e1 : lows k.place 2 = [k.place, 0] := by
      show [k.place % 256, k.place / 256 % 256] = _
      rw [show k.place % 256 = k.place by omega, show k.place / 256 % 256 = 0 by omega]
    have e2 : lows ((k.place + m) % 256) 2 = [(k.place + m) % 256, 0] := by
      show [(k.place + m) % 256 % 256, (k.place + m) % 256 / 256 % 256] = _
      rw [show (k.place + m) % 256 % 256 = (k.place + m) % 256 by omega, show (k.place + m) % 256 / 256 % 256 = 0 by omega]
    refine ⟨hf', k.kind :: lows k.seq 6, 0 :: (List.replicate 7 0 ++ found k.kind k.body), k.place, (k.place + m) % 256, ?_, ?_, by omega, by omega, by omega⟩
    · rw [octs_full hf, headOf, e1]; simp
    · rw [octs_full hf', headOf, e2]; simp
  | body i n h =>
    obtain ⟨pre, post, e1, e2⟩ := set_split (d := n - n % 256 + (n % 256 + m) % 256) h
    obtain ⟨a1, a2, a3⟩ := lm n
    have hr : k.kind ≠ 3 → ∀ x ∈ k.body.set i (n - n % 256 + (n % 256 + m) % 256), 0 ≤ x ∧ x < 65536 := by
      intro z x hx
      rcases List.mem_or_eq_of_mem_set hx with hx | rfl
      · exact hf.r z x hx
      · have := hf.r z n (List.mem_of_getElem? h); omega
    have hf' : Full L ⟨k.kind, k.seq, k.place, k.body.set i (n - n % 256 + (n % 256 + m) % 256)⟩ := ⟨hf.k, fun z => by rw [List.length_set]; exact hf.d z, fun z => by rw [List.length_set]; exact hf.p z, hr⟩
    refine ⟨hf', ?_⟩
    rw [octs_full hf, octs_full hf']
    show ∃ pre post o o', headOf k ++ found k.kind k.body = _ ∧ headOf k ++ found k.kind (k.body.set i _) = _ ∧ _
    rw [e2]
    by_cases h3 : k.kind = 3
    · refine ⟨headOf k ++ pre, post, n, n - n % 256 + (n % 256 + m) % 256, ?_, ?_, by omega, by omega, by omega⟩
      · rw [found, if_pos h3, e1]; simp
      · rw [found, if_pos h3]; simp
    · refine ⟨headOf k ++ pairs pre, n / 256 :: pairs post, n % 256, (n % 256 + m) % 256, ?_, ?_, fun z => a3 z.symm, by omega, by omega⟩
      · rw [found, if_neg h3, e1, pairs_app, pairs]; simp
      · rw [found, if_neg h3, pairs_app, pairs, a1, a2]; simp
theorem chg_chk {L : Lay} {k e : Blk} {m n : Int} (hm : 0 < m ∧ m < 256) (hp : 0 ≤ k.place ∧ k.place < 256) (hf : Full L k) (c : Chg k m e) : Full L e ∧ chk L n (some k) ≠ chk L n (some e) := by
  obtain ⟨hf', pre, post, o, o', e1, e2, h1, h2⟩ := chg_octs hm hp hf c
  refine ⟨hf', ?_⟩
  unfold chk
  rw [e1, e2]
  exact fold_oct h1 h2
theorem far_chk {L : Lay} {b : Option Blk} {n n' : Int} (h : 0 ≤ n ∧ n < 1000000) (h' : 0 ≤ n' ∧ n' < 1000000) (d : n ≠ n') : chk L n b ≠ chk L n' b :=
  fold_inj _ (by omega) (by omega) (by omega)
theorem fold_range : ∀ (os : List Int) (t : Int), 0 ≤ t ∧ t < 4294967291 → 0 ≤ os.foldl chkStep t ∧ os.foldl chkStep t < 4294967291
  | [], _, h => h
  | o :: os, t, _ => fold_range os _ (step_range t o)
theorem chk_range {L : Lay} {b : Option Blk} {n : Int} (h : 0 ≤ n ∧ n < 1000000) : 0 ≤ chk L n b ∧ chk L n b < 4294967291 := fold_range _ _ (by omega)
def hasD (L : Lay) (n : Int) (k : Blk) (c : Int) : PyData := .tuple [k.d, .int c]
theorem la_blk (k : Blk) : LaD k.d 2 := la_tup (la_cons la_int (la_cons la_int (la_cons la_int (la_cons (la_tup la_ints) la_non'))))
theorem clean_blk (k : Blk) : clean k.d = true := by rw [Blk.d, clean, cleanAll, cleanAll, cleanAll, cleanAll, intsD]; simp [clean, cleanAll, clean_ints]
theorem only_blk (k : Blk) : tupOnly k.d = true := by simp [Blk.d, tupOnly, tupOnlyAll, intsD, tupOnly_ints]
theorem only_pair (k : Blk) (c : Int) : tupOnly (.tuple [k.d, .int c]) = true := by simp [tupOnly, tupOnlyAll, only_blk]
theorem la_pair (k : Blk) (c : Int) : LaD (.tuple [k.d, .int c]) 3 := la_tup (la_cons (la_blk k) (la_cons la_int la_non'))
theorem clean_pair (k : Blk) (c : Int) : clean (.tuple [k.d, .int c]) = true := by simp [clean, cleanAll, clean_blk]
def spHold (K : PySem.W.Frag) (C : Addr) : Sp := fun vs H Q _ => ∃ (R : Hp) (a b : Addr) (v : V) (L : Lay) (n z : Int) (k : Blk), vs = [.ref a, .int n, v, .ref b] ∧ Same R H ∧ LayAt C R a L ∧ L.Ok ∧ Dp K R v k.d ∧ Full L k ∧ (0 ≤ k.place ∧ k.place < 256) ∧ 0 ≤ n ∧ n < 100000 ∧ R b = none ∧ H b = some (.lst [.int z]) ∧ ∀ H', Same R H' → Q (.bl true) H'
section
variable {P : Program} {w : World} {K : PySem.W.Frag} {mg : Str → Option Value} {base : Heap}
theorem ok__law_cells_hold (T : Txt K mg) : FnOk P w K mg base CX0 6 T.f__law_cells_hold T.fd__law_cells_hold ["layout", "address", "block", "box"] (spHold K T.C_Layout) := by
  have G_sealed := ok_sealed (P := P) (w := w) (base := base) T
  have G_check_of := ok_check_of (P := P) (w := w) (base := base) T
  have G__law_check := ok__law_check (P := P) (w := w) (base := base) T
  have G_is_whole := ok_is_whole (P := P) (w := w) (base := base) T
  have G__law_changed := ok__law_changed (P := P) (w := w) (base := base) T
  have G__law_take := ok__law_take (P := P) (w := w) (base := base) T
  refine T.F__law_cells_hold.ok sc__law_cells_hold (fun vs H Q E h => ?_) (fun cdv A outer s H vs Q E hr h => ?_)
  · obtain ⟨R, a, b, v, L, n, z, k, rfl, sR, ha, hL, dv, hf, hp, n0, n1, Rb, hb, hq⟩ := h
    rfl
  · obtain ⟨R, a, b, v, L, n, z, k, rfl, sR, ha, hL, dv, hf, hp, n0, n1, Rb, hb, hq⟩ := h
    refine ⟨_, (pss_cons (ps_set (i := 4) sc__law_cells_hold.nd rfl (by first | exact Or.inl rfl | exact Or.inr rfl) (pe_call G_sealed (hr.mono (by decide)) rfl T.g_sealed T.F_sealed.kp T.b_sealed .nil pass0 (pa_cons (pv 0) (pa_cons (pv 1) (pa_cons (pv 2) pa_nil)))))
      (pss_cons (ps_set (i := 5) sc__law_cells_hold.nd rfl (by first | exact Or.inl rfl | exact Or.inr rfl) (pe_call G_check_of (hr.mono (by decide)) rfl T.g_check_of T.F_check_of.kp T.b_check_of .nil pass0 (pa_cons (pv 0) (pa_cons (pv 1) (pa_cons (pv 2) pa_nil)))))
      (pss_cons (ps_if (PW.pt (pw_or (pt_not (pt_truthK (K := K) (pe_callB (callIsU (K := K)) (by rfl) T.n_isinstance (by decide +kernel) (pa_cons (pv 5) (pa_cons (pe_bltn (v := .ty "int") (by rfl) T.n_int (by decide +kernel) rfl) pa_nil))) (by intro _; rfl))) (pw_or (pt_truthK (K := K) (pe_callB (callIsU (K := K)) (by rfl) T.n_isinstance (by decide +kernel) (pa_cons (pv 5) (pa_cons (pe_bltn (v := .ty "bool") (by rfl) T.n_bool (by decide +kernel) rfl) pa_nil))) (by intro _; rfl)) (pw_or1 (pt_cmpR (opNeU (K := K) hr.units) (pv 5) (pe_call G__law_check (hr.mono (by decide)) rfl T.g__law_check T.F__law_check.kp T.b__law_check .nil pass0 (pa_cons (pv 0) (pa_cons (pv 1) (pa_cons (pv 2) pa_nil)))) (nomark _)))))) (pss_one (ps_ret pe_bl)) pss_nil)
      (pss_cons (ps_if (PW.pt (pw_or (pt_not (pt_truthK (K := K) (pe_callB (callIsU (K := K)) (by rfl) T.n_isinstance (by decide +kernel) (pa_cons (pv 4) (pa_cons (pe_bltn (v := .ty "tuple") (by rfl) T.n_tuple (by decide +kernel) rfl) pa_nil))) (by intro _; rfl))) (pw_or (pt_cmpR (opNeU (K := K) hr.units) (pv 4) (pe_tup (pa_cons (pv 2) (pa_cons (pv 5) pa_nil))) (nomark _)) (pw_or1 (pt_cmpR opNotU (pe_call G_is_whole (hr.mono (by decide)) rfl T.g_is_whole T.F_is_whole.kp T.b_is_whole .nil pass0 (pa_cons (pv 0) (pa_cons (pv 1) (pa_cons (pv 4) pa_nil)))) pe_bl (nomark _)))))) (pss_one (ps_ret pe_bl)) pss_nil)
      (pss_cons (ps_set (i := 6) sc__law_cells_hold.nd rfl (by first | exact Or.inl rfl | exact Or.inr rfl) (pe_call G__law_changed (hr.mono (by decide)) rfl T.g__law_changed T.F__law_changed.kp T.b__law_changed .nil pass0 (pa_cons (pv 0) (pa_cons (pv 2) (pa_cons (pv 3) pa_nil)))))
      (pss_cons (ps_set (i := 7) sc__law_cells_hold.nd rfl (by first | exact Or.inl rfl | exact Or.inr rfl) (pe_op (opAddU (K := K)) (pe_op (opAddU (K := K)) (pv 1) pe_int) (pe_call G__law_take (hr.mono (by decide)) rfl T.g__law_take T.F__law_take.kp T.b__law_take .nil pass0 (pa_cons (pv 3) (pa_cons pe_int pa_nil)))))
      (pss_cons (ps_set (i := 8) sc__law_cells_hold.nd rfl (by first | exact Or.inl rfl | exact Or.inr rfl) (pe_lst (pa_cons (pe_tup (pa_cons (pv 6) (pa_cons (pv 5) pa_nil))) (pa_cons (pe_tup (pa_cons (pv 2) (pa_cons (pe_op (opAddU (K := K)) (pv 5) pe_int) pa_nil))) (pa_cons (pe_tup (pa_cons (pv 2) (pa_cons (pe_op opModU (pe_callTy callIntU (by rfl) T.n_int (by decide +kernel) (pa_cons (pe_op (opAddU (K := K)) (pe_op (opAddU (K := K)) (pv 5) pe_int) (pe_call G__law_take (hr.mono (by decide)) rfl T.g__law_take T.F__law_take.kp T.b__law_take .nil pass0 (pa_cons (pv 3) (pa_cons pe_int pa_nil)))) pa_nil)) pe_int) pa_nil))) (pa_cons (pe_tup (pa_cons pe_non (pa_cons (pv 5) pa_nil))) (pa_cons pe_non pa_nil)))))))
      (pss_cons (ps_if (pt_cmpR (opNeU (K := K) hr.units) (pe_lc (own := [("one", 9)]) (g := gName 9) (tt := tYes) rfl sc__law_cells_hold.nd (pi_listK (K := K) (pv 8)) (blkOk_by (N := N__law_cells_hold) (sc := defScope s__law_cells_hold) (by decide +kernel)) (fun _ _ _ _ _ => (pg_name (i := 9) sc__law_cells_hold.nd rfl (by first | exact Or.inl rfl | exact Or.inr rfl))) (fun _ _ _ _ _ => pts_nil) (fun _ _ _ _ _ => (pe_call G_is_whole (hr.mono (by decide)) rfl T.g_is_whole T.F_is_whole.kp T.b_is_whole .nil pass0 (pa_cons (pv 0) (pa_cons (pv 1) (pa_cons (pv 9) pa_nil)))))) (pe_op opMultU (pe_lst (pa_cons pe_bl pa_nil)) pe_int) (nomark _)) (pss_one (ps_ret pe_bl)) pss_nil)
      (pss_one (ps_ret (pe_and (pe_cmpR opIsU (pe_call G_is_whole (hr.mono (by decide)) rfl T.g_is_whole T.F_is_whole.kp T.b_is_whole .nil pass0 (pa_cons (pv 0) (pa_cons (pv 7) (pa_cons (pv 4) pa_nil)))) pe_bl (nomark _)) (pe_one (pe_cmpR opIsU (pe_call G_is_whole (hr.mono (by decide)) rfl T.g_is_whole T.F_is_whole.kp T.b_is_whole .nil pass0 (pa_cons (pv 0) (pa_cons (pv 7) (pa_cons (pe_call G_sealed (hr.mono (by decide)) rfl T.g_sealed T.F_sealed.kp T.b_sealed .nil pass0 (pa_cons (pv 0) (pa_cons (pv 7) (pa_cons (pv 2) pa_nil)))) pa_nil)))) pe_bl (nomark _)))))))))))))), ?_⟩
    try dsimp only [cxOf]
    have o1 := hL.o1
    have bl : k.body.length ≤ 300 := by
      by_cases e3 : k.kind = 3
      · have := hf.d e3; omega
      · have := hf.p e3; omega
    have okB : BlkOk (some k) := ⟨hf.k, bl⟩
    have dO : Dp K R v (optD (some k)) := dv
    fail "go"
    refine ⟨a, v, L, n, some k, rfl, ha.mono sR, hL, dp_mono sR dO, okB, fun w H1 s1 dw => ?_⟩
    have sR1 := sR.trans s1
    fail "go"
    refine ⟨a, v, L, n, some k, rfl, ha.mono sR1, hL, dp_mono sR1 dO, okB, fun H2 s2 => ?_⟩
    have sR2 := sR1.trans s2
    have dw2 := dp_mono s2 dw
    fail "go"
    refine g_isi (.base (.int _)) (kit_ty (r := true) (by decide +kernel)) ⟨true, rfl, ?_⟩
    fail "go"
    refine g_isi (.base (.int _)) (kit_ty (r := false) (by decide +kernel)) ⟨false, rfl, ?_⟩
    fail "go"
    refine ⟨a, v, L, n, some k, rfl, ha.mono sR2, hL, dp_mono sR2 dO, hf, fun H3 s3 => ?_⟩
    have sR3 := sR2.trans s3
    have dw3 := dp_mono s3 dw2
    fail "go"
    refine g_iteN (fun z => absurd rfl z) (fun _ => ?_)
    fail "go"
    obtain ⟨t, u, wv, rfl, ht, hu, hw⟩ := dpT2 dw3
    refine g_isi (ty_tup ht) (kit_ty (r := true) (by decide +kernel)) ⟨true, rfl, ?_⟩
    fail "go"
    have hb3 : H3 b = some (.lst [.int z]) := s3 _ _ (s2 _ _ (s1 _ _ hb))
    have sRW : Same R (wo H3 b) := same_wo sR3 Rb
    have dw4 : Dp K (wo H3 b) (.ref t) (.tuple [k.d, .int (chk L n (some k))]) := dp_wo hb3 (only_pair k _) dw3
    have haW := ha.mono sRW
    have dvW := dp_mono sRW dv
    have Wb : wo H3 b b = none := wo_self
    have sW : Same (wo H3 b) H3 := wo_same
    have hqW : ∀ H', Same (wo H3 b) H' → Q (.bl true) H' := fun H' s => hq H' (sRW.trans s)
    generalize wo H3 b = RW at sRW dw4 haW dvW Wb sW hqW
    clear dw dw2 dw3 dO dv ha sR sR1 sR2 sR3 hq hu ht hw s1 s2 s3 hb Rb sRW
    refine ⟨by fail "sz", ?_⟩
    fail "newR"
    rename_i p4 H4 R4 n4 g4 h4 s4
    have sW4 := g4.rr
    refine g_neDa (dp_mono (sW4.trans s4) dw4) (.tup (SqT.of (s4 _ _ h4)) (.cons (dp_mono (sW4.trans s4) dvW) (.cons (.int _) .nil))) (la_shaped (la_pair k _)) (la_shaped (la_pair k _)) (.inl ⟨_, rfl⟩) ?_
    rw [eqv_same (clean_pair k _)]
    fail "go"
    refine ⟨a, _, L, n, some (some k, chk L n (some k)), rfl, haW.mono (sW4.trans s4), hL, dp_mono (sW4.trans s4) dw4, okB, fun H5 s5 => ?_⟩
    rw [show whole L n (some (some k, chk L n (some k))) = true from decide_eq_true rfl]
    fail "go"
    have s45 := s4.trans s5
    have R4b : R4 b = none := g4.fr _ _ hb3 Wb
    have hb5 : H5 b = some (.lst [.int z]) := s5 _ _ (g4.same _ _ hb3)
    refine ⟨R4, a, b, v, L, k, z, rfl, s45, dp_mono sW4 dvW, hf, hL, R4b, hb5, ?_⟩
    rintro w6 R6 H6 e g6 ⟨m6, hb6⟩ de ⟨m, m0, m1, hc⟩
    have s6 := g6.rh
    have R6b : R6 b = none := g6.fr _ _ hb5 R4b
    have sW6 : Same RW R6 := sW4.trans g6.rr
    have dw6 := dp_mono sW6 dw4
    have dv6 := dp_mono sW6 dvW
    have ha6 := haW.mono sW6
    have hq6 : ∀ H', Same R6 H' → Q (.bl true) H' := fun H' s => hqW H' (sW6.trans s)
    clear hqW haW dvW dw4 sW s4 s5 s45 g4 h4 n4 sW4 g6 sW6 hb5 R4b Wb
    fail "go"
    rename_i H7 g7 h7 s7
    refine ⟨by fail "sz", ?_⟩
    fail "newR"
    rename_i p8 H8 R8 n8 g8 h8 s8
    fail "go"
    refine ⟨by fail "sz", ?_⟩
    fail "newR"
    rename_i p9 H9 R9 n9 g9 h9 s9
    fail "go"
    rename_i H10 g10 h10 s10
    refine ⟨by fail "sz", ?_⟩
    fail "newR"
    rename_i p11 H11 R11 n11 g11 h11 s11
    fail "go"
    refine ⟨by fail "sz", ?_⟩
    fail "newR"
    rename_i p12 H12 R12 n12 g12 h12 s12
    fail "go"
    refine ⟨by fail "sz", ?_⟩
    fail "newR"
    rename_i l H13 R13 n13 g13 h13 s13
    fail "go"
    have rr12 : Same R12 R13 := g13.rr
    have rr11 : Same R11 R13 := g12.rr.trans rr12
    have rr9 : Same R9 R13 := g11.rr.trans rr11
    have rr8 : Same R8 R13 := g9.rr.trans rr9
    have rr6 : Same R6 R13 := g8.rr.trans rr8
    have c0 : 0 ≤ chk L n (some k) ∧ chk L n (some k) < 4294967291 := chk_range ⟨by omega, by omega⟩
    obtain ⟨hfe, hce⟩ := chg_chk (n := n) ⟨m0, m1⟩ ⟨by omega, by omega⟩ hf hc
    have okE : BlkOk (some e) := ⟨hfe.k, by
      by_cases e3 : e.kind = 3
      · have := hfe.d e3; omega
      · have := hfe.p e3; omega⟩
    generalize hC : chk L n (some k) = c at *
    have du : DpAll K R13 [V.ref p8, .ref p9, .ref p11, .ref p12, .non] ([some (some e, c), some (some k, c + 1), some (some k, (c + 1 + m6 / 90 % 999) % 4294967291), some (none, c), none].map cellD) :=
      .cons (.tup (SqT.of (rr8 _ _ h8)) (.cons (dp_mono rr6 de) (.cons (.int _) .nil)))
      (.cons (.tup (SqT.of (rr9 _ _ h9)) (.cons (dp_mono rr6 dv6) (.cons (.int _) .nil)))
      (.cons (.tup (SqT.of (rr11 _ _ h11)) (.cons (dp_mono rr6 dv6) (.cons (.int _) .nil)))
      (.cons (.tup (SqT.of (rr12 _ _ h12)) (.cons .non (.cons (.int _) .nil)))
      (.cons .non .nil))))
    have bad : ∀ x ∈ [some (some e, c), some (some k, c + 1), some (some k, (c + 1 + m6 / 90 % 999) % 4294967291), some (none, c), none], CellOk x ∧ whole L n x = false := by
      intro x hx
      simp only [List.mem_cons, List.not_mem_nil, or_false] at hx
      rcases hx with rfl | rfl | rfl | rfl | rfl
      · exact ⟨okE, decide_eq_false hce⟩
      · exact ⟨okB, decide_eq_false (by rw [hC]; omega)⟩
      · refine ⟨okB, decide_eq_false ?_⟩
        rw [hC]
        have := Int.emod_nonneg (m6 / 90) (show (999 : Int) ≠ 0 by decide)
        have := Int.emod_lt_of_pos (m6 / 90) (show (0 : Int) < 999 by decide)
        omega
      · exact ⟨trivial, rfl⟩
      · exact ⟨trivial, rfl⟩
    generalize [some (some e, c), some (some k, c + 1), some (some k, (c + 1 + m6 / 90 % 999) % 4294967291), some (none, c), none] = cells at du bad
    have ha13 := ha6.mono rr6
    have dw13 := dp_mono rr6 dw6
    have dv13 := dp_mono rr6 dv6
    have hq13 : ∀ H', Same R13 H' → Q (.bl true) H' := fun H' s => hq6 H' (rr6.trans s)
    have hl13 := h13
    clear g7 h7 s7 g8 h8 s8 g9 h9 s9 g10 h10 s10 g11 h11 s11 g12 h12 s12 g13 n8 n9 n11 n12 n13 rr6 rr8 rr9 rr11 rr12 s6 R6b de dw6 dv6 ha6 hq6 hb6 h13
    refine g_LsW (SqL.of (s13 _ _ hl13)) fun D nD => ?_
    have RD : R13 D = none := s13.free nD
    refine lc_list (K := K) (a := l) (fun j H' => Same R13 H' ∧ H' D = some (.lst (List.replicate j (.bl false)))) ⟨(Gr.newM (M := []) s13 nD).rh, upd_same⟩ (fun j H' _ ⟨s, _⟩ => SqL.of (s _ _ hl13)) ?_ ?_
    · rintro j x H14 hj ⟨s14, h14⟩
      obtain ⟨d, hd, dx⟩ := dpAll_get' du hj
      rw [List.getElem?_map] at hd
      obtain ⟨x', hx', rfl⟩ := Option.map_eq_some_iff.mp hd
      obtain ⟨ox, wx⟩ := bad x' (List.mem_of_getElem? hx')
      have hj5 : j < 5 := (List.getElem?_eq_some_iff.mp hj).1
      refine ⟨rfl, ?_⟩
      fail "go"
      refine ⟨a, x, L, n, x', rfl, ha13.mono s14, hL, dp_mono s14 dx, ox, fun H15 s15 => ?_⟩
      rw [wx]
      refine ⟨_, s15 _ _ h14, by rw [List.length_replicate]; fail "sz", fun b o q => by rw [upd_ne (ne_of_none q RD)]; exact s15 _ _ (s14 _ _ q), ?_⟩
      rw [upd_same, List.replicate_succ']
    rintro H16 ⟨s16, h16⟩
    fail "go"
    refine ⟨by fail "sz", ?_⟩
    fail "newM"
    rename_i q21 H21 n21 g21 m21 h21 s21
    fail "go"
    refine g_rep h21 (by decide) (by decide) (by fail "sz") ?_
    fail "newM"
    rename_i q22 H22 n22 g22 m22 h22 s22
    have h16' : H22 D = some (.lst (List.replicate 5 (.bl false))) := by fail "hp"
    have sh : PySem.SeqAt.shaped (.list (List.replicate 5 (.bool false))) = true := by decide +kernel
    have db : DpAll K H22 (List.replicate 5 (.bl false)) (List.replicate 5 (.bool false)) := .cons (.bl _) (.cons (.bl _) (.cons (.bl _) (.cons (.bl _) (.cons (.bl _) .nil))))
    refine g_neDa (d := .list (List.replicate 5 (.bool false))) (e := .list (List.replicate 5 (.bool false))) (.lst (SqL.of h16') db) (.lst (SqL.of h22) db) sh sh (.inl ⟨_, rfl⟩) ?_
    rw [show PyData.eqv (.list (List.replicate 5 (.bool false))) (.list (List.replicate 5 (.bool false))) = true by decide +kernel]
    fail "go"
    have t0 := Int.emod_nonneg m6 (show (90 : Int) ≠ 0 by decide)
    have t1 := Int.emod_lt_of_pos m6 (show (0 : Int) < 90 by decide)
    have far : whole L (n + 1 + m6 % 90) (some (some k, c)) = false := decide_eq_false (by rw [← hC]; exact far_chk ⟨by omega, by omega⟩ ⟨by omega, by omega⟩ (by omega))
    refine ⟨a, _, L, n + 1 + m6 % 90, some (some k, c), rfl, ha13.mono s22, hL, dp_mono s22 dw13, okB, fun H23 s23 => ?_⟩
    rw [far]
    have s23' := s22.trans s23
    fail "go"
    refine ⟨a, v, L, _, some k, rfl, ha13.mono s23', hL, dp_mono s23' dv13, okB, fun w24 H24 s24 d24 => ?_⟩
    have s24' := s23'.trans s24
    fail "go"
    refine ⟨a, w24, L, _, _, rfl, ha13.mono s24', hL, d24, okB, fun H25 s25 => ?_⟩
    rw [show whole L (n + 1 + m6 % 90) (sealOf L (n + 1 + m6 % 90) (some k)) = true from decide_eq_true rfl]
    fail "go"
    exact hq13 _ (s24'.trans s25)
end
def spLaw (K : PySem.W.Frag) : Sp := fun vs H Q _ => ∃ (a : Addr) (ns : List Int), vs = [.ref a] ∧ SqL K H a (ns.map V.int) ∧ ns.length ≤ 63 ∧ ∀ H', Q (.bl true) H'
def LawI (a p : Addr) (R : Hp) (_ : Nat) (σ : St) (H : Hp) : Prop := ∃ (x1 x2 x3 x4 : Option V), σ = [some (.ref a), some (.ref p), x1, x2, x3, x4] ∧ Same R H
theorem lays_dev : ∀ L ∈ lays, 0 < L.device ∧ L.device < 1000 := by
  intro L h
  simp only [lays, List.mem_cons, List.not_mem_nil, or_false] at h
  rcases h with rfl | rfl | rfl | rfl | rfl | rfl <;> exact ⟨by decide, by decide⟩
local macro_rules | `(tactic| fail "calls") => `(tactic| ((with_reducible show spTake _ _ _ _); refine ⟨_, _, _, rfl, by fail "hp", by fail "ar", by fail "ar", ?_⟩; fail "mut"))
section
variable {P : Program} {w : World} {K : PySem.W.Frag} {mg : Str → Option Value} {base : Heap}
theorem ok_law (T : Txt K mg) : FnOk P w K mg base CX0 7 T.f_law T.fd_law ["script"] (spLaw K) := by
  have cl_Layout := T.cl_Layout
  have a_Layout_device_blocks := T.a_Layout_device_blocks
  have G__law_layout := ok__law_layout (P := P) (w := w) (base := base) T
  have G__law_number := ok__law_number (P := P) (w := w) (base := base) T
  have G__law_block := ok__law_block (P := P) (w := w) (base := base) T
  have G__law_take := ok__law_take (P := P) (w := w) (base := base) T
  have G__law_cells_hold := ok__law_cells_hold (P := P) (w := w) (base := base) T
  have G_check_of := ok_check_of (P := P) (w := w) (base := base) T
  have G__law_check := ok__law_check (P := P) (w := w) (base := base) T
  have G_sealed := ok_sealed (P := P) (w := w) (base := base) T
  refine T.F_law.ok sc_law (fun vs H Q E h => ?_) (fun cdv A outer s H vs Q E hr h => ?_)
  · obtain ⟨a, ns, rfl, hS, hlen, hq⟩ := h
    rfl
  · obtain ⟨a, ns, rfl, hS, hlen, hq⟩ := h
    refine ⟨_, (pss_cons (ps_set (i := 1) sc_law.nd rfl (by first | exact Or.inl rfl | exact Or.inr rfl) (pe_call G__law_layout (hr.mono (by decide)) rfl T.g__law_layout T.F__law_layout.kp T.b__law_layout .nil pass0 (pa_cons (pe_lst (pa_cons (pe_call G__law_number (hr.mono (by decide)) rfl T.g__law_number T.F__law_number.kp T.b__law_number .nil pass0 (pa_cons (pv 0) (pa_cons pe_int pa_nil))) pa_nil)) pa_nil)))
      (pss_cons (ps_for PassesOwn.never rfl (pi_range1 rfl T.n_range (pa_cons pe_int pa_nil)) (pg_name (i := 2) sc_law.nd rfl (by first | exact Or.inl rfl | exact Or.inr rfl)) (pss_cons (ps_set (i := 3) sc_law.nd rfl (by first | exact Or.inl rfl | exact Or.inr rfl) (pe_lst (pa_cons (pe_call G__law_number (hr.mono (by decide)) rfl T.g__law_number T.F__law_number.kp T.b__law_number .nil pass0 (pa_cons (pv 0) (pa_cons (pe_op (opAddU (K := K)) pe_int (pv 2)) pa_nil))) pa_nil)))
      (pss_cons (ps_set (i := 4) sc_law.nd rfl (by first | exact Or.inl rfl | exact Or.inr rfl) (pe_call G__law_block (hr.mono (by decide)) rfl T.g__law_block T.F__law_block.kp T.b__law_block .nil pass0 (pa_cons (pv 1) (pa_cons (pv 3) pa_nil))))
      (pss_cons (ps_set (i := 5) sc_law.nd rfl (by first | exact Or.inl rfl | exact Or.inr rfl) (pe_call G__law_take (hr.mono (by decide)) rfl T.g__law_take T.F__law_take.kp T.b__law_take .nil pass0 (pa_cons (pv 3) (pa_cons (pe_op (opAddU (K := K)) (pe_fldK (K := K) (pv 1) rfl) pe_int) pa_nil))))
      (pss_one (ps_if (pt_not (pt_truthK (K := K) (pe_call G__law_cells_hold (hr.mono (by decide)) rfl T.g__law_cells_hold T.F__law_cells_hold.kp T.b__law_cells_hold .nil pass0 (pa_cons (pv 1) (pa_cons (pv 5) (pa_cons (pv 4) (pa_cons (pe_lst (pa_cons (pe_call G__law_number (hr.mono (by decide)) rfl T.g__law_number T.F__law_number.kp T.b__law_number .nil pass0 (pa_cons (pv 0) (pa_cons (pe_op (opAddU (K := K)) pe_int (pv 2)) pa_nil))) pa_nil)) pa_nil))))) (by intro _; rfl))) (pss_one (ps_ret pe_bl)) pss_nil))))))
      (pss_one (ps_ret (pe_and (pe_cmpR opIsU (pe_call G_sealed (hr.mono (by decide)) rfl T.g_sealed T.F_sealed.kp T.b_sealed .nil pass0 (pa_cons (pv 1) (pa_cons pe_int (pa_cons pe_non pa_nil)))) pe_non (nomark _)) (pe_one (pe_cmpR (opEqU (K := K) hr.units) (pe_call G_check_of (hr.mono (by decide)) rfl T.g_check_of T.F_check_of.kp T.b_check_of .nil pass0 (pa_cons (pv 1) (pa_cons pe_int (pa_cons pe_non pa_nil)))) (pe_call G__law_check (hr.mono (by decide)) rfl T.g__law_check T.F__law_check.kp T.b__law_check .nil pass0 (pa_cons (pv 1) (pa_cons pe_int (pa_cons pe_non pa_nil)))) (nomark _)))))))), ?_⟩
    try dsimp only [cxOf]
    have r0 := Same.refl H
    fail "go"
    refine ⟨_, _, _, rfl, hS, by omega, ?_⟩
    fail "go"
    refine ⟨by fail "sz", ?_⟩
    fail "newM"
    rename_i b H1 n1 g1 m1 h1 s1
    refine ⟨H, b, _, rfl, s1, m1, h1, fun p H2 L s2 hp hL => ?_⟩
    fail "go"
    refine g_R1W (n := 12) rfl (by omega) ?_
    have hOk := lays_ok L hL
    obtain ⟨d0, d1⟩ := lays_dev L hL
    have hS2 := sqL_mono s2 hS
    refine for_range (lo := 0) (n := 12) (LawI a p H2) ⟨none, none, none, none, rfl, Same.refl _⟩ ?_ ?_
    · rintro i σ H3 hi ⟨x1, x2, x3, x4, rfl, s3⟩
      rw [Int.zero_add]
      clear s1 s2 r0
      fail "go"
      refine ⟨_, _, _, rfl, sqL_mono s3 hS2, by omega, ?_⟩
      fail "go"
      refine ⟨by fail "sz", ?_⟩
      fail "newM"
      rename_i b4 H4 n4 g4 m4 h4 s4
      fail "go"
      refine ⟨H2, p, b4, L, _, rfl, s4, hp, hL, m4, h4, fun v R5 H5 k g5 h5 dv hf hpl => ?_⟩
      obtain ⟨m5, h5⟩ := h5
      have s5 := g5.rh
      have hp5 := hp.mono g5.rr
      have hS5 := sqL_mono g5.rr hS2
      have m5' : R5 b4 = none := g5.fr _ _ h4 m4
      have inv5 : ∀ H', Same R5 H' → Same H2 H' := fun H' s => g5.rr.trans s
      obtain ⟨dx, hpe⟩ := hp5
      have hpe5 := s5 _ _ hpe
      clear g5 s4 g4 s3 m4 n4 h4
      fail "go"
      rename_i H6 g6 h6 s6
      refine ⟨_, _, _, rfl, sqL_mono s6 hS5, by omega, ?_⟩
      fail "go"
      refine ⟨by fail "sz", ?_⟩
      fail "newM"
      rename_i b7 H7 n7 g7 m7 h7 s7
      fail "go"
      have e0 := Int.emod_nonneg m5 (b := L.device + 2) (by omega)
      have e1 := Int.emod_lt_of_pos m5 (b := L.device + 2) (by omega)
      refine ⟨R5, p, b7, v, L, _, _, k, rfl, s7, ⟨dx, hpe⟩, hOk, dv, hf, ⟨by omega, by omega⟩, by omega, by omega, m7, h7, fun H8 s8 => ?_⟩
      fail "go"
      refine ⟨true, rfl, ?_⟩
      fail "go"
      exact ⟨_, _, _, _, rfl, inv5 _ s8⟩
    · rintro σ H3 ⟨x1, x2, x3, x4, rfl, s3⟩
      fail "go"
      refine ⟨p, .non, L, 3, none, rfl, hp.mono s3, hOk, .non, trivial, fun w H4 s4 dw => ?_⟩
      obtain rfl := dp_non dw
      fail "go"
      refine ⟨p, .non, L, 5, none, rfl, hp.mono (s3.trans s4), hOk, .non, trivial, fun H5 s5 => ?_⟩
      fail "go"
      refine ⟨p, .non, L, 5, none, rfl, hp.mono (s3.trans (s4.trans s5)), hOk, .non, trivial, fun H6 s6 => ?_⟩
      fail "go"
      rw [show decide (chk L 5 none = chk L 5 none) = true from decide_eq_true rfl]
      exact hq _
end
theorem all_mk {l : PySem.W.OpenLaw} {w : World} {K : PySem.W.Frag} {h : Heap} {mg : Str → Option Value} {fa C_Layout f__law_take f_parts_of f_Layout___init__ f__law_layout f__law_number f__law_block f_number_octets f_summary_octets f_bits_of f_pairs_of f_body_octets f_block_octets f_check_of f_sealed f__law_low f__law_octets f__law_check f_is_whole f__law_changed f__law_cells_hold f_law : Addr} {t_MOST_SEGMENTS t_LEAST_SEGMENTS t_MOST_BLOCKS t_LEAST_BLOCKS t_HEAD_OCTETS t_SLOTS t_COMMIT t_MOVE t_DATA t_SPARE t_FACTOR t_PRIME : Tok} (X : K.In h) (G : h.Ns mainGlobals mg) (hfa : mg "law" = some (.ref fa))
    {od0 an0 : Option Addr} {sl0 : Array (Option Value)} {oc0 kV0 dc0 pm0 cd0 ct0 : Value}
    {od1 an1 : Option Addr} {sl1 : Array (Option Value)} {oc1 kV1 dc1 pm1 cd1 ct1 : Value}
    {od2 an2 : Option Addr} {sl2 : Array (Option Value)} {oc2 kV2 dc2 pm2 cd2 ct2 : Value}
    {od3 an3 : Option Addr} {sl3 : Array (Option Value)} {oc3 kV3 dc3 pm3 cd3 ct3 : Value}
    {od4 an4 : Option Addr} {sl4 : Array (Option Value)} {oc4 kV4 dc4 pm4 cd4 ct4 : Value}
    {od5 an5 : Option Addr} {sl5 : Array (Option Value)} {oc5 kV5 dc5 pm5 cd5 ct5 : Value}
    {od6 an6 : Option Addr} {sl6 : Array (Option Value)} {oc6 kV6 dc6 pm6 cd6 ct6 : Value}
    {od7 an7 : Option Addr} {sl7 : Array (Option Value)} {oc7 kV7 dc7 pm7 cd7 ct7 : Value}
    {od8 an8 : Option Addr} {sl8 : Array (Option Value)} {oc8 kV8 dc8 pm8 cd8 ct8 : Value}
    {od9 an9 : Option Addr} {sl9 : Array (Option Value)} {oc9 kV9 dc9 pm9 cd9 ct9 : Value}
    {od10 an10 : Option Addr} {sl10 : Array (Option Value)} {oc10 kV10 dc10 pm10 cd10 ct10 : Value}
    {od11 an11 : Option Addr} {sl11 : Array (Option Value)} {oc11 kV11 dc11 pm11 cd11 ct11 : Value}
    {od12 an12 : Option Addr} {sl12 : Array (Option Value)} {oc12 kV12 dc12 pm12 cd12 ct12 : Value}
    {od13 an13 : Option Addr} {sl13 : Array (Option Value)} {oc13 kV13 dc13 pm13 cd13 ct13 : Value}
    {od14 an14 : Option Addr} {sl14 : Array (Option Value)} {oc14 kV14 dc14 pm14 cd14 ct14 : Value}
    {od15 an15 : Option Addr} {sl15 : Array (Option Value)} {oc15 kV15 dc15 pm15 cd15 ct15 : Value}
    {od16 an16 : Option Addr} {sl16 : Array (Option Value)} {oc16 kV16 dc16 pm16 cd16 ct16 : Value}
    {od17 an17 : Option Addr} {sl17 : Array (Option Value)} {oc17 kV17 dc17 pm17 cd17 ct17 : Value}
    {od18 an18 : Option Addr} {sl18 : Array (Option Value)} {oc18 kV18 dc18 pm18 cd18 ct18 : Value}
    {od19 an19 : Option Addr} {sl19 : Array (Option Value)} {oc19 kV19 dc19 pm19 cd19 ct19 : Value}
    {od20 an20 : Option Addr} {sl20 : Array (Option Value)} {oc20 kV20 dc20 pm20 cd20 ct20 : Value}
    (a0 : PySem.W.nsIn K mainGlobals "_law_take" = some (some (.ref f__law_take)))
    (l0 : K.lookup f__law_take = some ⟨oc0, od0, .func (PySem.W.fnOf "_law_take" "_law_take" (defArgs s__law_take) (defBody s__law_take) (defScope s__law_take) .none kV0 dc0 pm0 an0 cd0 ct0), sl0⟩)
    (c0 : PySem.W.codeIn K cd0 "_law_take" = true)
    (k0 : PySem.W.keepIn K (.ref f__law_take) = true)
    (a1 : PySem.W.nsIn K mainGlobals "parts_of" = some (some (.ref f_parts_of)))
    (l1 : K.lookup f_parts_of = some ⟨oc1, od1, .func (PySem.W.fnOf "parts_of" "parts_of" (defArgs s_parts_of) (defBody s_parts_of) (defScope s_parts_of) .none kV1 dc1 pm1 an1 cd1 ct1), sl1⟩)
    (c1 : PySem.W.codeIn K cd1 "parts_of" = true)
    (k1 : PySem.W.keepIn K (.ref f_parts_of) = true)
    (a2 : PySem.W.findIn K (.ref C_Layout) "__init__" = some (some (.ref f_Layout___init__)))
    (i2 : PySem.W.isFn K (.ref f_Layout___init__) = true)
    (l2 : K.lookup f_Layout___init__ = some ⟨oc2, od2, .func (PySem.W.fnOf "__init__" "Layout.__init__" (defArgs s_Layout___init__) (defBody s_Layout___init__) (defScope s_Layout___init__) .none kV2 dc2 pm2 an2 cd2 ct2), sl2⟩)
    (c2 : PySem.W.codeIn K cd2 "Layout.__init__" = true)
    (k2 : PySem.W.keepIn K (.ref f_Layout___init__) = true)
    (a3 : PySem.W.nsIn K mainGlobals "_law_layout" = some (some (.ref f__law_layout)))
    (l3 : K.lookup f__law_layout = some ⟨oc3, od3, .func (PySem.W.fnOf "_law_layout" "_law_layout" (defArgs s__law_layout) (defBody s__law_layout) (defScope s__law_layout) .none kV3 dc3 pm3 an3 cd3 ct3), sl3⟩)
    (c3 : PySem.W.codeIn K cd3 "_law_layout" = true)
    (k3 : PySem.W.keepIn K (.ref f__law_layout) = true)
    (a4 : PySem.W.nsIn K mainGlobals "_law_number" = some (some (.ref f__law_number)))
    (l4 : K.lookup f__law_number = some ⟨oc4, od4, .func (PySem.W.fnOf "_law_number" "_law_number" (defArgs s__law_number) (defBody s__law_number) (defScope s__law_number) .none kV4 dc4 pm4 an4 cd4 ct4), sl4⟩)
    (c4 : PySem.W.codeIn K cd4 "_law_number" = true)
    (k4 : PySem.W.keepIn K (.ref f__law_number) = true)
    (a5 : PySem.W.nsIn K mainGlobals "_law_block" = some (some (.ref f__law_block)))
    (l5 : K.lookup f__law_block = some ⟨oc5, od5, .func (PySem.W.fnOf "_law_block" "_law_block" (defArgs s__law_block) (defBody s__law_block) (defScope s__law_block) .none kV5 dc5 pm5 an5 cd5 ct5), sl5⟩)
    (c5 : PySem.W.codeIn K cd5 "_law_block" = true)
    (k5 : PySem.W.keepIn K (.ref f__law_block) = true)
    (a6 : PySem.W.nsIn K mainGlobals "number_octets" = some (some (.ref f_number_octets)))
    (l6 : K.lookup f_number_octets = some ⟨oc6, od6, .func (PySem.W.fnOf "number_octets" "number_octets" (defArgs s_number_octets) (defBody s_number_octets) (defScope s_number_octets) .none kV6 dc6 pm6 an6 cd6 ct6), sl6⟩)
    (c6 : PySem.W.codeIn K cd6 "number_octets" = true)
    (k6 : PySem.W.keepIn K (.ref f_number_octets) = true)
    (a7 : PySem.W.nsIn K mainGlobals "summary_octets" = some (some (.ref f_summary_octets)))
    (l7 : K.lookup f_summary_octets = some ⟨oc7, od7, .func (PySem.W.fnOf "summary_octets" "summary_octets" (defArgs s_summary_octets) (defBody s_summary_octets) (defScope s_summary_octets) .none kV7 dc7 pm7 an7 cd7 ct7), sl7⟩)
    (c7 : PySem.W.codeIn K cd7 "summary_octets" = true)
    (k7 : PySem.W.keepIn K (.ref f_summary_octets) = true)
    (a8 : PySem.W.nsIn K mainGlobals "bits_of" = some (some (.ref f_bits_of)))
    (l8 : K.lookup f_bits_of = some ⟨oc8, od8, .func (PySem.W.fnOf "bits_of" "bits_of" (defArgs s_bits_of) (defBody s_bits_of) (defScope s_bits_of) .none kV8 dc8 pm8 an8 cd8 ct8), sl8⟩)
    (c8 : PySem.W.codeIn K cd8 "bits_of" = true)
    (k8 : PySem.W.keepIn K (.ref f_bits_of) = true)
    (a9 : PySem.W.nsIn K mainGlobals "pairs_of" = some (some (.ref f_pairs_of)))
    (l9 : K.lookup f_pairs_of = some ⟨oc9, od9, .func (PySem.W.fnOf "pairs_of" "pairs_of" (defArgs s_pairs_of) (defBody s_pairs_of) (defScope s_pairs_of) .none kV9 dc9 pm9 an9 cd9 ct9), sl9⟩)
    (c9 : PySem.W.codeIn K cd9 "pairs_of" = true)
    (k9 : PySem.W.keepIn K (.ref f_pairs_of) = true)
    (a10 : PySem.W.nsIn K mainGlobals "body_octets" = some (some (.ref f_body_octets)))
    (l10 : K.lookup f_body_octets = some ⟨oc10, od10, .func (PySem.W.fnOf "body_octets" "body_octets" (defArgs s_body_octets) (defBody s_body_octets) (defScope s_body_octets) .none kV10 dc10 pm10 an10 cd10 ct10), sl10⟩)
    (c10 : PySem.W.codeIn K cd10 "body_octets" = true)
    (k10 : PySem.W.keepIn K (.ref f_body_octets) = true)
    (a11 : PySem.W.nsIn K mainGlobals "block_octets" = some (some (.ref f_block_octets)))
    (l11 : K.lookup f_block_octets = some ⟨oc11, od11, .func (PySem.W.fnOf "block_octets" "block_octets" (defArgs s_block_octets) (defBody s_block_octets) (defScope s_block_octets) .none kV11 dc11 pm11 an11 cd11 ct11), sl11⟩)
    (c11 : PySem.W.codeIn K cd11 "block_octets" = true)
    (k11 : PySem.W.keepIn K (.ref f_block_octets) = true)
    (a12 : PySem.W.nsIn K mainGlobals "check_of" = some (some (.ref f_check_of)))
    (l12 : K.lookup f_check_of = some ⟨oc12, od12, .func (PySem.W.fnOf "check_of" "check_of" (defArgs s_check_of) (defBody s_check_of) (defScope s_check_of) .none kV12 dc12 pm12 an12 cd12 ct12), sl12⟩)
    (c12 : PySem.W.codeIn K cd12 "check_of" = true)
    (k12 : PySem.W.keepIn K (.ref f_check_of) = true)
    (a13 : PySem.W.nsIn K mainGlobals "sealed" = some (some (.ref f_sealed)))
    (l13 : K.lookup f_sealed = some ⟨oc13, od13, .func (PySem.W.fnOf "sealed" "sealed" (defArgs s_sealed) (defBody s_sealed) (defScope s_sealed) .none kV13 dc13 pm13 an13 cd13 ct13), sl13⟩)
    (c13 : PySem.W.codeIn K cd13 "sealed" = true)
    (k13 : PySem.W.keepIn K (.ref f_sealed) = true)
    (a14 : PySem.W.nsIn K mainGlobals "_law_low" = some (some (.ref f__law_low)))
    (l14 : K.lookup f__law_low = some ⟨oc14, od14, .func (PySem.W.fnOf "_law_low" "_law_low" (defArgs s__law_low) (defBody s__law_low) (defScope s__law_low) .none kV14 dc14 pm14 an14 cd14 ct14), sl14⟩)
    (c14 : PySem.W.codeIn K cd14 "_law_low" = true)
    (k14 : PySem.W.keepIn K (.ref f__law_low) = true)
    (a15 : PySem.W.nsIn K mainGlobals "_law_octets" = some (some (.ref f__law_octets)))
    (l15 : K.lookup f__law_octets = some ⟨oc15, od15, .func (PySem.W.fnOf "_law_octets" "_law_octets" (defArgs s__law_octets) (defBody s__law_octets) (defScope s__law_octets) .none kV15 dc15 pm15 an15 cd15 ct15), sl15⟩)
    (c15 : PySem.W.codeIn K cd15 "_law_octets" = true)
    (k15 : PySem.W.keepIn K (.ref f__law_octets) = true)
    (a16 : PySem.W.nsIn K mainGlobals "_law_check" = some (some (.ref f__law_check)))
    (l16 : K.lookup f__law_check = some ⟨oc16, od16, .func (PySem.W.fnOf "_law_check" "_law_check" (defArgs s__law_check) (defBody s__law_check) (defScope s__law_check) .none kV16 dc16 pm16 an16 cd16 ct16), sl16⟩)
    (c16 : PySem.W.codeIn K cd16 "_law_check" = true)
    (k16 : PySem.W.keepIn K (.ref f__law_check) = true)
    (a17 : PySem.W.nsIn K mainGlobals "is_whole" = some (some (.ref f_is_whole)))
    (l17 : K.lookup f_is_whole = some ⟨oc17, od17, .func (PySem.W.fnOf "is_whole" "is_whole" (defArgs s_is_whole) (defBody s_is_whole) (defScope s_is_whole) .none kV17 dc17 pm17 an17 cd17 ct17), sl17⟩)
    (c17 : PySem.W.codeIn K cd17 "is_whole" = true)
    (k17 : PySem.W.keepIn K (.ref f_is_whole) = true)
    (a18 : PySem.W.nsIn K mainGlobals "_law_changed" = some (some (.ref f__law_changed)))
    (l18 : K.lookup f__law_changed = some ⟨oc18, od18, .func (PySem.W.fnOf "_law_changed" "_law_changed" (defArgs s__law_changed) (defBody s__law_changed) (defScope s__law_changed) .none kV18 dc18 pm18 an18 cd18 ct18), sl18⟩)
    (c18 : PySem.W.codeIn K cd18 "_law_changed" = true)
    (k18 : PySem.W.keepIn K (.ref f__law_changed) = true)
    (a19 : PySem.W.nsIn K mainGlobals "_law_cells_hold" = some (some (.ref f__law_cells_hold)))
    (l19 : K.lookup f__law_cells_hold = some ⟨oc19, od19, .func (PySem.W.fnOf "_law_cells_hold" "_law_cells_hold" (defArgs s__law_cells_hold) (defBody s__law_cells_hold) (defScope s__law_cells_hold) .none kV19 dc19 pm19 an19 cd19 ct19), sl19⟩)
    (c19 : PySem.W.codeIn K cd19 "_law_cells_hold" = true)
    (k19 : PySem.W.keepIn K (.ref f__law_cells_hold) = true)
    (a20 : PySem.W.nsIn K mainGlobals "law" = some (some (.ref f_law)))
    (l20 : K.lookup f_law = some ⟨oc20, od20, .func (PySem.W.fnOf "law" "law" (defArgs s_law) (defBody s_law) (defScope s_law) .none kV20 dc20 pm20 an20 cd20 ct20), sl20⟩)
    (c20 : PySem.W.codeIn K cd20 "law" = true)
    (k20 : PySem.W.keepIn K (.ref f_law) = true)
    (x_Layout : PySem.W.nsIn K mainGlobals "Layout" = some (some (.ref C_Layout)))
    (pg_Layout : PySem.W.plainGet K C_Layout Str.empty = true)
    (hd_Layout : PySem.W.hasDictIn K C_Layout = true)
    (po_Layout : PySem.W.plainOver K C_Layout = true)
    (sa_Layout : PySem.W.findIn K (.ref C_Layout) "__setattr__" = some (some (.builtin "object.__setattr__")))
    (mk_Layout : PySem.W.makesIn K C_Layout = true)
    (kc_Layout : PySem.W.keepIn K (.ref C_Layout) = true)
    (at_Layout_segments : PySem.W.findIn K (.ref C_Layout) "segments" = some none)
    (at_Layout_segment_blocks : PySem.W.findIn K (.ref C_Layout) "segment_blocks" = some none)
    (at_Layout_block_size : PySem.W.findIn K (.ref C_Layout) "block_size" = some none)
    (at_Layout_payload : PySem.W.findIn K (.ref C_Layout) "payload" = some none)
    (at_Layout_limit : PySem.W.findIn K (.ref C_Layout) "limit" = some none)
    (at_Layout_last_id : PySem.W.findIn K (.ref C_Layout) "last_id" = some none)
    (at_Layout_fan : PySem.W.findIn K (.ref C_Layout) "fan" = some none)
    (at_Layout_region_blocks : PySem.W.findIn K (.ref C_Layout) "region_blocks" = some none)
    (at_Layout_device_blocks : PySem.W.findIn K (.ref C_Layout) "device_blocks" = some none)
    (z_int : PySem.W.nsIn K mainGlobals "int" = some none)
    (z_len : PySem.W.nsIn K mainGlobals "len" = some none)
    (z_tuple : PySem.W.nsIn K mainGlobals "tuple" = some none)
    (z_range : PySem.W.nsIn K mainGlobals "range" = some none)
    (z_list : PySem.W.nsIn K mainGlobals "list" = some none)
    (z_isinstance : PySem.W.nsIn K mainGlobals "isinstance" = some none)
    (z_bool : PySem.W.nsIn K mainGlobals "bool" = some none)
    (g_MOST_SEGMENTS : PySem.W.nsIn K mainGlobals "MOST_SEGMENTS" = some (some (.int 16 t_MOST_SEGMENTS)))
    (g_LEAST_SEGMENTS : PySem.W.nsIn K mainGlobals "LEAST_SEGMENTS" = some (some (.int 4 t_LEAST_SEGMENTS)))
    (g_MOST_BLOCKS : PySem.W.nsIn K mainGlobals "MOST_BLOCKS" = some (some (.int 32 t_MOST_BLOCKS)))
    (g_LEAST_BLOCKS : PySem.W.nsIn K mainGlobals "LEAST_BLOCKS" = some (some (.int 16 t_LEAST_BLOCKS)))
    (g_HEAD_OCTETS : PySem.W.nsIn K mainGlobals "HEAD_OCTETS" = some (some (.int 16 t_HEAD_OCTETS)))
    (g_SLOTS : PySem.W.nsIn K mainGlobals "SLOTS" = some (some (.int 3 t_SLOTS)))
    (g_COMMIT : PySem.W.nsIn K mainGlobals "COMMIT" = some (some (.int 1 t_COMMIT)))
    (g_MOVE : PySem.W.nsIn K mainGlobals "MOVE" = some (some (.int 2 t_MOVE)))
    (g_DATA : PySem.W.nsIn K mainGlobals "DATA" = some (some (.int 3 t_DATA)))
    (g_SPARE : PySem.W.nsIn K mainGlobals "SPARE" = some (some (.int 16 t_SPARE)))
    (g_FACTOR : PySem.W.nsIn K mainGlobals "FACTOR" = some (some (.int 257 t_FACTOR)))
    (g_PRIME : PySem.W.nsIn K mainGlobals "PRIME" = some (some (.int 4294967291 t_PRIME)))
    : ∃ fd : FuncData, (∀ (s : Shared) (v : Value), BindsTo s fd ⟨[v], []⟩ [("script", v)]) ∧ ∀ base : Heap, K.In base → base.Ns mainGlobals mg → FnOk l.prog w K mg base CX0 7 fa fd ["script"] (spLaw K) := by
  have e := hfa.symm.trans (PySem.W.mg_of X G a20)
  cases e
  have F__law_take := fun_mk (st := s__law_take) l0 c0 k0
  have b__law_take := F__law_take.binds (ps := ["box", "size"]) fun _ _ _ _ _ _ us hl => match us, hl with | [_, _], _ => rfl
  have F_parts_of := fun_mk (st := s_parts_of) l1 c1 k1
  have b_parts_of := F_parts_of.binds (ps := ["number", "size"]) fun _ _ _ _ _ _ us hl => match us, hl with | [_, _], _ => rfl
  have F_Layout___init__ := fun_mk (st := s_Layout___init__) l2 c2 k2
  have b_Layout___init__ := F_Layout___init__.binds (ps := ["self", "segments", "segment_blocks", "block_size"]) fun _ _ _ _ _ _ us hl => match us, hl with | [_, _, _, _], _ => rfl
  have F__law_layout := fun_mk (st := s__law_layout) l3 c3 k3
  have b__law_layout := F__law_layout.binds (ps := ["box"]) fun _ _ _ _ _ _ us hl => match us, hl with | [_], _ => rfl
  have F__law_number := fun_mk (st := s__law_number) l4 c4 k4
  have b__law_number := F__law_number.binds (ps := ["script", "k"]) fun _ _ _ _ _ _ us hl => match us, hl with | [_, _], _ => rfl
  have F__law_block := fun_mk (st := s__law_block) l5 c5 k5
  have b__law_block := F__law_block.binds (ps := ["layout", "box"]) fun _ _ _ _ _ _ us hl => match us, hl with | [_, _], _ => rfl
  have F_number_octets := fun_mk (st := s_number_octets) l6 c6 k6
  have b_number_octets := F_number_octets.binds (ps := ["number", "count"]) fun _ _ _ _ _ _ us hl => match us, hl with | [_, _], _ => rfl
  have F_summary_octets := fun_mk (st := s_summary_octets) l7 c7 k7
  have b_summary_octets := F_summary_octets.binds (ps := ["layout", "mark", "numbers", "action"]) fun _ _ _ _ _ _ us hl => match us, hl with | [_, _, _, _], _ => rfl
  have F_bits_of := fun_mk (st := s_bits_of) l8 c8 k8
  have b_bits_of := F_bits_of.binds (ps := ["used", "last_id"]) fun _ _ _ _ _ _ us hl => match us, hl with | [_, _], _ => rfl
  have F_pairs_of := fun_mk (st := s_pairs_of) l9 c9 k9
  have b_pairs_of := F_pairs_of.binds (ps := ["numbers"]) fun _ _ _ _ _ _ us hl => match us, hl with | [_], _ => rfl
  have F_body_octets := fun_mk (st := s_body_octets) l10 c10 k10
  have b_body_octets := F_body_octets.binds (ps := ["layout", "kind", "body"]) fun _ _ _ _ _ _ us hl => match us, hl with | [_, _, _], _ => rfl
  have F_block_octets := fun_mk (st := s_block_octets) l11 c11 k11
  have b_block_octets := F_block_octets.binds (ps := ["layout", "block"]) fun _ _ _ _ _ _ us hl => match us, hl with | [_, _], _ => rfl
  have F_check_of := fun_mk (st := s_check_of) l12 c12 k12
  have b_check_of := F_check_of.binds (ps := ["layout", "address", "block"]) fun _ _ _ _ _ _ us hl => match us, hl with | [_, _, _], _ => rfl
  have F_sealed := fun_mk (st := s_sealed) l13 c13 k13
  have b_sealed := F_sealed.binds (ps := ["layout", "address", "block"]) fun _ _ _ _ _ _ us hl => match us, hl with | [_, _, _], _ => rfl
  have F__law_low := fun_mk (st := s__law_low) l14 c14 k14
  have b__law_low := F__law_low.binds (ps := ["number", "count"]) fun _ _ _ _ _ _ us hl => match us, hl with | [_, _], _ => rfl
  have F__law_octets := fun_mk (st := s__law_octets) l15 c15 k15
  have b__law_octets := F__law_octets.binds (ps := ["layout", "block"]) fun _ _ _ _ _ _ us hl => match us, hl with | [_, _], _ => rfl
  have F__law_check := fun_mk (st := s__law_check) l16 c16 k16
  have b__law_check := F__law_check.binds (ps := ["layout", "address", "block"]) fun _ _ _ _ _ _ us hl => match us, hl with | [_, _, _], _ => rfl
  have F_is_whole := fun_mk (st := s_is_whole) l17 c17 k17
  have b_is_whole := F_is_whole.binds (ps := ["layout", "address", "cell"]) fun _ _ _ _ _ _ us hl => match us, hl with | [_, _, _], _ => rfl
  have F__law_changed := fun_mk (st := s__law_changed) l18 c18 k18
  have b__law_changed := F__law_changed.binds (ps := ["layout", "block", "box"]) fun _ _ _ _ _ _ us hl => match us, hl with | [_, _, _], _ => rfl
  have F__law_cells_hold := fun_mk (st := s__law_cells_hold) l19 c19 k19
  have b__law_cells_hold := F__law_cells_hold.binds (ps := ["layout", "address", "block", "box"]) fun _ _ _ _ _ _ us hl => match us, hl with | [_, _, _, _], _ => rfl
  have F_law := fun_mk (st := s_law) l20 c20 k20
  have b_law := F_law.binds (ps := ["script"]) fun _ _ _ _ _ _ us hl => match us, hl with | [_], _ => rfl
  exact ⟨_, fun s v => .of_eq rfl, fun base _ _ => ok_law { C_Layout := C_Layout, f__law_take := f__law_take, fd__law_take := _, F__law_take := F__law_take, b__law_take := b__law_take, g__law_take := PySem.W.mg_of X G a0, f_parts_of := f_parts_of, fd_parts_of := _, F_parts_of := F_parts_of, b_parts_of := b_parts_of, g_parts_of := PySem.W.mg_of X G a1, f_Layout___init__ := f_Layout___init__, fd_Layout___init__ := _, F_Layout___init__ := F_Layout___init__, b_Layout___init__ := b_Layout___init__, mk_Layout := ⟨mk_Layout, a2, i2, kc_Layout⟩, f__law_layout := f__law_layout, fd__law_layout := _, F__law_layout := F__law_layout, b__law_layout := b__law_layout, g__law_layout := PySem.W.mg_of X G a3, f__law_number := f__law_number, fd__law_number := _, F__law_number := F__law_number, b__law_number := b__law_number, g__law_number := PySem.W.mg_of X G a4, f__law_block := f__law_block, fd__law_block := _, F__law_block := F__law_block, b__law_block := b__law_block, g__law_block := PySem.W.mg_of X G a5, f_number_octets := f_number_octets, fd_number_octets := _, F_number_octets := F_number_octets, b_number_octets := b_number_octets, g_number_octets := PySem.W.mg_of X G a6, f_summary_octets := f_summary_octets, fd_summary_octets := _, F_summary_octets := F_summary_octets, b_summary_octets := b_summary_octets, g_summary_octets := PySem.W.mg_of X G a7, f_bits_of := f_bits_of, fd_bits_of := _, F_bits_of := F_bits_of, b_bits_of := b_bits_of, g_bits_of := PySem.W.mg_of X G a8, f_pairs_of := f_pairs_of, fd_pairs_of := _, F_pairs_of := F_pairs_of, b_pairs_of := b_pairs_of, g_pairs_of := PySem.W.mg_of X G a9, f_body_octets := f_body_octets, fd_body_octets := _, F_body_octets := F_body_octets, b_body_octets := b_body_octets, g_body_octets := PySem.W.mg_of X G a10, f_block_octets := f_block_octets, fd_block_octets := _, F_block_octets := F_block_octets, b_block_octets := b_block_octets, g_block_octets := PySem.W.mg_of X G a11, f_check_of := f_check_of, fd_check_of := _, F_check_of := F_check_of, b_check_of := b_check_of, g_check_of := PySem.W.mg_of X G a12, f_sealed := f_sealed, fd_sealed := _, F_sealed := F_sealed, b_sealed := b_sealed, g_sealed := PySem.W.mg_of X G a13, f__law_low := f__law_low, fd__law_low := _, F__law_low := F__law_low, b__law_low := b__law_low, g__law_low := PySem.W.mg_of X G a14, f__law_octets := f__law_octets, fd__law_octets := _, F__law_octets := F__law_octets, b__law_octets := b__law_octets, g__law_octets := PySem.W.mg_of X G a15, f__law_check := f__law_check, fd__law_check := _, F__law_check := F__law_check, b__law_check := b__law_check, g__law_check := PySem.W.mg_of X G a16, f_is_whole := f_is_whole, fd_is_whole := _, F_is_whole := F_is_whole, b_is_whole := b_is_whole, g_is_whole := PySem.W.mg_of X G a17, f__law_changed := f__law_changed, fd__law_changed := _, F__law_changed := F__law_changed, b__law_changed := b__law_changed, g__law_changed := PySem.W.mg_of X G a18, f__law_cells_hold := f__law_cells_hold, fd__law_cells_hold := _, F__law_cells_hold := F__law_cells_hold, b__law_cells_hold := b__law_cells_hold, g__law_cells_hold := PySem.W.mg_of X G a19, f_law := fa, fd_law := _, F_law := F_law, b_law := b_law, g_law := hfa, cl_Layout := ⟨pg_Layout, hd_Layout, po_Layout, sa_Layout⟩, g_Layout := PySem.W.mg_of X G x_Layout, a_Layout_segments := at_Layout_segments, a_Layout_segment_blocks := at_Layout_segment_blocks, a_Layout_block_size := at_Layout_block_size, a_Layout_payload := at_Layout_payload, a_Layout_limit := at_Layout_limit, a_Layout_last_id := at_Layout_last_id, a_Layout_fan := at_Layout_fan, a_Layout_region_blocks := at_Layout_region_blocks, a_Layout_device_blocks := at_Layout_device_blocks, n_int := PySem.W.mg_none_of X G z_int, n_len := PySem.W.mg_none_of X G z_len, n_tuple := PySem.W.mg_none_of X G z_tuple, n_range := PySem.W.mg_none_of X G z_range, n_list := PySem.W.mg_none_of X G z_list, n_isinstance := PySem.W.mg_none_of X G z_isinstance, n_bool := PySem.W.mg_none_of X G z_bool, u_MOST_SEGMENTS := _, g_MOST_SEGMENTS := PySem.W.mg_of X G g_MOST_SEGMENTS, r_MOST_SEGMENTS := ⟨_, rfl⟩, u_LEAST_SEGMENTS := _, g_LEAST_SEGMENTS := PySem.W.mg_of X G g_LEAST_SEGMENTS, r_LEAST_SEGMENTS := ⟨_, rfl⟩, u_MOST_BLOCKS := _, g_MOST_BLOCKS := PySem.W.mg_of X G g_MOST_BLOCKS, r_MOST_BLOCKS := ⟨_, rfl⟩, u_LEAST_BLOCKS := _, g_LEAST_BLOCKS := PySem.W.mg_of X G g_LEAST_BLOCKS, r_LEAST_BLOCKS := ⟨_, rfl⟩, u_HEAD_OCTETS := _, g_HEAD_OCTETS := PySem.W.mg_of X G g_HEAD_OCTETS, r_HEAD_OCTETS := ⟨_, rfl⟩, u_SLOTS := _, g_SLOTS := PySem.W.mg_of X G g_SLOTS, r_SLOTS := ⟨_, rfl⟩, u_COMMIT := _, g_COMMIT := PySem.W.mg_of X G g_COMMIT, r_COMMIT := ⟨_, rfl⟩, u_MOVE := _, g_MOVE := PySem.W.mg_of X G g_MOVE, r_MOVE := ⟨_, rfl⟩, u_DATA := _, g_DATA := PySem.W.mg_of X G g_DATA, r_DATA := ⟨_, rfl⟩, u_SPARE := _, g_SPARE := PySem.W.mg_of X G g_SPARE, r_SPARE := ⟨_, rfl⟩, u_FACTOR := _, g_FACTOR := PySem.W.mg_of X G g_FACTOR, r_FACTOR := ⟨_, rfl⟩, u_PRIME := _, g_PRIME := PySem.W.mg_of X G g_PRIME, r_PRIME := ⟨_, rfl⟩ }⟩
theorem walk {l : PySem.W.OpenLaw} {q : Program} {loose : List Str} {XP : (Str → Option Value) → Heap → Prop} {YP : World → Heap → Prop} {d : DefRec} {K : Params → PySem.W.Frag} (hn : l.most = some 63) (hdf : d.params.defaults = [])
    (hY : ∀ (w : World) (h : Heap), YP w h → (K w.params).In h)
    (F : ∀ (w : World) (mg : Str → Option Value) (fa : Addr) (h : Heap), (K w.params).In h → h.Ns mainGlobals mg → mg d.name = some (.ref fa) →
      ∃ fd : FuncData, (∀ (s : Shared) (u : Value), BindsTo s fd ⟨[u], []⟩ [("script", u)]) ∧ ∀ base : Heap, (K w.params).In base → base.Ns mainGlobals mg → FnOk l.prog w (K w.params) mg base CX0 7 fa fd ["script"] (spLaw (K w.params))) :
    PySem.W.WalkO q loose XP YP l.row.toRowW d [] (fun f vs => PySem.call f vs) :=
  L2.walk_of (n := 63) (k := 7) (x := "script") (CX := fun _ => CX0) (sp := fun w => spLaw (K w.params)) hn (by decide) hdf ⟨rfl, by decide, by decide⟩ hY F (fun _ _ a ns hl _ hS => ⟨a, ns, rfl, hS, hl, fun _ => rfl⟩) fun _ _ _ _ _ z => z
end Sk
open PySem PySem.W PyProof.Rows in
set_option maxRecDepth 100000 in
set_option maxHeartbeats 0 in
theorem PySem.Challenge.cw_sidekeep_k06_cells_are_sealed_holds : PySem.Challenge.rw_sidekeep_k06_cells_are_sealed.Holds := by
  w_on; o_law; k_head; (case hw => w_witness2)
  k_fill
  refine Sk.walk (l := PySem.Challenge.rw_sidekeep_k06_cells_are_sealed) rfl rfl (fun w h Y => PySem.W.kIn_of Y) ?F
  case F =>
    intro w mg fa h KX G hmg
    refine' Sk.all_mk KX G hmg ?a0 ?l0 ?c0 ?k0 ?a1 ?l1 ?c1 ?k1 ?a2 ?i2 ?l2 ?c2 ?k2 ?a3 ?l3 ?c3 ?k3 ?a4 ?l4 ?c4 ?k4 ?a5 ?l5 ?c5 ?k5 ?a6 ?l6 ?c6 ?k6 ?a7 ?l7 ?c7 ?k7 ?a8 ?l8 ?c8 ?k8 ?a9 ?l9 ?c9 ?k9 ?a10 ?l10 ?c10 ?k10 ?a11 ?l11 ?c11 ?k11 ?a12 ?l12 ?c12 ?k12 ?a13 ?l13 ?c13 ?k13 ?a14 ?l14 ?c14 ?k14 ?a15 ?l15 ?c15 ?k15 ?a16 ?l16 ?c16 ?k16 ?a17 ?l17 ?c17 ?k17 ?a18 ?l18 ?c18 ?k18 ?a19 ?l19 ?c19 ?k19 ?a20 ?l20 ?c20 ?k20 ?x_Layout ?pg_Layout ?hd_Layout ?po_Layout ?sa_Layout ?mk_Layout ?kc_Layout ?at_Layout_segments ?at_Layout_segment_blocks ?at_Layout_block_size ?at_Layout_payload ?at_Layout_limit ?at_Layout_last_id ?at_Layout_fan ?at_Layout_region_blocks ?at_Layout_device_blocks ?z_int ?z_len ?z_tuple ?z_range ?z_list ?z_isinstance ?z_bool ?g_MOST_SEGMENTS ?g_LEAST_SEGMENTS ?g_MOST_BLOCKS ?g_LEAST_BLOCKS ?g_HEAD_OCTETS ?g_SLOTS ?g_COMMIT ?g_MOVE ?g_DATA ?g_SPARE ?g_FACTOR ?g_PRIME
    (case x_Layout => k_is)
    (case a0 => k_is)
    (case l0 => k_is)
    (case c0 => k_is)
    (case k0 => k_is)
    (case a1 => k_is)
    (case l1 => k_is)
    (case c1 => k_is)
    (case k1 => k_is)
    (case a2 => k_is)
    (case i2 => k_is)
    (case l2 => k_is)
    (case c2 => k_is)
    (case k2 => k_is)
    (case a3 => k_is)
    (case l3 => k_is)
    (case c3 => k_is)
    (case k3 => k_is)
    (case a4 => k_is)
    (case l4 => k_is)
    (case c4 => k_is)
    (case k4 => k_is)
    (case a5 => k_is)
    (case l5 => k_is)
    (case c5 => k_is)
    (case k5 => k_is)
    (case a6 => k_is)
    (case l6 => k_is)
    (case c6 => k_is)
    (case k6 => k_is)
    (case a7 => k_is)
    (case l7 => k_is)
    (case c7 => k_is)
    (case k7 => k_is)
    (case a8 => k_is)
    (case l8 => k_is)
    (case c8 => k_is)
    (case k8 => k_is)
    (case a9 => k_is)
    (case l9 => k_is)
    (case c9 => k_is)
    (case k9 => k_is)
    (case a10 => k_is)
    (case l10 => k_is)
    (case c10 => k_is)
    (case k10 => k_is)
    (case a11 => k_is)
    (case l11 => k_is)
    (case c11 => k_is)
    (case k11 => k_is)
    (case a12 => k_is)
    (case l12 => k_is)
    (case c12 => k_is)
    (case k12 => k_is)
    (case a13 => k_is)
    (case l13 => k_is)
    (case c13 => k_is)
    (case k13 => k_is)
    (case a14 => k_is)
    (case l14 => k_is)
    (case c14 => k_is)
    (case k14 => k_is)
    (case a15 => k_is)
    (case l15 => k_is)
    (case c15 => k_is)
    (case k15 => k_is)
    (case a16 => k_is)
    (case l16 => k_is)
    (case c16 => k_is)
    (case k16 => k_is)
    (case a17 => k_is)
    (case l17 => k_is)
    (case c17 => k_is)
    (case k17 => k_is)
    (case a18 => k_is)
    (case l18 => k_is)
    (case c18 => k_is)
    (case k18 => k_is)
    (case a19 => k_is)
    (case l19 => k_is)
    (case c19 => k_is)
    (case k19 => k_is)
    (case a20 => k_is)
    (case l20 => k_is)
    (case c20 => k_is)
    (case k20 => k_is)
    (case pg_Layout => k_is)
    (case hd_Layout => k_is)
    (case po_Layout => k_is)
    (case sa_Layout => k_is)
    (case mk_Layout => k_is)
    (case kc_Layout => k_is)
    (case at_Layout_segments => k_is)
    (case at_Layout_segment_blocks => k_is)
    (case at_Layout_block_size => k_is)
    (case at_Layout_payload => k_is)
    (case at_Layout_limit => k_is)
    (case at_Layout_last_id => k_is)
    (case at_Layout_fan => k_is)
    (case at_Layout_region_blocks => k_is)
    (case at_Layout_device_blocks => k_is)
    (case z_int => k_is)
    (case z_len => k_is)
    (case z_tuple => k_is)
    (case z_range => k_is)
    (case z_list => k_is)
    (case z_isinstance => k_is)
    (case z_bool => k_is)
    (case g_MOST_SEGMENTS => k_is)
    (case g_LEAST_SEGMENTS => k_is)
    (case g_MOST_BLOCKS => k_is)
    (case g_LEAST_BLOCKS => k_is)
    (case g_HEAD_OCTETS => k_is)
    (case g_SLOTS => k_is)
    (case g_COMMIT => k_is)
    (case g_MOVE => k_is)
    (case g_DATA => k_is)
    (case g_SPARE => k_is)
    (case g_FACTOR => k_is)
    (case g_PRIME => k_is)
#print axioms PySem.Challenge.cw_sidekeep_k06_cells_are_sealed_holds
