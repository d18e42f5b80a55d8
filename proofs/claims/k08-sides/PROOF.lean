import PyProof.Rows.All
import Wide.All
import OpenK.AllK
import Wide.FinOn
import HandS.ForMost
import HandS.Deep
import HandS.Style
import HandS.IsInst
import HandS.Rev
import HandS.Wide
import HandS.TryOnly
import HandS.TupMul
import HandS.Defaults
import HandS.Dict
import PySem.Challenge.RW_sidekeep_k08_sides_are_rows_of_cells
set_option Elab.async false
set_option maxRecDepth 100000
set_option maxHeartbeats 4000000
set_option linter.all false

namespace Sk
open PySem L2

/-! ### rules by values, joined over the kinds -/
section
variable {X : Cx}
def rAddU (K : PySem.W.Frag) : R2 := fun x y H Q => match x, y with
  | .int i, .int j => Q (.int (i + j)) H
  | .str i, .str j => i.length + j.length ≤ sizeLine ∧ Q (.str (i ++ j)) H
  | x, y => rCat x y H Q ∨ rCatT K x y H Q
theorem opAddU0 : OpR X (binaryOp .Add) (rAddU X.K) := by
  intro pins s σ H x y v u Q I rx ry h
  unfold rAddU at h
  split at h
  · exact op_add pins s σ H _ _ v u Q I rx ry ⟨_, _, rfl, rfl, h⟩
  · exact op_add_str pins s σ H _ _ v u Q I rx ry ⟨_, _, rfl, rfl, h.1, h.2⟩
  · rcases h with h | h
    · exact op_cat pins s σ H _ _ v u Q I rx ry h
    · exact op_catT pins s σ H _ _ v u Q I rx ry h
theorem opAddU {K : PySem.W.Frag} (hK : X.K = K := by rfl) : OpR X (binaryOp .Add) (rAddU K) := hK ▸ opAddU0
def rSubU : R2 := fun x y H Q => match x, y with
  | .int i, .int j => Q (.int (i - j)) H
  | _, _ => False
theorem opSubU : OpR X (binaryOp .Sub) rSubU := by
  intro pins s σ H x y v u Q I rx ry h
  unfold rSubU at h
  split at h
  · exact op_sub pins s σ H _ _ v u Q I rx ry ⟨_, _, rfl, rfl, h⟩
  · exact h.elim
def rMulU : R2 := fun x y H Q => match x, y with
  | .int i, .int j => CMul i j ∧ Q (.int (i * j)) H
  | x, y => rRep x y H Q
theorem opMultU : OpR X (binaryOp .Mult) rMulU := by
  intro pins s σ H x y v u Q I rx ry h
  unfold rMulU at h
  split at h
  · exact op_mul pins s σ H _ _ v u Q I rx ry ⟨_, _, rfl, rfl, h.1, h.2⟩
  · exact op_rep pins s σ H _ _ v u Q I rx ry h
def rModU : R2 := fun x y H Q => match x, y with
  | .int i, .int j => 0 < j ∧ Q (.int (i % j)) H
  | _, _ => False
theorem opModU : OpR X (binaryOp .Mod) rModU := by
  intro pins s σ H x y v u Q I rx ry h
  unfold rModU at h
  split at h
  · exact op_mod pins s σ H _ _ v u Q I rx ry ⟨_, _, rfl, rfl, h.1, h.2⟩
  · exact h.elim
def rDivU : R2 := fun x y H Q => match x, y with
  | .int i, .int j => (CDiv i j ∨ CDivW i j) ∧ Q (.int (i / j)) H
  | _, _ => False
theorem opFloorDivU : OpR X (binaryOp .FloorDiv) rDivU := by
  intro pins s σ H x y v u Q I rx ry h
  unfold rDivU at h
  split at h
  · obtain ⟨c | c, q⟩ := h
    · exact op_fdiv pins s σ H _ _ v u Q I rx ry ⟨_, _, rfl, rfl, c, q⟩
    · exact op_fdivW pins s σ H _ _ v u Q I rx ry ⟨_, _, rfl, rfl, c, q⟩
  · exact h.elim
def rPowU : R2 := fun x y H Q => match x, y with
  | .int i, .int j => CPow i j ∧ Q (.int (i ^ j.toNat)) H
  | _, _ => False
theorem opPowU : OpR X (binaryOp .Pow) rPowU := by
  intro pins s σ H x y v u Q I rx ry h
  unfold rPowU at h
  split at h
  · exact op_pow pins s σ H _ _ v u Q I rx ry ⟨_, _, rfl, rfl, h.1, h.2⟩
  · exact h.elim
/-- == of scalars, or of data at any depth -/
def rEqU (K : PySem.W.Frag) : R2 := fun x y H Q => match x, y with
  | .int i, .int j => Q (.bl (decide (i = j))) H
  | .str i, .str j => Q (.bl (decide (i = j))) H
  | .bl i, .bl j => Q (.bl (decide (i = j))) H
  | x, y => rEqD K x y H Q
theorem opEqU0 (hu : X.A.units + 64 < cLine) : OpR X (compareOp .Eq) (rEqU X.K) := by
  intro pins s σ H x y v u Q I rx ry h
  unfold rEqU at h
  split at h
  · exact op_eq pins s σ H _ _ v u Q I rx ry ⟨rfl, by simpa using h⟩
  · exact op_eq pins s σ H _ _ v u Q I rx ry ⟨rfl, by simpa using h⟩
  · exact op_eq pins s σ H _ _ v u Q I rx ry ⟨rfl, by simpa using h⟩
  · exact op_eqD hu pins s σ H _ _ v u Q I rx ry h
theorem opEqU {K : PySem.W.Frag} (hu : X.A.units + 64 < cLine) (hK : X.K = K := by rfl) : OpR X (compareOp .Eq) (rEqU K) := hK ▸ opEqU0 hu
def rNeU (K : PySem.W.Frag) : R2 := fun x y H Q => match x, y with
  | .int i, .int j => Q (.bl (!decide (i = j))) H
  | .str i, .str j => Q (.bl (!decide (i = j))) H
  | .bl i, .bl j => Q (.bl (!decide (i = j))) H
  | x, y => rNeD K x y H Q
theorem opNeU0 (hu : X.A.units + 64 < cLine) : OpR X (compareOp .NotEq) (rNeU X.K) := by
  intro pins s σ H x y v u Q I rx ry h
  unfold rNeU at h
  split at h
  · exact op_ne pins s σ H _ _ v u Q I rx ry ⟨rfl, by simpa using h⟩
  · exact op_ne pins s σ H _ _ v u Q I rx ry ⟨rfl, by simpa using h⟩
  · exact op_ne pins s σ H _ _ v u Q I rx ry ⟨rfl, by simpa using h⟩
  · exact op_neD hu pins s σ H _ _ v u Q I rx ry h
theorem opNeU {K : PySem.W.Frag} (hu : X.A.units + 64 < cLine) (hK : X.K = K := by rfl) : OpR X (compareOp .NotEq) (rNeU K) := hK ▸ opNeU0 hu
def rIsU : R2 := fun x y H Q => match y with
  | .non => Q (.bl (decide (x = .non))) H
  | .bl b => ∃ a, x = .bl a ∧ Q (.bl (decide (a = b))) H
  | _ => False
theorem opIsU : OpR X (compareOp .Is) rIsU := by
  intro pins s σ H x y v u Q I rx ry h
  unfold rIsU at h
  split at h
  · exact op_isN pins s σ H _ _ v u Q I rx ry ⟨rfl, h⟩
  · obtain ⟨a, rfl, q⟩ := h; exact op_isBl pins s σ H _ _ v u Q I rx ry ⟨_, _, rfl, rfl, q⟩
  · exact h.elim
def rNotU : R2 := fun x y H Q => match y with
  | .non => Q (.bl (!decide (x = .non))) H
  | .bl b => ∃ a, x = .bl a ∧ Q (.bl (!decide (a = b))) H
  | _ => False
theorem opNotU : OpR X (compareOp .IsNot) rNotU := by
  intro pins s σ H x y v u Q I rx ry h
  unfold rNotU at h
  split at h
  · exact op_notN pins s σ H _ _ v u Q I rx ry ⟨rfl, h⟩
  · obtain ⟨a, rfl, q⟩ := h; exact op_notBl pins s σ H _ _ v u Q I rx ry ⟨_, _, rfl, rfl, q⟩
  · exact h.elim
theorem opInF0 : OpR X (compareOp .In) (rIn X.K false) := op_in_seq
theorem opInF {K : PySem.W.Frag} (hK : X.K = K := by rfl) : OpR X (compareOp .In) (rIn K false) := hK ▸ opInF0
theorem opNinF0 : OpR X (compareOp .NotIn) (rIn X.K true) := op_notIn_seq
theorem opNinF {K : PySem.W.Frag} (hK : X.K = K := by rfl) : OpR X (compareOp .NotIn) (rIn K true) := hK ▸ opNinF0
theorem ps_never {st : Stmt} : PS X st (fun _ _ _ => False) := ⟨fun _ _ _ _ _ _ h => h.elim⟩
theorem pe_never {e : Expr} : PE X e (fun _ _ _ => False) := ⟨fun _ _ _ _ _ _ h => h.elim⟩
theorem hu65 {A : Around} {k : Nat} (hr : Room k A) : A.units + 65 < cLine := by have := hr.un; omega
theorem opInU0 (hu : X.A.units + 65 < cLine) : OpR X (compareOp .In) (rInD X.K) := op_inD hu
theorem opInU {K : PySem.W.Frag} (hu : X.A.units + 65 < cLine) (hK : X.K = K := by rfl) : OpR X (compareOp .In) (rInD K) := hK ▸ opInU0 hu
theorem opNinU0 (hu : X.A.units + 65 < cLine) : OpR X (compareOp .NotIn) (rNotInD X.K) := op_notInD hu
theorem opNinU {K : PySem.W.Frag} (hu : X.A.units + 65 < cLine) (hK : X.K = K := by rfl) : OpR X (compareOp .NotIn) (rNotInD K) := hK ▸ opNinU0 hu
theorem ixU0 : IxR X (rIx X.K) := ix_seq
theorem ixU {K : PySem.W.Frag} (hK : X.K = K := by rfl) : IxR X (rIx K) := hK ▸ ixU0
theorem callMaxU {K : PySem.W.Frag} (hc : X.calm = true) (hK : X.K = K := by rfl) : CallR X (.builtin "max") (rMax K) := hK ▸ cr_max hc
theorem pi_revK {K : PySem.W.Frag} {tg e : Expr} {te : TE} {p pos : Pos} (hg : Gl X "reversed") (hm : X.mg "reversed" = none) (he : PE X e te) (hs : starEach [e] X.env = (false, eval e X.env) :: starEach [] X.env := by rfl) (hK : X.K = K := by rfl) :
    PI X tg (.Call (.Name "reversed" p) [e] [] pos) (RT.iRevA K te) := hK ▸ RT.pi_revA hg hm he hs
def rSlU (K : PySem.W.Frag) : V → Option Int → Option Int → Hp → VK → Prop := fun x lo hi H Q => rSlL K x lo hi H Q ∨ rSlT K x lo hi H Q
theorem slU0 : SlR X (rSlU X.K) := sl_list.or sl_tup
theorem slU {K : PySem.W.Frag} (hK : X.K = K := by rfl) : SlR X (rSlU K) := hK ▸ slU0
def rLenU (K : PySem.W.Frag) : List V → Hp → VK → Prop := fun xs H Q => ∃ x n, xs = [x] ∧ LenV K x H n ∧ Q (.int n) H
theorem callLenU0 : CallR X (.builtin "len") (rLenU X.K) := call_len
theorem callLenU {K : PySem.W.Frag} (hK : X.K = K := by rfl) : CallR X (.builtin "len") (rLenU K) := hK ▸ callLenU0
def rListU (K : PySem.W.Frag) : List V → Hp → VK → Prop := fun xs H Q => ∃ p ys, xs = [.ref p] ∧ (SqL K H p ys ∨ SqT K H p ys) ∧ ∀ l, H l = none → Q (.ref l) (upd H l (.lst ys))
theorem callListU0 : CallR X (.type "list") (rListU X.K) := call_list_of
theorem callListU {K : PySem.W.Frag} (hK : X.K = K := by rfl) : CallR X (.type "list") (rListU K) := hK ▸ callListU0
def rTupU (K : PySem.W.Frag) : List V → Hp → VK → Prop := fun xs H Q => ∃ p ys, xs = [.ref p] ∧ ((SqL K H p ys ∧ ∀ l, H l = none → Q (.ref l) (upd H l (.tup ys))) ∨ (SqT K H p ys ∧ Q (.ref p) H))
theorem callTupU0 : CallR X (.type "tuple") (rTupU X.K) := call_tuple_of
theorem callTupU {K : PySem.W.Frag} (hK : X.K = K := by rfl) : CallR X (.type "tuple") (rTupU K) := hK ▸ callTupU0
def rInt1 : List V → Hp → VK → Prop := fun xs H Q => (∃ i, xs = [.int i] ∧ Q (.int i) H) ∨ ∃ k, xs = [.bl k] ∧ Q (.int (if k then 1 else 0)) H
theorem callIntU : CallR X (.type "int") rInt1 := call_int1
/-! the layer's rules with the written part K named (a comprehension's block has it by computing) -/
variable {e : Expr} {es : List Expr} {te : TE} {t : TA} {pos : Pos} {tg : Expr} {K : PySem.W.Frag}
theorem pe_fldK {f : Str} (he : PE X e te) (hb : attributeBase e f X.env (eval e X.env) = eval e X.env) (hK : X.K = K := by rfl) : PE X (.Attribute e f pos) (tFld K te f) := hK ▸ pe_fld he hb
def tTruK (K : PySem.W.Frag) (ta : TE) : TT := fun σ H Q => ta σ H fun x H' => ∃ k, TruV K x H' k ∧ Q k H'
theorem pt_truthK (ha : PE X e te) (he : ∀ whole, isTrue e X.env whole = (do let v ← whole; standAt e.pos; holding [v] (truthy v))) (hK : X.K = K := by rfl) : PT X e (tTruK K te) := hK ▸ pt_truth ha he
theorem pi_listK (hl : PE X e te) (hK : X.K = K := by rfl) : PI X tg e (iList K te) := hK ▸ pi_list hl
theorem pi_tupK (hl : PE X e te) (hK : X.K = K := by rfl) : PI X tg e (iTup K te) := hK ▸ pi_tup hl
theorem pg_tupK {k : Nat} {t : TGs} {n : Nat} (hc : X.calm = true) (h : PGs X es t)
    (hn : (assignEach es X.env).length = n := by rfl) (hst : (assignEach es X.env).findIdx? (·.1) = none := by rfl) (hK : X.K = K := by rfl) : PG X (.Tuple es k pos) (gTup K n t) := hK ▸ pg_tup hc h hn hst
end

/-! ### steps of a reading -/
section
variable {K : PySem.W.Frag} {σ : St} {H H1 : Hp} {Q : VK} {QB : Bool → Hp → Prop} {QA : List V → Hp → Prop} {D : Ends} {i : Nat} {v x y : V} {te ta tb : TE} {t u : TS} {c cd : TT} {tr : TA} {E : XK} {A B : Prop}
theorem g_var (h : σ[i]? = some (some v)) (q : Q v H) : tVar i σ H Q := ⟨v, h, q⟩
theorem g_c (q : Q v H) : tC v σ H Q := q
theorem g_op {r : R2} (q : ta σ H fun x H1 => tb σ H1 fun y H2 => r x y H2 Q) : tOp r ta tb σ H Q := q
theorem g_un {r : V → Hp → VK → Prop} (q : ta σ H fun x H1 => r x H1 Q) : tUn r ta σ H Q := q
theorem g_neg {n : Int} (q : Q (.int (-n)) H) : rU (fun i => .int (-i)) (.int n) H Q := ⟨n, rfl, q⟩
theorem g_add {a b : Int} (q : Q (.int (a + b)) H) : rAddU K (.int a) (.int b) H Q := q
theorem g_sub {a b : Int} (q : Q (.int (a - b)) H) : rSubU (.int a) (.int b) H Q := q
theorem g_mul {a b : Int} (h : CMul a b) (q : Q (.int (a * b)) H) : rMulU (.int a) (.int b) H Q := ⟨h, q⟩
theorem g_mod {a b : Int} (h : 0 < b) (q : Q (.int (a % b)) H) : rModU (.int a) (.int b) H Q := ⟨h, q⟩
theorem g_div {a b : Int} (h : CDiv a b ∨ CDivW a b) (q : Q (.int (a / b)) H) : rDivU (.int a) (.int b) H Q := ⟨h, q⟩
theorem g_pow {a b : Int} (h : CPow a b) (q : Q (.int (a ^ b.toNat)) H) : rPowU (.int a) (.int b) H Q := ⟨h, q⟩
theorem g_cmp {g : Int → Int → V} {a b : Int} (q : Q (g a b) H) : rI0 g (.int a) (.int b) H Q := ⟨a, b, rfl, rfl, q⟩
theorem g_eqI {a b : Int} (q : Q (.bl (decide (a = b))) H) : rEqU K (.int a) (.int b) H Q := q
theorem g_eqS {a b : Str} (q : Q (.bl (decide (a = b))) H) : rEqU K (.str a) (.str b) H Q := q
theorem g_eqB {a b : Bool} (q : Q (.bl (decide (a = b))) H) : rEqU K (.bl a) (.bl b) H Q := q
theorem g_neI {a b : Int} (q : Q (.bl (!decide (a = b))) H) : rNeU K (.int a) (.int b) H Q := q
theorem g_neS {a b : Str} (q : Q (.bl (!decide (a = b))) H) : rNeU K (.str a) (.str b) H Q := q
theorem g_isN (q : Q (.bl (decide (x = .non))) H) : rIsU x .non H Q := q
theorem g_notN (q : Q (.bl (!decide (x = .non))) H) : rNotU x .non H Q := q
theorem g_isB {a b : Bool} (q : Q (.bl (decide (a = b))) H) : rIsU (.bl a) (.bl b) H Q := ⟨a, rfl, q⟩
theorem g_notB {a b : Bool} (q : Q (.bl (!decide (a = b))) H) : rNotU (.bl a) (.bl b) H Q := ⟨a, rfl, q⟩
theorem g_rep {p : Addr} {xs : List V} {k : Int} (h : H p = some (.lst xs)) (h1 : -(2 ^ 63) ≤ k) (h2 : k < 2 ^ 63) (z : xs.length * k.toNat ≤ sizeLine) (q : ∀ p, H p = none → Q (.ref p) (upd H p (.lst (List.replicate k.toNat xs).flatten))) : rMulU (.ref p) (.int k) H Q := ⟨p, k, xs, rfl, rfl, h, h1, h2, z, q⟩
theorem g_cat {a b : Addr} {xs zs : List V} (h : H a = some (.lst xs)) (g : H b = some (.lst zs)) (z : xs.length + zs.length ≤ sizeLine) (q : ∀ p, H p = none → Q (.ref p) (upd H p (.lst (xs ++ zs)))) : rAddU K (.ref a) (.ref b) H Q := .inl ⟨a, b, xs, zs, rfl, rfl, h, g, z, q⟩
theorem g_ninF {p : Addr} {xs : List V} (h : SqL K H p xs ∨ SqT K H p xs) (f : flatV x = true) (fs : xs.all flatV = true) (q : Q (.bl (!inV x xs)) H) : rIn K true x (.ref p) H Q := ⟨p, xs, rfl, h, f, fs, q⟩
theorem g_inF {p : Addr} {xs : List V} (h : SqL K H p xs ∨ SqT K H p xs) (f : flatV x = true) (fs : xs.all flatV = true) (q : Q (.bl (inV x xs)) H) : rIn K false x (.ref p) H Q := ⟨p, xs, rfl, h, f, fs, q⟩
theorem g_tupL {p : Addr} {xs : List V} (h : SqL K H p xs) (q : ∀ l, H l = none → Q (.ref l) (upd H l (.tup xs))) : rTupU K [.ref p] H Q := ⟨p, xs, rfl, .inl ⟨h, q⟩⟩
theorem g_listT {p : Addr} {ys : List V} (h : SqT K H p ys) (q : ∀ l, H l = none → Q (.ref l) (upd H l (.lst ys))) : rListU K [.ref p] H Q := ⟨p, ys, rfl, .inr h, q⟩
theorem g_ixL {p : Addr} {xs : List V} {j : Int} (h : SqL K H p xs) (e : atI xs j = some v) (q : Q v H) : rIx K (.ref p) (.int j) H Q := .inl ⟨p, xs, j, v, rfl, rfl, h, e, q⟩
theorem g_ixT {p : Addr} {xs : List V} {j : Int} (h : SqT K H p xs) (e : atI xs j = some v) (q : Q v H) : rIx K (.ref p) (.int j) H Q := .inr (.inl ⟨p, xs, j, v, rfl, rfl, h, e, q⟩)
theorem g_lenL {p : Addr} {xs : List V} (h : SqL K H p xs) (q : Q (.int (xs.length : Int)) H) : rLenU K [.ref p] H Q := ⟨_, _, rfl, .inl ⟨xs, h, rfl⟩, q⟩
theorem g_lenT {p : Addr} {xs : List V} (h : SqT K H p xs) (q : Q (.int (xs.length : Int)) H) : rLenU K [.ref p] H Q := ⟨_, _, rfl, .inr ⟨xs, h, rfl⟩, q⟩
theorem g_int {n : Int} (q : Q (.int n) H) : rInt1 [.int n] H Q := .inl ⟨n, rfl, q⟩
theorem g_intB {k : Bool} (q : Q (.int (if k then 1 else 0)) H) : rInt1 [.bl k] H Q := .inr ⟨k, rfl, q⟩
theorem g_setL {p : Addr} {xs : List V} {k : Int} {j : Nat} {QH : Hp → Prop} (h : H p = some (.lst xs)) (e : ixN xs.length k = some j) (q : QH (upd H p (.lst (xs.set j v)))) : rSetL (.ref p) (.int k) v H QH := ⟨p, xs, k, j, rfl, rfl, h, e, q⟩
theorem g_nil (q : QA [] H) : tNil σ H QA := q
theorem g_cons (q : te σ H fun x H1 => tr σ H1 fun xs H2 => QA (x :: xs) H2) : tCons te tr σ H QA := q
theorem g_cb {r : List V → Hp → VK → Prop} (q : tr σ H fun vs H1 => r vs H1 Q) : tCB r tr σ H Q := q
theorem g_tup (q : tr σ H fun xs H1 => xs.length ≤ sizeLine ∧ ∀ p, H1 p = none → Q (.ref p) (upd H1 p (.tup xs))) : tTup tr σ H Q := q
theorem g_lst (q : tr σ H fun xs H1 => xs.length ≤ sizeLine ∧ ∀ p, H1 p = none → Q (.ref p) (upd H1 p (.lst xs))) : tLst tr σ H Q := q
theorem g_test (q : te σ H fun x H' => ∃ k, x = .bl k ∧ QB k H') : tTest te σ H QB := q
theorem g_tB (q : te σ H fun x H' => ∃ k, x = .bl k ∧ QB k H') : tB te σ H QB := q
theorem g_bl {k : Bool} {P : Bool → Prop} (q : P k) : ∃ k', V.bl k = .bl k' ∧ P k' := ⟨k, rfl, q⟩
theorem g_not (q : c σ H fun b H1 => QB (!b) H1) : tNot c σ H QB := q
theorem g_and (q : c σ H fun b H1 => if b = true then cd σ H1 QB else QB false H1) : tAnd c cd σ H QB := q
theorem g_or (q : c σ H fun b H1 => if b = true then QB true H1 else cd σ H1 QB) : tOr c cd σ H QB := q
theorem g_if (q : c σ H fun b H1 => if b = true then t D σ H1 else u D σ H1) : tIfS c t u D σ H := q
theorem g_andV {ta tb : TE} (q : ta σ H fun x H1 => ∃ c, x = .bl c ∧ if c = true then tb σ H1 Q else Q (.bl false) H1) : tAndV ta tb σ H Q := q
theorem g_orV {ta tb : TE} (q : ta σ H fun x H1 => ∃ c, x = .bl c ∧ if c = true then Q (.bl true) H1 else tb σ H1 Q) : tOrV ta tb σ H Q := q
theorem g_notV {ta : TE} (q : ta σ H fun x H1 => ∃ c, x = .bl c ∧ Q (.bl (!c)) H1) : tNotV ta σ H Q := q
theorem g_ife (q : c σ H fun b H1 => if b = true then ta σ H1 Q else tb σ H1 Q) : tIf c ta tb σ H Q := q
theorem g_ite {p : Prop} [Decidable p] (h1 : p → A) (h2 : ¬ p → B) : if decide p = true then A else B := by
  by_cases h : p
  · rw [if_pos (decide_eq_true h)]; exact h1 h
  · rw [if_neg (by simp [h])]; exact h2 h
theorem g_iteN {p : Prop} [Decidable p] (h1 : ¬ p → A) (h2 : p → B) : if (!decide p) = true then A else B := by
  by_cases h : p
  · rw [if_neg (by simp [h])]; exact h2 h
  · rw [if_pos (by simp [h])]; exact h1 h
theorem g_iteB {b : Bool} (h1 : b = true → A) (h2 : b = false → B) : if b = true then A else B := by
  cases b
  · rw [if_neg Bool.false_ne_true]; exact h2 rfl
  · rw [if_pos rfl]; exact h1 rfl
theorem g_iteT {b : Bool} (h : b = true) (q : A) : if b = true then A else B := by rw [if_pos h]; exact q
theorem g_iteF {b : Bool} (h : b = false) (q : B) : if b = true then A else B := by rw [if_neg (by rw [h]; exact Bool.false_ne_true)]; exact q
theorem g_seq (q : t { D with nx := u D } σ H) : tSeq t u D σ H := q
theorem g_next (q : D.nx σ H) : tNext D σ H := q
theorem g_ret (q : te σ H D.rt) : tRet te D σ H := q
theorem g_retN (q : D.rt .non H) : tRetN D σ H := q
theorem g_drop (q : te σ H fun _ H1 => D.nx σ H1) : tDrop te D σ H := q
theorem g_asg (q : te σ H fun x H1 => D.nx (σ.set i (some x)) H1) : tAsg te (gName i) D σ H := q
theorem g_asgS {to ti : TE} {ts : TSet} (q : te σ H fun x H1 => to σ H1 fun o H2 => ti σ H2 fun k H3 => ts o k x H3 fun H4 => D.nx σ H4) : tAsg te (gSub to ti ts) D σ H := q
theorem g_seqA (q : te σ H fun x H1 => u D (σ.set i (some x)) H1) : tSeq (tAsg te (gName i)) u D σ H := q
theorem g_seqS {to ti : TE} {ts : TSet} (q : te σ H fun x H1 => to σ H1 fun o H2 => ti σ H2 fun k H3 => ts o k x H3 fun H4 => u D σ H4) : tSeq (tAsg te (gSub to ti ts)) u D σ H := q
theorem g_seqD (q : te σ H fun _ H1 => u D σ H1) : tSeq (tDrop te) u D σ H := q
theorem g_seqI {w : TS} (q : c σ H fun b H1 => if b = true then t { D with nx := w D } σ H1 else u { D with nx := w D } σ H1) : tSeq (tIfS c t u) w D σ H := q
theorem g_joinI {p : Prop} [Decidable p] {v0 : V} (Rv : V → Prop) (h0 : σ[i]? = some (some v0)) (ht : p → ∀ Q : VK, (∀ x, Rv x → Q x H) → te σ H Q) (hf : ¬ p → Rv v0) (rest : ∀ x, Rv x → u D (σ.set i (some x)) H) :
    if decide p = true then tAsg te (gName i) { D with nx := u D } σ H else tNext { D with nx := u D } σ H := by
  refine g_ite (fun h => ht h _ fun x r => rest x r) (fun h => ?_)
  have e : σ.set i (some v0) = σ := by
    apply List.ext_getElem? 
    intro j
    by_cases hj : i = j
    · subst hj
      rw [h0]
      have hl : i < σ.length := (List.getElem?_eq_some_iff.mp h0).1
      simp [hl]
    · rw [List.getElem?_set_ne hj]
  have := rest v0 (hf h)
  rw [e] at this
  exact this
theorem g_truth (q : te σ H fun x H' => ∃ k, TruV K x H' k ∧ QB k H') : tTruK K te σ H QB := q
theorem g_call {sp : Sp} {dvs : List V} (q : tr σ H fun vs H1 => sp (vs ++ dvs) H1 Q E) : tCall sp dvs E tr σ H Q := q
/-- o.f, by values -/
def FldW (K : PySem.W.Frag) (x : V) (f : Str) (H : Hp) (Q : VK) : Prop := ∃ a C dx fs v, x = .ref a ∧ H a = some (.ins C dx fs) ∧ Cls K C ∧ NoAttr K C f ∧ fs.lookup f = some v ∧ Q v H
theorem g_fld {f : Str} (q : te σ H fun x H1 => FldW K x f H1 Q) : tFld K te f σ H Q := q
theorem g_fldW {a C dx : Addr} {fs : List (Str × V)} {f : Str} (h : H a = some (.ins C dx fs)) (c : Cls K C) (n : NoAttr K C f) (l : fs.lookup f = some v) (q : Q v H) : FldW K (.ref a) f H Q := ⟨a, C, dx, fs, v, rfl, h, c, n, l, q⟩
/-- o.f = y, by values -/
def SetW (K : PySem.W.Frag) (x y : V) (f : Str) (H : Hp) (QH : Hp → Prop) : Prop := ∃ a C dx fs, x = .ref a ∧ H a = some (.ins C dx fs) ∧ Cls K C ∧ NoAttr K C f ∧ fs.length < 1000 ∧ QH (upd H a (.ins C dx (putF f y fs)))
theorem g_sfld {f : Str} (q : ta σ H fun y H1 => te σ H1 fun x H2 => SetW K x y f H2 fun H3 => D.nx σ H3) : sFld K te ta f D σ H := q
theorem g_seqF {f : Str} (q : ta σ H fun y H1 => te σ H1 fun x H2 => SetW K x y f H2 fun H3 => u D σ H3) : tSeq (sFld K te ta f) u D σ H := q
theorem g_setW {a C dx : Addr} {fs : List (Str × V)} {f : Str} {QH : Hp → Prop} (h : H a = some (.ins C dx fs)) (c : Cls K C) (n : NoAttr K C f) (z : fs.length < 1000) (q : QH (upd H a (.ins C dx (putF f y fs)))) : SetW K (.ref a) y f H QH := ⟨a, C, dx, fs, rfl, h, c, n, z, q⟩
/-- a method of a list, of another built-in type -/
theorem g_bm {ty : String} {r : V → List V → Hp → VK → Prop} (q : te σ H fun x H1 => tyV K ty x H1 ∧ tr σ H1 fun xs H2 => r x xs H2 Q) : tBM K ty r te tr σ H Q := q
theorem g_bm0 {ty : String} {r : V → List V → Hp → VK → Prop} (q : te σ H fun x H1 => tyV K ty x H1 ∧ r x [] H1 Q) : tBM0 K ty r te σ H Q := q
theorem g_tyL {p : Addr} {xs : List V} {P : Prop} (h : H p = some (.lst xs)) (q : P) : tyV K "list" (.ref p) H ∧ P := ⟨.inl ⟨rfl, _, SqL.of h⟩, q⟩
theorem g_app {p : Addr} {xs : List V} (h : H p = some (.lst xs)) (z : xs.length < sizeLine) (q : Q .non (upd H p (.lst (xs ++ [v])))) : rAppend (.ref p) [v] H Q := ⟨p, xs, v, rfl, rfl, h, z, q⟩
def MW (C : Addr) (m : Str) (x : V) (H : Hp) (P : Prop) : Prop := ∃ a dx fs, x = .ref a ∧ H a = some (.ins C dx fs) ∧ fs.lookup m = none ∧ P
theorem g_meth {C : Addr} {m : Str} {sp : Sp} {dvs : List V} (q : te σ H fun x H1 => MW C m x H1 (tr σ H1 fun vs H2 => sp (x :: (vs ++ dvs)) H2 Q E)) : tMeth C m sp dvs E te tr σ H Q := q
theorem g_MW {C a dx : Addr} {fs : List (Str × V)} {m : Str} {P : Prop} (h : H a = some (.ins C dx fs)) (l : fs.lookup m = none) (q : P) : MW C m (.ref a) H P := ⟨a, dx, fs, rfl, h, l, q⟩
/-- C(..) -/
theorem g_make {C : Addr} {sp : Sp} {dvs : List V} (q : tr σ H fun vs H1 => ∀ x dx, H1 x = none → H1 dx = none → dx ≠ x →
  sp (.ref x :: (vs ++ dvs)) (upd (upd H1 dx (.own x)) x (.ins C dx [])) (fun v H2 => v = .non ∧ Q (.ref x) H2) E) : tMake C sp dvs E tr σ H Q := q
theorem g_sl {r : V → Option Int → Option Int → Hp → VK → Prop} {tl th : TO} (q : te σ H fun x H1 => tl σ H1 fun l H2 => th σ H2 fun u H3 => r x l u H3 Q) : tSl r te tl th σ H Q := q
def PartW (x : V) (H : Hp) (Q : Option Int → Hp → Prop) : Prop := ∃ i, x = .int i ∧ Q (some i) H
theorem g_part {QO : Option Int → Hp → Prop} (q : te σ H fun x H1 => PartW x H1 QO) : tPart te σ H QO := q
theorem g_partW {QO : Option Int → Hp → Prop} {n : Int} (q : QO (some n) H) : PartW (.int n) H QO := ⟨n, rfl, q⟩
theorem g_noPart {QO : Option Int → Hp → Prop} (q : QO none H) : tNoPart σ H QO := q
theorem g_slL {p : Addr} {xs : List V} {lo hi : Option Int} (h : SqL K H p xs) (q : ∀ p, H p = none → Q (.ref p) (upd H p (.lst (cutV xs lo hi)))) : rSlU K (.ref p) lo hi H Q := .inl ⟨p, xs, rfl, h, q⟩
/-! loops: what is walked, then the loop's own question -/
def ForW (J : It) (g : TG) (tb : TS) (D : Ends) (σ : St) (H1 : Hp) : Prop := ∃ W : Nat → Nat → St → Hp → Prop, (∃ m, W 0 m σ H1) ∧ ∀ i m σ H, W i m σ H →
  (J.stop i H ∧ D.nx σ H) ∨ (J.go i H ∧ ∃ N : St → Hp → Prop, (∀ σ' H', N σ' H' → ∃ m', m' < m ∧ W (i + 1) m' σ' H') ∧ ∀ x H', J.yld i H x H' → g x σ H' fun σ2 H2 => tb { D with nx := N, ct := N, bk := D.nx } σ2 H2)
theorem g_for {wi : TI} {g : TG} {tb : TS} (q : wi σ H fun J H1 => ForW J g tb D σ H1) : tFor wi g tb D σ H := q
theorem g_seqFor {wi : TI} {g : TG} {tb : TS} (q : wi σ H fun J H1 => ForW J g tb { D with nx := u D } σ H1) : tSeq (tFor wi g tb) u D σ H := q
def LcW (J : It) (g : TG) (tt : TT) (te : TE) (vs : List Nat) (σ : St) (Q : VK) (H1 : Hp) : Prop := ∀ D, H1 D = none → ∃ W : Nat → Nat → Hp → Prop, (∃ m, W 0 m (upd H1 D (.lst []))) ∧ ∀ i m H, W i m H →
  (J.stop i H ∧ Q (.ref D) H) ∨ (J.go i H ∧ ∃ Nx : Hp → Prop, (∀ H', Nx H' → ∃ m', m' < m ∧ W (i + 1) m' H') ∧ ∀ x H', J.yld i H x H' → g x (wipe σ vs) H' fun σ2 H2 => wipe σ2 vs = wipe σ vs ∧ tt σ2 H2 fun b H3 =>
    if b = true then te σ2 H3 fun y H4 => ∃ acc, H4 D = some (.lst acc) ∧ acc.length < sizeLine ∧ Nx (upd H4 D (.lst (acc ++ [y]))) else Nx H3)
theorem g_lc {wi : TI} {g : TG} {tt : TT} {vs : List Nat} (q : wi σ H fun J H1 => LcW J g tt te vs σ Q H1) : tLc wi g tt te vs σ H Q := q
def LsW (K : PySem.W.Frag) (x : V) (H : Hp) (R : It → Hp → Prop) : Prop := ∃ a, x = .ref a ∧ (∃ xs, SqL K H a xs) ∧ R (Itl K a) H
theorem g_iList {R : It → Hp → Prop} (q : te σ H fun x H1 => LsW K x H1 R) : iList K te σ H R := q
theorem g_LsW {R : It → Hp → Prop} {a : Addr} {xs : List V} (h : SqL K H a xs) (q : R (Itl K a) H) : LsW K (.ref a) H R := ⟨a, rfl, ⟨xs, h⟩, q⟩
def R1W (vs : List V) (H : Hp) (R : It → Hp → Prop) : Prop := ∃ j : Int, vs = [.int j] ∧ -(2 ^ 62) ≤ j ∧ j < 2 ^ 62 ∧ R (Itr 0 j.toNat) H
theorem g_iR1 {R : It → Hp → Prop} (q : tr σ H fun vs H1 => R1W vs H1 R) : iRng1 tr σ H R := q
theorem g_R1W {R : It → Hp → Prop} {n : Nat} {j : Int} (e : j = (n : Int)) (h : n ≤ 100000) (q : R (Itr 0 n) H) : R1W [.int j] H R := by subst e; exact ⟨n, rfl, by omega, by omega, q⟩
def R2W (vs : List V) (H : Hp) (R : It → Hp → Prop) : Prop := ∃ i j : Int, vs = [.int i, .int j] ∧ (-(2 ^ 62) ≤ i ∧ i < 2 ^ 62 ∧ -(2 ^ 62) ≤ j ∧ j < 2 ^ 62) ∧ R (Itr i (j - i).toNat) H
theorem g_iR2 {R : It → Hp → Prop} (q : tr σ H fun vs H1 => R2W vs H1 R) : iRng2 tr σ H R := q
def RvW (K : PySem.W.Frag) (v : V) (H : Hp) (R : It → Hp → Prop) : Prop := ∃ (a : Addr) (xs : List V), v = .ref a ∧ ((SqL K H a xs ∧ R (Itv K a xs.length) H) ∨ (SqT K H a xs ∧ R (RT.ItvT K a xs.length) H))
theorem g_iRev {te : TE} {R : It → Hp → Prop} (q : te σ H fun v H1 => RvW K v H1 R) : RT.iRevA K te σ H R := q
theorem g_ext {l b : Addr} {xs zs : List V} (h : H l = some (.lst xs)) (g : H b = some (.lst zs)) (z : xs.length + zs.length ≤ sizeLine) (q : Q .non (upd H l (.lst (xs ++ zs)))) : rExtend (.ref l) [.ref b] H Q := ⟨l, b, xs, zs, rfl, rfl, h, g, z, q⟩
theorem g_slT {p : Addr} {xs : List V} {lo hi : Option Int} (h : SqT K H p xs) (w : ¬ (HT.sIx xs.length 0 lo = 0 ∧ HT.sIx xs.length xs.length hi = xs.length)) (q : ∀ p, H p = none → Q (.ref p) (upd H p (.tup (cutV xs lo hi)))) : rSlU K (.ref p) lo hi H Q := .inr ⟨p, xs, rfl, h, w, q⟩
theorem g_max {a : Addr} {ns : List Int} (h : SqL K H a (ns.map V.int)) (z : 0 < ns.length) (q : ∀ m, m ∈ ns → (∀ y, y ∈ ns → y ≤ m) → Q (.int m) H) : rMax K [.ref a] H Q := ⟨a, ns, rfl, h, z, q⟩
theorem inV_ints (i : Int) : ∀ l : List Int, inV (.int i) (l.map V.int) = decide (i ∈ l)
  | [] => by simp [inV]
  | n :: r => by
    have h := inV_ints i r
    unfold inV at h ⊢
    rw [List.map_cons, List.any_cons, h]
    rw [show eqV (.int n) (.int i) = decide (i = n) by rw [eqV, Bool.eq_iff_iff, beq_iff_eq, decide_eq_true_iff]; exact eq_comm]
    by_cases e : i = n <;> by_cases f : i ∈ r <;> simp [e, f]
theorem flat_ints (l : List Int) : (l.map V.int).all flatV = true := by
  induction l with
  | nil => rfl
  | cons n r ih => rw [List.map_cons, List.all_cons, ih]; rfl
theorem g_gName {QG : St → Hp → Prop} (q : QG (σ.set i (some v)) H) : gName i v σ H QG := q
end
end Sk

namespace Sk
open PySem L2
/-! ### what is read for ever (R) within what is tracked (H) -/
structure Gr (M : List Addr) (R H R' H' : Hp) : Prop where
  rr : Same R R'
  rh : Same R' H'
  hh : ∀ a o, a ∉ M → H a = some o → H' a = some o
  fr : ∀ b o, H b = some o → R b = none → R' b = none
  th : ∀ b o, H b = some o → ∃ o', H' b = some o'
section
variable {M : List Addr} {R H R1 H1 R2 H2 : Hp} {p : Addr} {o : HO} {Q : VK} {K : PySem.W.Frag}
theorem Gr.refl (h : Same R H) : Gr M R H R H := ⟨Same.refl _, h, fun _ _ _ e => e, fun _ _ _ e => e, fun _ o e => ⟨o, e⟩⟩
theorem Gr.trans (a : Gr M R H R1 H1) (b : Gr M R1 H1 R2 H2) : Gr M R H R2 H2 :=
  ⟨a.rr.trans b.rr, b.rh, fun c o m e => b.hh c o m (a.hh c o m e), fun c o e n => let ⟨o', e'⟩ := a.th c o e; b.fr c o' e' (a.fr c o e n), fun c o e => let ⟨o', e'⟩ := a.th c o e; b.th c o' e'⟩
theorem Gr.mono {M' : List Addr} (a : Gr M R H R1 H1) (h : ∀ x ∈ M, x ∈ M') : Gr M' R H R1 H1 := ⟨a.rr, a.rh, fun c o m e => a.hh c o (fun z => m (h _ z)) e, a.fr, a.th⟩
theorem Gr.nil (a : Gr [] R H R1 H1) : Gr M R H R1 H1 := a.mono fun _ z => nomatch z
theorem Gr.same (a : Gr [] R H R1 H1) : Same H H1 := fun b o e => a.hh b o (by simp) e
theorem Gr.free (a : Gr M R H R1 H1) (h : H1 p = none) : H p = none := by
  cases e : H p with
  | none => rfl
  | some o => obtain ⟨o', e'⟩ := a.th p o e; rw [h] at e'; cases e'
/-- an object that changes is behind all changes still one that is not read for ever -/
theorem Gr.mut (h : Same R H) (n : R p = none) (e : H p = some o) {o' : HO} : Gr [p] R H R (upd H p o') := by
  refine ⟨Same.refl _, fun b u q => ?_, fun b u m q => ?_, fun _ _ _ q => q, fun b u q => ?_⟩
  · rw [upd_ne (ne_of_none q n)]; exact h b u q
  · rw [upd_ne (by simpa using m)]; exact q
  · by_cases hb : b = p
    · subst hb; exact ⟨o', upd_same⟩
    · exact ⟨u, by rw [upd_ne hb]; exact q⟩
theorem Same.free' (h : Same R H) (n : H p = none) : R p = none := h.free n
theorem Gr.newR (h : Same R H) (n : H p = none) : Gr M R H (upd R p o) (upd H p o) := by
  refine ⟨fun b u q => ?_, fun b u q => ?_, fun b u _ q => ?_, fun b u q m => ?_, fun b u q => ⟨u, ?_⟩⟩
  · rw [upd_ne (ne_of_none q (h.free n))]; exact q
  · by_cases hb : b = p
    · subst hb; rw [upd_same] at q ⊢; exact q
    · rw [upd_ne hb] at q ⊢; exact h b u q
  · rw [upd_ne (ne_of_none q n)]; exact q
  · rw [upd_ne (ne_of_none q n)]; exact m
  · rw [upd_ne (ne_of_none q n)]; exact q
theorem Gr.newM (h : Same R H) (n : H p = none) : Gr M R H R (upd H p o) := by
  refine ⟨Same.refl _, fun b u q => ?_, fun b u _ q => ?_, fun _ _ _ m => m, fun b u q => ⟨u, ?_⟩⟩
  · rw [upd_ne (ne_of_none (h b u q) n)]; exact h b u q
  · rw [upd_ne (ne_of_none q n)]; exact q
  · rw [upd_ne (ne_of_none q n)]; exact q
/-- not tracked (a word of its own, so that a search finds the heap) -/
def Free (H : Hp) (p : Addr) : Prop := H p = none
theorem Free.ne {a b : Addr} {o : HO} (n : Free H b) (h : H a = some o) : a ≠ b := ne_of_none h n
theorem Gr.frI (a : Gr M R H R1 H1) {b : Addr} {o : HO} (h : H b = some o) (n : R b = none) : R1 b = none := a.fr b o h n
theorem newR_ex {H1 : Hp} (h : Same R H) (n : H p = none) (q : upd H p o = H1) : ∃ R1, Free H p ∧ Gr [] R H R1 H1 ∧ R1 p = some o ∧ Same R1 H1 := by
  subst q
  exact ⟨upd R p o, n, .newR h n, upd_same, (Gr.newR (M := []) h n).rh⟩
/-- the same, R unchanged (kept apart so that a search along R does not run in a circle) -/
structure Mu (M : List Addr) (R H H1 : Hp) : Prop where
  g : Gr M R H R H1
theorem newM_ex {H1 : Hp} (h : Same R H) (n : H p = none) (q : upd H p o = H1) : Free H p ∧ Mu [] R H H1 ∧ R p = none ∧ H1 p = some o ∧ Same R H1 := by
  subst q
  exact ⟨n, ⟨.newM h n⟩, h.free n, upd_same, (Gr.newM (M := []) h n).rh⟩
theorem mut_ex {H1 : Hp} {o' : HO} (h : Same R H) (n : R p = none) (e : H p = some o) (q : upd H p o' = H1) : Mu [p] R H H1 ∧ H1 p = some o' ∧ Same R H1 := by
  subst q
  exact ⟨⟨.mut h n e⟩, upd_same, (Gr.mut h n e).rh⟩
theorem allocR (h : Same R H) (k : ∀ p R' H', Gr [] R H R' H' → R' p = some o → H p = none → Q (.ref p) H') : ∀ p, H p = none → Q (.ref p) (upd H p o) :=
  fun p n => k p (upd R p o) _ (.newR h n) upd_same n
theorem allocM (h : Same R H) (k : ∀ p H', Gr [] R H R H' → H p = none → R p = none → H' p = some o → Q (.ref p) H') : ∀ p, H p = none → Q (.ref p) (upd H p o) :=
  fun p n => k p _ (.newM h n) n (h.free n) upd_same
theorem Same.rd {H H' : Hp} (e : Same H H') {a : Addr} {u : HO} (h : Rd H a u) : Rd H' a u := by
  rcases h with h | ⟨o, h⟩
  · exact .inl (e _ _ h)
  · exact .inr ⟨o, e _ _ h⟩
theorem sqT_mono {H H' : Hp} {a : Addr} {xs : List V} (e : Same H H') (h : SqT K H a xs) : SqT K H' a xs := by
  rcases h with h | h
  · exact .inl (Same.rd e h)
  · exact .inr h
theorem sqL_mono {H H' : Hp} {a : Addr} {xs : List V} (e : Same H H') (h : SqL K H a xs) : SqL K H' a xs := e.seq h
mutual
theorem dp_mono {H H' : Hp} (e : Same H H') : ∀ {d : PyData} {v : V}, Dp K H v d → Dp K H' v d
  | .none, _, h => by cases h; exact .non
  | .bool b, _, h => by cases h; exact .bl b
  | .int i, _, h => by cases h; exact .int i
  | .str x, _, h => by cases h; exact .str x
  | .list ds, _, h => by cases h with | lst a b => exact .lst (sqL_mono e a) (dpAll_mono e b)
  | .tuple ds, _, h => by cases h with | tup a b => exact .tup (sqT_mono e a) (dpAll_mono e b)
  | .dict _, _, h => by cases h
theorem dpAll_mono {H H' : Hp} (e : Same H H') : ∀ {ds : List PyData} {vs : List V}, DpAll K H vs ds → DpAll K H' vs ds
  | [], _, h => by cases h; exact .nil
  | d :: ds, _, h => by cases h with | cons a b => exact .cons (dp_mono e a) (dpAll_mono e b)
end
theorem dpAll_len : ∀ {ds : List PyData} {vs : List V}, DpAll K H vs ds → vs.length = ds.length
  | [], _, h => by cases h; rfl
  | d :: ds, _, h => by cases h with | cons a b => simp [dpAll_len b]
theorem dpAll_get : ∀ {ds : List PyData} {vs : List V} {i : Nat} {d : PyData}, DpAll K H vs ds → ds[i]? = some d → ∃ v, vs[i]? = some v ∧ Dp K H v d
  | [], _, _, _, _, e => by simp at e
  | d :: ds, _, 0, d', h, e => by cases h with | cons a b => simp at e; subst e; exact ⟨_, rfl, a⟩
  | d :: ds, _, i + 1, d', h, e => by
    cases h with
    | cons a b =>
      obtain ⟨v, q, r⟩ := dpAll_get (i := i) b (by simpa using e)
      exact ⟨v, by simpa using q, r⟩
theorem dpAll_get' : ∀ {ds : List PyData} {vs : List V} {i : Nat} {v : V}, DpAll K H vs ds → vs[i]? = some v → ∃ d, ds[i]? = some d ∧ Dp K H v d
  | [], _, _, _, h, e => by cases h; simp at e
  | d :: ds, _, 0, v', h, e => by cases h with | cons a b => simp at e; subst e; exact ⟨_, rfl, a⟩
  | d :: ds, _, i + 1, v', h, e => by
    cases h with
    | cons a b =>
      obtain ⟨v, q, r⟩ := dpAll_get' (i := i) b (by simpa using e)
      exact ⟨v, by simpa using q, r⟩
theorem dpAll_app : ∀ {ds es : List PyData} {vs us : List V}, DpAll K H vs ds → DpAll K H us es → DpAll K H (vs ++ us) (ds ++ es)
  | [], _, _, _, h, g => by cases h; exact g
  | d :: ds, _, _, _, h, g => by cases h with | cons a b => exact .cons a (dpAll_app b g)
theorem dpAll_take : ∀ {ds : List PyData} {vs : List V} (n : Nat), DpAll K H vs ds → DpAll K H (vs.take n) (ds.take n)
  | _, _, 0, _ => by simpa using DpAll.nil
  | [], _, n + 1, h => by cases h; simpa using DpAll.nil
  | d :: ds, _, n + 1, h => by cases h with | cons a b => simpa using DpAll.cons a (dpAll_take n b)
theorem dpAll_drop : ∀ {ds : List PyData} {vs : List V} (n : Nat), DpAll K H vs ds → DpAll K H (vs.drop n) (ds.drop n)
  | _, _, 0, h => by simpa using h
  | [], _, n + 1, h => by cases h; simpa using DpAll.nil
  | d :: ds, _, n + 1, h => by cases h with | cons a b => simpa using dpAll_drop n b
theorem dpAll_set : ∀ {ds : List PyData} {vs : List V} (i : Nat) {v : V} {d : PyData}, DpAll K H vs ds → Dp K H v d → DpAll K H (vs.set i v) (ds.set i d)
  | [], _, i, _, _, h, _ => by cases h; simpa using DpAll.nil
  | d :: ds, _, 0, _, _, h, g => by cases h with | cons a b => simpa using DpAll.cons g b
  | d :: ds, _, i + 1, _, _, h, g => by cases h with | cons a b => simpa using DpAll.cons a (dpAll_set i b g)
theorem dpAll_ints : ∀ (ns : List Int), DpAll K H (ns.map V.int) (ns.map PyData.int)
  | [] => .nil
  | n :: ns => .cons (.int n) (dpAll_ints ns)
theorem dpAll_cut {ds : List PyData} {vs : List V} (h : DpAll K H vs ds) (lo hi : Option Int) :
    DpAll K H (cutV vs lo hi) ((ds.drop (HT.sIx ds.length 0 lo)).take (HT.sIx ds.length ds.length hi - HT.sIx ds.length 0 lo)) := by
  unfold cutV
  rw [dpAll_len h]
  exact dpAll_take _ (dpAll_drop _ h)
theorem dp_list {v : V} {ds : List PyData} (h : Dp K H v (.list ds)) : ∃ a vs, v = .ref a ∧ SqL K H a vs ∧ DpAll K H vs ds := by
  cases h with | lst a b => exact ⟨_, _, rfl, a, b⟩
theorem dp_tup {v : V} {ds : List PyData} (h : Dp K H v (.tuple ds)) : ∃ a vs, v = .ref a ∧ SqT K H a vs ∧ DpAll K H vs ds := by
  cases h with | tup a b => exact ⟨_, _, rfl, a, b⟩
theorem dp_int {v : V} {i : Int} (h : Dp K H v (.int i)) : v = .int i := by cases h; rfl
theorem dp_str {v : V} {i : Str} (h : Dp K H v (.str i)) : v = .str i := by cases h; rfl
theorem dp_non {v : V} (h : Dp K H v .none) : v = .non := by cases h; rfl
end
/-! ### equal data -/
mutual
/-- no bools, no dicts -/
def clean : PyData → Bool
  | .none | .int _ | .str _ => true
  | .bool _ | .dict _ => false
  | .list xs | .tuple xs => cleanAll xs
def cleanAll : List PyData → Bool
  | [] => true
  | x :: xs => clean x && cleanAll xs
end
mutual
theorem eqv_iff : ∀ {d e : PyData}, clean d = true → clean e = true → (PyData.eqv d e = true ↔ d = e)
  | .none, e, _, he => by cases e <;> simp_all [PyData.eqv, clean]
  | .int i, e, _, he => by cases e <;> simp_all [PyData.eqv, clean]
  | .str i, e, _, he => by cases e <;> simp_all [PyData.eqv, clean]
  | .bool i, e, hd, _ => by simp [clean] at hd
  | .dict i, e, hd, _ => by simp [clean] at hd
  | .list xs, e, hd, he => by
    cases e with
    | list ys => rw [PyData.eqv, eqvAll_iff (by simpa [clean] using hd) (by simpa [clean] using he)]; simp
    | _ => simp_all [PyData.eqv, clean]
  | .tuple xs, e, hd, he => by
    cases e with
    | tuple ys => rw [PyData.eqv, eqvAll_iff (by simpa [clean] using hd) (by simpa [clean] using he)]; simp
    | _ => simp_all [PyData.eqv, clean]
theorem eqvAll_iff : ∀ {ds es : List PyData}, cleanAll ds = true → cleanAll es = true → (PyData.eqvAll ds es = true ↔ ds = es)
  | [], [], _, _ => by simp [PyData.eqvAll]
  | [], e :: es, _, _ => by simp [PyData.eqvAll]
  | d :: ds, [], _, _ => by simp [PyData.eqvAll]
  | d :: ds, e :: es, hd, he => by
    have hd' : clean d = true ∧ cleanAll ds = true := by simpa [cleanAll] using hd
    have he' : clean e = true ∧ cleanAll es = true := by simpa [cleanAll] using he
    rw [PyData.eqvAll, Bool.and_eq_true, eqv_iff hd'.1 he'.1, eqvAll_iff hd'.2 he'.2]; simp
end
/-! ### enumerate -/
theorem for_enum {K : PySem.W.Frag} {a : Addr} {xs : List V} {g : TG} {tb : TS} {D : Ends} {σ : St} {H : Hp} (Pv : Nat → St → Hp → Prop) (h0 : Pv 0 σ H) (hl : ∀ i σ H, i ≤ xs.length → Pv i σ H → SqL K H a xs)
    (hs : ∀ i x T σ H, xs[i]? = some x → Pv i σ H → H T = none → g (.ref T) σ (upd H T (.tup [.int ((i : Nat) : Int), x])) fun σ2 H2 => tb { D with nx := Pv (i + 1), ct := Pv (i + 1), bk := D.nx } σ2 H2) (hd : ∀ σ H, Pv xs.length σ H → D.nx σ H) :
    ∃ W : Nat → Nat → St → Hp → Prop, (∃ m, W 0 m σ H) ∧ ∀ i m σ H, W i m σ H →
      ((Ite K a).stop i H ∧ D.nx σ H) ∨ ((Ite K a).go i H ∧ ∃ N : St → Hp → Prop, (∀ σ' H', N σ' H' → ∃ m', m' < m ∧ W (i + 1) m' σ' H') ∧ ∀ x H', (Ite K a).yld i H x H' → g x σ H' fun σ2 H2 => tb { D with nx := N, ct := N, bk := D.nx } σ2 H2) := by
  refine ⟨fun i m σ H => m = xs.length - i ∧ i ≤ xs.length ∧ Pv i σ H, ⟨xs.length, by simp, Nat.zero_le _, h0⟩, ?_⟩
  rintro i m σ H ⟨rfl, hi, p⟩
  have q := hl i σ H hi p
  by_cases hlt : i < xs.length
  · refine .inr ⟨⟨xs, xs[i], q, by simp [hlt]⟩, Pv (i + 1), fun σ' H' p' => ⟨xs.length - (i + 1), by omega, rfl, hlt, p'⟩, fun x H' y => ?_⟩
    obtain ⟨T, x, rfl, hT, rfl, y⟩ := y
    exact hs i x T σ _ (y xs q) p hT
  · have e : i = xs.length := by omega
    subst e
    exact .inl ⟨⟨xs, q, Nat.le_refl _⟩, hd σ H p⟩
theorem shaped_list {ds : List PyData} (h : ∀ d ∈ ds, d.canLay0 = true ∧ d.depth ≤ 60) : PySem.SeqAt.shaped (.list ds) = true := by
  have h1 : ∀ (l : List PyData), (∀ d ∈ l, d.canLay0 = true ∧ d.depth ≤ 60) → PyData.canLayAll0 l = true ∧ PyData.depthAll l ≤ 60 := by
    intro l
    induction l with
    | nil => intro _; exact ⟨by simp [PyData.canLayAll0], by simp [PyData.depthAll]⟩
    | cons d r ih =>
      intro h
      obtain ⟨a, b⟩ := ih fun d m => h d (List.mem_cons_of_mem _ m)
      obtain ⟨c, e⟩ := h d List.mem_cons_self
      exact ⟨by rw [PyData.canLayAll0, c, a]; rfl, by rw [PyData.depthAll]; omega⟩
  obtain ⟨a, b⟩ := h1 ds h
  unfold PySem.SeqAt.shaped
  rw [PyData.canLay0, a, Bool.true_and, decide_eq_true_eq, PyData.depth]
  omega
def EnW (K : PySem.W.Frag) (vs : List V) (H : Hp) (R : It → Hp → Prop) : Prop := ∃ a xs, vs = [.ref a] ∧ SqL K H a xs ∧ R (Ite K a) H
theorem g_iEnum {K : PySem.W.Frag} {σ : St} {H : Hp} {tr : TA} {R : It → Hp → Prop} (q : tr σ H fun vs H1 => EnW K vs H1 R) : iEnum K tr σ H R := q
theorem g_EnW {K : PySem.W.Frag} {H : Hp} {R : It → Hp → Prop} {a : Addr} {xs : List V} (h : SqL K H a xs) (q : R (Ite K a) H) : EnW K [.ref a] H R := ⟨a, xs, rfl, h, q⟩
theorem dpAll_cons {K : PySem.W.Frag} {H : Hp} {us : List V} {d : PyData} {ds : List PyData} (h : DpAll K H us (d :: ds)) : ∃ v vs, us = v :: vs ∧ Dp K H v d ∧ DpAll K H vs ds := by cases h with | cons a b => exact ⟨_, _, rfl, a, b⟩
theorem dpAll_nil {K : PySem.W.Frag} {H : Hp} {us : List V} (h : DpAll K H us []) : us = [] := by cases h; rfl
theorem dpT1 {K : PySem.W.Frag} {H : Hp} {v : V} {d : PyData} (h : Dp K H v (.tuple [d])) : ∃ a x, v = .ref a ∧ SqT K H a [x] ∧ Dp K H x d := by
  obtain ⟨a, us, rfl, hs, hu⟩ := dp_tup h
  obtain ⟨x, us, rfl, hx, hu⟩ := dpAll_cons hu
  obtain rfl := dpAll_nil hu
  exact ⟨a, x, rfl, hs, hx⟩
theorem dpT2 {K : PySem.W.Frag} {H : Hp} {v : V} {d e : PyData} (h : Dp K H v (.tuple [d, e])) : ∃ a x y, v = .ref a ∧ SqT K H a [x, y] ∧ Dp K H x d ∧ Dp K H y e := by
  obtain ⟨a, us, rfl, hs, hu⟩ := dp_tup h
  obtain ⟨x, us, rfl, hx, hu⟩ := dpAll_cons hu
  obtain ⟨y, us, rfl, hy, hu⟩ := dpAll_cons hu
  obtain rfl := dpAll_nil hu
  exact ⟨a, x, y, rfl, hs, hx, hy⟩
theorem dpT3 {K : PySem.W.Frag} {H : Hp} {v : V} {d e f : PyData} (h : Dp K H v (.tuple [d, e, f])) : ∃ a x y z, v = .ref a ∧ SqT K H a [x, y, z] ∧ Dp K H x d ∧ Dp K H y e ∧ Dp K H z f := by
  obtain ⟨a, us, rfl, hs, hu⟩ := dp_tup h
  obtain ⟨x, us, rfl, hx, hu⟩ := dpAll_cons hu
  obtain ⟨y, us, rfl, hy, hu⟩ := dpAll_cons hu
  obtain ⟨z, us, rfl, hz, hu⟩ := dpAll_cons hu
  obtain rfl := dpAll_nil hu
  exact ⟨a, x, y, z, rfl, hs, hx, hy, hz⟩
/-! ### isinstance -/
theorem callIsU {X : Cx} {K : PySem.W.Frag} (hK : X.K = K := by rfl) : CallR X (.builtin "isinstance") (rIsi K) := hK ▸ call_isi
theorem ty_tup {K : PySem.W.Frag} {H : Hp} {a : Addr} {xs : List V} (h : SqT K H a xs) : TyX K H (.ref a) (.type "tuple") := by
  rcases h with (h | ⟨o, h⟩) | ⟨o, its, n, hk, hc, _⟩
  · exact .base (.tup h)
  · exact .fTuple h
  · exact .kTuple hk hc
theorem ty_lst {K : PySem.W.Frag} {H : Hp} {a : Addr} {xs : List V} (h : SqL K H a xs) : TyX K H (.ref a) (.type "list") := by
  rcases h with (h | ⟨o, h⟩) | ⟨o, its, n, hk, hc, _⟩
  · exact .base (.lst h)
  · exact .base (.frz h)
  · exact .kList hk hc
theorem g_isi {K : PySem.W.Frag} {H : Hp} {Q : VK} {x : V} {n : String} {t : Value} {b : Bool} (ty : TyX K H x t) (e : PySem.W.kitOne K t (.type n) = some b) (q : Q (.bl b) H) : rIsi K [x, .ty n] H Q := ⟨x, .ty n, t, _, b, rfl, .ty n, ty, e, q⟩
theorem g_yes {σ : St} {H : Hp} {QB : Bool → Hp → Prop} (q : QB true H) : tYes σ H QB := q
theorem g_listL {K : PySem.W.Frag} {H : Hp} {Q : VK} {p : Addr} {ys : List V} (h : SqL K H p ys) (q : ∀ l, H l = none → Q (.ref l) (upd H l (.lst ys))) : rListU K [.ref p] H Q := ⟨p, ys, rfl, .inl h, q⟩
theorem g_seqIP {w t u : TS} {c : TT} {D : Ends} {σ : St} {H : Hp} (P : St → Hp → Prop) (hw : ∀ σ H, P σ H → w D σ H) (q : (∀ σ H, P σ H → w D σ H) → c σ H fun b H1 => if b = true then t { D with nx := w D } σ H1 else u { D with nx := w D } σ H1) : tSeq (tIfS c t u) w D σ H := q hw
theorem Mu.ofSame {M : List Addr} {R H H' : Hp} (h : Same R H) (s : Same H H') : Mu M R H H' := ⟨⟨Same.refl _, h.trans s, fun a o _ e => s a o e, fun _ _ _ m => m, fun a o e => ⟨o, s a o e⟩⟩⟩
/-- what a call leaves, as newM tells it -/
theorem keep_ex {R H H' : Hp} (h : Same R H) (s : Same H H') : Mu [] R H H' ∧ Same R H' := ⟨.ofSame h s, h.trans s⟩
theorem fresh_ex {R H : Hp} {p : Addr} (h : Same R H) (n : H p = none) : Free H p ∧ R p = none := ⟨n, h.free n⟩
/-! ### loops over tuples; unpacking -/
section
variable {K : PySem.W.Frag} {σ : St} {H : Hp} {te : TE} {u : TS} {D : Ends}
def TsW (K : PySem.W.Frag) (x : V) (H : Hp) (R : It → Hp → Prop) : Prop := ∃ a, x = .ref a ∧ (∃ xs, SqT K H a xs) ∧ R (Itt K a) H
theorem g_iTup {R : It → Hp → Prop} (q : te σ H fun x H1 => TsW K x H1 R) : iTup K te σ H R := q
theorem g_TsW {R : It → Hp → Prop} {a : Addr} {xs : List V} (h : SqT K H a xs) (q : R (Itt K a) H) : TsW K (.ref a) H R := ⟨a, rfl, ⟨xs, h⟩, q⟩
theorem g_asgT {n : Nat} {ts : TGs} (q : te σ H fun x H1 => gTup K n ts x σ H1 D.nx) : tAsg te (gTup K n ts) D σ H := q
theorem g_seqT {n : Nat} {ts : TGs} (q : te σ H fun x H1 => gTup K n ts x σ H1 fun σ2 H2 => u D σ2 H2) : tSeq (tAsg te (gTup K n ts)) u D σ H := q
theorem g_gTup {n : Nat} {ts : TGs} {a : Addr} {xs : List V} {QG : St → Hp → Prop} (h : SqT K H a xs) (e : xs.length = n) (q : ts xs σ H QG) : gTup K n ts (.ref a) σ H QG := ⟨a, xs, rfl, h, e, q⟩
theorem g_gCons {t : TG} {ts : TGs} {v : V} {r : List V} {QG : St → Hp → Prop} (q : t v σ H fun σ' H' => ts r σ' H' QG) : gCons t ts (v :: r) σ H QG := ⟨v, r, rfl, q⟩
theorem g_gNil {QG : St → Hp → Prop} (q : QG σ H) : gNil [] σ H QG := ⟨rfl, q⟩
end
/-- what stands behind an if, told once (N: kept closed so that a walk stops there) -/
theorem g_seqIN {w t u : TS} {c : TT} {D : Ends} {σ : St} {H : Hp} (P : St → Hp → Prop) (hw : ∀ σ H, P σ H → w D σ H) (q : ∀ N : St → Hp → Prop, (∀ σ H, P σ H → N σ H) → c σ H fun b H1 => if b = true then t { D with nx := N } σ H1 else u { D with nx := N } σ H1) : tSeq (tIfS c t u) w D σ H := q _ hw
/-- the same of any first statement -/
theorem g_seqN {w t : TS} {D : Ends} {σ : St} {H : Hp} (P : St → Hp → Prop) (hw : ∀ σ H, P σ H → w D σ H) (q : ∀ N : St → Hp → Prop, (∀ σ H, P σ H → N σ H) → t { D with nx := N } σ H) : tSeq t w D σ H := q _ hw
theorem rep_one (c : Int) (k : Nat) : (List.replicate k [V.int c]).flatten = (List.replicate k c).map V.int := by
  induction k with
  | zero => rfl
  | succ k ih => rw [List.replicate_succ, List.flatten_cons, ih]; rfl
theorem g_repZ {H : Hp} {Q : VK} {p : Addr} {c k : Int} (h : H p = some (.lst [.int c])) (h1 : -100000 ≤ k) (h2 : k ≤ 100000) (q : ∀ p, H p = none → Q (.ref p) (upd H p (.lst ((List.replicate k.toNat c).map V.int)))) : rMulU (.ref p) (.int k) H Q :=
  g_rep h (by omega) (by omega) (by have z : sizeLine = 16777216 := sizeLine_eq; rw [z]; simp; omega) (by rw [rep_one]; exact q)
theorem g_catI {K : PySem.W.Frag} {H : Hp} {Q : VK} {a b : Addr} {l m : List Int} (h : H a = some (.lst (l.map V.int))) (g : H b = some (.lst (m.map V.int))) (z : l.length + m.length ≤ 100000) (q : ∀ p, H p = none → Q (.ref p) (upd H p (.lst ((l ++ m).map V.int)))) : rAddU K (.ref a) (.ref b) H Q :=
  g_cat h g (by have z' : sizeLine = 16777216 := sizeLine_eq; rw [z']; simp; omega) (by rw [← List.map_append]; exact q)
theorem call_ex {R H H' : Hp} {p : Addr} (h : Same R H) (s : Same H H') (n : H p = none) : Free H p ∧ Mu [] R H H' ∧ R p = none ∧ Same R H' := ⟨n, .ofSame h s, h.free n, h.trans s⟩
theorem made_same {H : Hp} {x dx C : Addr} (h1 : H x = none) (h2 : H dx = none) : Same H (upd (upd H dx (.own x)) x (.ins C dx [])) := fun b o e => by
  rw [upd_ne (ne_of_none e h1), upd_ne (ne_of_none e h2)]; exact e
/-- what is changed and was not there may be left out -/
theorem Gr.forget {M M' : List Addr} {R H R1 H1 : Hp} (a : Gr M' R H R1 H1) (h : ∀ x ∈ M', x ∉ M → H x = none) : Gr M R H R1 H1 := ⟨a.rr, a.rh, fun c o m e => a.hh c o (fun z => by rw [h c z m] at e; cases e) e, a.fr, a.th⟩
/-! ### all that is there but the list at b is read for ever -/
def wo (H : Hp) (b : Addr) : Hp := fun a => if a = b then none else H a
theorem wo_self {H : Hp} {b : Addr} : wo H b b = none := if_pos rfl
theorem wo_same {H : Hp} {b : Addr} : Same (wo H b) H := fun a o e => by unfold wo at e; split at e; cases e; exact e
theorem same_wo {R H : Hp} {b : Addr} (h : Same R H) (n : R b = none) : Same R (wo H b) := fun a o e => by
  unfold wo
  rw [if_neg (fun z => by rw [z, n] at e; cases e)]
  exact h _ _ e
theorem rd_wo {H : Hp} {a b : Addr} {l xs : List V} (hb : H b = some (.lst l)) (h : Rd H a (.tup xs)) : Rd (wo H b) a (.tup xs) := by
  have : a ≠ b := by
    rintro rfl
    rcases h with h | ⟨o, h⟩ <;> rw [hb] at h <;> cases h
  unfold Rd wo
  rw [if_neg this]
  exact h
theorem sqT_wo {K : PySem.W.Frag} {H : Hp} {a b : Addr} {l xs : List V} (hb : H b = some (.lst l)) (h : SqT K H a xs) : SqT K (wo H b) a xs := by
  rcases h with h | h
  · exact .inl (rd_wo hb h)
  · exact .inr h
mutual
def tupOnly : PyData → Bool
  | .none | .bool _ | .int _ | .str _ => true
  | .tuple ds => tupOnlyAll ds
  | .list _ | .dict _ => false
def tupOnlyAll : List PyData → Bool
  | [] => true
  | d :: ds => tupOnly d && tupOnlyAll ds
end
mutual
theorem dp_wo {K : PySem.W.Frag} {H : Hp} {b : Addr} {l : List V} (hb : H b = some (.lst l)) : ∀ {d : PyData} {v : V}, tupOnly d = true → Dp K H v d → Dp K (wo H b) v d
  | .none, _, _, h => by cases h; exact .non
  | .bool b, _, _, h => by cases h; exact .bl b
  | .int i, _, _, h => by cases h; exact .int i
  | .str x, _, _, h => by cases h; exact .str x
  | .tuple ds, _, t, h => by cases h with | tup p q => exact .tup (sqT_wo hb p) (dpAll_wo hb (by simpa [tupOnly] using t) q)
  | .list _, _, t, _ => by simp [tupOnly] at t
  | .dict _, _, t, _ => by simp [tupOnly] at t
theorem dpAll_wo {K : PySem.W.Frag} {H : Hp} {b : Addr} {l : List V} (hb : H b = some (.lst l)) : ∀ {ds : List PyData} {vs : List V}, tupOnlyAll ds = true → DpAll K H vs ds → DpAll K (wo H b) vs ds
  | [], _, _, h => by cases h; exact .nil
  | d :: ds, _, t, h => by
    have t' : tupOnly d = true ∧ tupOnlyAll ds = true := by simpa [tupOnlyAll] using t
    cases h with | cons p q => exact .cons (dp_wo hb t'.1 p) (dpAll_wo hb t'.2 q)
end
theorem tupOnly_ints : ∀ l : List Int, tupOnlyAll (l.map PyData.int) = true
  | [] => by simp [tupOnlyAll]
  | _ :: r => by simp [tupOnlyAll, tupOnly, tupOnly_ints r]
/-! ### what can be compared -/
def LaD (d : PyData) (n : Nat) : Prop := d.canLay0 = true ∧ d.depth ≤ n
theorem laAll {n : Nat} : ∀ (l : List PyData), (∀ d ∈ l, LaD d n) → PyData.canLayAll0 l = true ∧ PyData.depthAll l ≤ n
  | [], _ => ⟨by simp [PyData.canLayAll0], by simp [PyData.depthAll]⟩
  | d :: r, h => by
    obtain ⟨a, b⟩ := laAll r fun d m => h d (List.mem_cons_of_mem _ m)
    obtain ⟨c, e⟩ := h d List.mem_cons_self
    exact ⟨by rw [PyData.canLayAll0, c, a]; rfl, by rw [PyData.depthAll]; omega⟩
theorem la_int {i : Int} {n : Nat} : LaD (.int i) n := ⟨by simp [PyData.canLay0], by simp [PyData.depth]⟩
theorem la_non {n : Nat} : LaD .none n := ⟨by simp [PyData.canLay0], by simp [PyData.depth]⟩
theorem la_bl {i : Bool} {n : Nat} : LaD (.bool i) n := ⟨by simp [PyData.canLay0], by simp [PyData.depth]⟩
theorem la_lst {l : List PyData} {n : Nat} (h : ∀ d ∈ l, LaD d n) : LaD (.list l) (n + 1) := ⟨by rw [PyData.canLay0]; exact (laAll l h).1, by rw [PyData.depth]; have := (laAll l h).2; omega⟩
theorem la_tup {l : List PyData} {n : Nat} (h : ∀ d ∈ l, LaD d n) : LaD (.tuple l) (n + 1) := ⟨by rw [PyData.canLay0]; exact (laAll l h).1, by rw [PyData.depth]; have := (laAll l h).2; omega⟩
theorem la_ints {l : List Int} {n : Nat} : ∀ d ∈ l.map PyData.int, LaD d n := fun d h => by obtain ⟨i, _, rfl⟩ := List.mem_map.mp h; exact la_int
theorem la_up {d : PyData} {n m : Nat} (h : LaD d n) (z : n ≤ m) : LaD d m := ⟨h.1, Nat.le_trans h.2 z⟩
theorem la_non' {n : Nat} : ∀ d ∈ ([] : List PyData), LaD d n := fun _ h => nomatch h
theorem la_cons {d : PyData} {r : List PyData} {n : Nat} (a : LaD d n) (b : ∀ d ∈ r, LaD d n) : ∀ e ∈ d :: r, LaD e n := fun e h => by
  rcases List.mem_cons.mp h with rfl | h
  · exact a
  · exact b e h
theorem la_shaped {d : PyData} {n : Nat} (h : LaD d n) (z : n ≤ 60 := by decide) : PySem.SeqAt.shaped d = true := by
  unfold PySem.SeqAt.shaped
  rw [h.1, Bool.true_and, decide_eq_true_eq]
  have := h.2
  omega
theorem clean_ints : ∀ l : List Int, cleanAll (l.map PyData.int) = true
  | [] => rfl
  | _ :: r => by rw [List.map_cons, cleanAll, clean, clean_ints r]; rfl
theorem eqv_same {d : PyData} (h : clean d = true) : PyData.eqv d d = true := (eqv_iff h h).mpr rfl
theorem eqv_dec {d e : PyData} (h : clean d = true) (g : clean e = true) {b : Bool} (x : b = true ↔ d = e) : PyData.eqv d e = b := by
  have := eqv_iff h g
  cases b <;> simp_all
theorem eqv_bls : ∀ l m : List Bool, PyData.eqvAll (l.map PyData.bool) (m.map PyData.bool) = decide (l = m)
  | [], [] => by simp [PyData.eqvAll]
  | [], _ :: _ => by simp [PyData.eqvAll]
  | _ :: _, [] => by simp [PyData.eqvAll]
  | a :: r, b :: t => by
    simp only [List.map_cons, PyData.eqvAll, PyData.eqv, eqv_bls r t]
    by_cases h : a = b <;> by_cases h' : r = t <;> simp [h, h']
theorem g_neDa {K : PySem.W.Frag} {H : Hp} {Q : VK} {v w : V} {d e : PyData} (hv : Dp K H v d) (hw : Dp K H w e) (hd : PySem.SeqAt.shaped d = true) (he : PySem.SeqAt.shaped e = true) (hn : (∃ a, v = .ref a) ∨ v = .non) (q : Q (.bl (!PyData.eqv d e)) H) : rNeU K v w H Q := by
  have : rNeD K v w H Q := ⟨d, e, hv, hw, hd, he, q⟩
  rcases hn with ⟨a, rfl⟩ | rfl <;> exact this
theorem g_eqDa {K : PySem.W.Frag} {H : Hp} {Q : VK} {v w : V} {d e : PyData} (hv : Dp K H v d) (hw : Dp K H w e) (hd : PySem.SeqAt.shaped d = true) (he : PySem.SeqAt.shaped e = true) (hn : (∃ a, v = .ref a) ∨ v = .non) (q : Q (.bl (PyData.eqv d e)) H) : rEqU K v w H Q := by
  have : rEqD K v w H Q := ⟨d, e, hv, hw, hd, he, q⟩
  rcases hn with ⟨a, rfl⟩ | rfl <;> exact this
/-! ### slices of rows of ints -/
theorem cut_nat {xs : List V} {lo hi : Nat} (g : hi ≤ xs.length) (h : lo ≤ hi) : cutV xs (some (lo : Int)) (some (hi : Int)) = (xs.drop lo).take (hi - lo) := by
  unfold cutV; rw [HT.sIx_nat, HT.sIx_nat, Nat.min_eq_left (by omega), Nat.min_eq_left (by omega)]
theorem cut_hi {xs : List V} {hi : Nat} (g : hi ≤ xs.length) : cutV xs none (some (hi : Int)) = xs.take hi := by
  unfold cutV; rw [HT.sIx_nat, HT.sIx_none, Nat.min_eq_left g]; rfl
theorem cut_lo {xs : List V} {lo : Nat} (g : lo ≤ xs.length) : cutV xs (some (lo : Int)) none = xs.drop lo := by
  unfold cutV; rw [HT.sIx_nat, HT.sIx_none, Nat.min_eq_left g, ← List.length_drop, List.take_length]
theorem atI_getD {l : List Int} {j : Nat} (h : j < l.length) : atI (l.map V.int) (j : Int) = some (.int (l.getD j 0)) :=
  atI_nat (by rw [List.getElem?_map, List.getElem?_eq_getElem h, List.getD_eq_getElem?_getD, List.getElem?_eq_getElem h]; rfl)
theorem take3 {l : List Int} {j : Nat} (h : j + 3 ≤ l.length) : (l.drop j).take 3 = [l.getD j 0, l.getD (j + 1) 0, l.getD (j + 2) 0] := by
  have g : ∀ i (hi : i < l.length), l[i] = l.getD i 0 := fun i hi => by
    rw [List.getD_eq_getElem?_getD, List.getElem?_eq_getElem hi]; rfl
  have e : l.drop j = l[j] :: l[j + 1] :: l[j + 2] :: l.drop (j + 3) := by
    rw [List.drop_eq_getElem_cons (show j < l.length by omega), List.drop_eq_getElem_cons (show j + 1 < l.length by omega), List.drop_eq_getElem_cons (show j + 1 + 1 < l.length by omega)]
  rw [e, ← g, ← g, ← g]
  rfl
theorem g_slT3 {K : PySem.W.Frag} {H : Hp} {Q : VK} {u : Addr} {l : List Int} {j : Nat} {lo hi : Int} (h : SqT K H u (l.map V.int)) (j0 : 0 < j) (z : j + 3 ≤ l.length) (e1 : lo = (j : Int)) (e2 : hi = (j : Int) + 3)
    (q : ∀ p, H p = none → Q (.ref p) (upd H p (.tup [.int (l.getD j 0), .int (l.getD (j + 1) 0), .int (l.getD (j + 2) 0)]))) : rSlU K (.ref u) (some lo) (some hi) H Q := by
  subst e1
  obtain rfl : hi = ((j + 3 : Nat) : Int) := by omega
  refine g_slT h ?_ ?_
  · rw [HT.sIx_nat, List.length_map]; omega
  · rw [cut_nat (by rw [List.length_map]; omega) (by omega), show j + 3 - j = 3 by omega, ← List.map_drop, ← List.map_take, take3 z]
    exact q
/-- a list stays where another object, which is no list, is written -/
theorem sqL_ins {K : PySem.W.Frag} {R H H1 : Hp} {c x C dx : Addr} {us : List V} {fs : List (Str × V)} (hc : SqL K H c us) (hx : H x = some (.ins C dx fs)) (g : Gr [x] R H R H1) : SqL K H1 c us := by
  rcases hc with hc | hc
  · have cx : c ≠ x := by
      rintro rfl
      rcases hc with hc | ⟨o, hc⟩ <;> rw [hx] at hc <;> cases hc
    rcases hc with hc | ⟨o, hc⟩
    · exact .inl (.inl (g.hh _ _ (by simpa using cx) hc))
    · exact .inl (.inr ⟨o, g.hh _ _ (by simpa using cx) hc⟩)
  · exact .inr hc
/-- a call has returned something fresh, which is read for ever from now on -/
theorem retR {R H H' : Hp} {p : Addr} {o : HO} (h : Same R H) (s : Same H H') (n : H p = none) (e : H' p = some o) : Gr [] R H (upd R p o) H' := by
  have Rn : R p = none := h.free n
  refine ⟨fun b u q => by rw [upd_ne (ne_of_none q Rn)]; exact q, fun b u q => ?_, fun b u _ q => s _ _ q, fun b u q z => by rw [upd_ne (ne_of_none q n)]; exact z, fun b u q => ⟨u, s _ _ q⟩⟩
  by_cases hb : b = p
  · subst hb; rw [upd_same] at q; cases q; exact e
  · rw [upd_ne hb] at q; exact s _ _ (h _ _ q)
/-- slices of a row of ints that is a list -/
theorem g_slLI {K : PySem.W.Frag} {H : Hp} {Q : VK} {u : Addr} {l : List Int} {lo hi : Int} {i j : Nat} (h : SqL K H u (l.map V.int)) (e1 : lo = (i : Int)) (e2 : hi = (j : Int)) (ij : i ≤ j) (z : j ≤ l.length)
    (q : ∀ p, H p = none → Q (.ref p) (upd H p (.lst (((l.drop i).take (j - i)).map V.int)))) : rSlU K (.ref u) (some lo) (some hi) H Q := by
  subst e1 e2
  refine g_slL h ?_
  rw [cut_nat (by rw [List.length_map]; omega) ij, ← List.map_drop, ← List.map_take]
  exact q
theorem g_slLlo {K : PySem.W.Frag} {H : Hp} {Q : VK} {u : Addr} {l : List Int} {lo : Int} {i : Nat} (h : SqL K H u (l.map V.int)) (e1 : lo = (i : Int)) (z : i ≤ l.length)
    (q : ∀ p, H p = none → Q (.ref p) (upd H p (.lst ((l.drop i).map V.int)))) : rSlU K (.ref u) (some lo) none H Q := by
  subst e1
  refine g_slL h ?_
  rw [cut_lo (by rw [List.length_map]; omega), ← List.map_drop]
  exact q
theorem g_slLhi {K : PySem.W.Frag} {H : Hp} {Q : VK} {u : Addr} {l : List Int} {hi : Int} {j : Nat} (h : SqL K H u (l.map V.int)) (e2 : hi = (j : Int)) (z : j ≤ l.length)
    (q : ∀ p, H p = none → Q (.ref p) (upd H p (.lst ((l.take j).map V.int)))) : rSlU K (.ref u) none (some hi) H Q := by
  subst e2
  refine g_slL h ?_
  rw [cut_hi (by rw [List.length_map]; omega), ← List.map_take]
  exact q
end Sk

namespace Sk
open PySem L2
/-! ### layouts, blocks, cells: the plain side -/
def partsOf (n z : Int) : Int := (n + z - 1) / z
def lows : Int → Nat → List Int
  | _, 0 => []
  | n, k + 1 => n % 256 :: lows (n / 256) k
@[simp] theorem lows_len : ∀ (n : Int) (k : Nat), (lows n k).length = k
  | _, 0 => rfl
  | n, k + 1 => by rw [lows, List.length_cons, lows_len]
def lowsRest : Int → Nat → Int
  | n, 0 => n
  | n, k + 1 => lowsRest (n / 256) k
theorem lows_succ : ∀ (n : Int) (k : Nat), lows n (k + 1) = lows n k ++ [lowsRest n k % 256]
  | n, 0 => rfl
  | n, k + 1 => by rw [lows, lows_succ (n / 256) k, lows, List.cons_append, lowsRest]
theorem lowsRest_succ : ∀ (n : Int) (k : Nat), lowsRest n (k + 1) = lowsRest n k / 256
  | n, 0 => rfl
  | n, k + 1 => by rw [lowsRest, lowsRest_succ (n / 256) k, lowsRest]
def pairs : List Int → List Int
  | [] => []
  | n :: r => n % 256 :: n / 256 :: pairs r
@[simp] theorem pairs_len : ∀ l : List Int, (pairs l).length = 2 * l.length
  | [] => rfl
  | n :: r => by rw [pairs, List.length_cons, List.length_cons, pairs_len, List.length_cons]; omega
theorem pairs_snoc (n : Int) : ∀ l : List Int, pairs (l ++ [n]) = pairs l ++ [n % 256, n / 256]
  | [] => rfl
  | m :: r => by rw [List.cons_append, pairs, pairs_snoc n r, pairs, List.cons_append, List.cons_append]
theorem map_get {ns : List Int} {i : Nat} {x : V} (h : (ns.map V.int)[i]? = some x) : ∃ n, ns[i]? = some n ∧ x = .int n := by
  rw [List.getElem?_map] at h
  obtain ⟨n, hn, rfl⟩ := Option.map_eq_some_iff.mp h
  exact ⟨n, hn, rfl⟩
theorem take_snoc {ns : List Int} {i : Nat} {n : Int} (h : ns[i]? = some n) : ns.take (i + 1) = ns.take i ++ [n] := by
  rw [List.take_add_one, h]; rfl
structure Lay where
  seg : Int
  blk : Int
  oct : Int
def Lay.payload (L : Lay) : Int := L.blk - 1
def Lay.limit (L : Lay) : Int := (L.seg - 2) * L.payload
def Lay.lastId (L : Lay) : Int := L.limit + L.payload
def Lay.fan (L : Lay) : Int := L.oct / 2
def Lay.region (L : Lay) : Int := partsOf (2 * ((3 + 1) * L.lastId + 3 + 3 + L.seg)) L.oct
def Lay.device (L : Lay) : Int := 2 * L.region + L.seg * L.blk
def Lay.flds (L : Lay) : List (Str × V) := [("segments", .int L.seg), ("segment_blocks", .int L.blk), ("block_size", .int L.oct), ("payload", .int L.payload), ("limit", .int L.limit), ("last_id", .int L.lastId), ("fan", .int L.fan), ("region_blocks", .int L.region), ("device_blocks", .int L.device)]
structure Lay.Ok (L : Lay) : Prop where
  s1 : 4 ≤ L.seg
  s2 : L.seg ≤ 16
  b1 : 16 ≤ L.blk
  b2 : L.blk ≤ 32
  o1 : L.oct = 64 ∨ L.oct = 128 ∨ L.oct = 256
  fits : 16 + 2 * L.payload + partsOf L.lastId 8 ≤ L.oct
theorem oct_in {z : Int} (h : z = 64 ∨ z = 128 ∨ z = 256) : (!inV (.int z) [.int 64, .int 128, .int 256]) = false := by
  rcases h with rfl | rfl | rfl <;> decide
/-- a layout at a, in what is read -/
def LayAt (C : Addr) (H : Hp) (a : Addr) (L : Lay) : Prop := ∃ dx, H a = some (.ins C dx L.flds)
theorem LayAt.mono {C : Addr} {H H' : Hp} {a : Addr} {L : Lay} (h : LayAt C H a L) (s : Same H H') : LayAt C H' a L := let ⟨dx, e⟩ := h; ⟨dx, s _ _ e⟩
/-- a block that is neither a COMMIT nor a MOVE -/
structure Blk where
  kind : Int
  seq : Int
  place : Int
  body : List Int
deriving DecidableEq
def intsD (l : List Int) : PyData := .tuple (l.map PyData.int)
def Blk.d (b : Blk) : PyData := .tuple [.int b.kind, .int b.seq, .int b.place, intsD b.body]
def found (kind : Int) (body : List Int) : List Int := if kind = 3 then body else pairs body
def bodyOf (L : Lay) (kind : Int) (body : List Int) : List Int := found kind body ++ List.replicate (L.oct - ((found kind body).length : Int)).toNat 0
theorem found_len {k : Int} {l : List Int} : (found k l).length ≤ 2 * l.length := by
  unfold found
  split
  · omega
  · rw [pairs_len]; omega
def octs (L : Lay) : Option Blk → List Int
  | none => List.replicate (16 + L.oct).toNat 0
  | some b => (([b.kind] ++ lows b.seq 6 ++ lows b.place 2) ++ List.replicate 7 0) ++ bodyOf L b.kind b.body
def optD : Option Blk → PyData
  | none => .none
  | some b => b.d
/-- the blocks that are told here -/
def BlkOk : Option Blk → Prop
  | none => True
  | some b => 3 ≤ b.kind ∧ b.body.length ≤ 300
theorem dpInts {K : PySem.W.Frag} {H : Hp} {v : V} {l : List Int} (h : Dp K H v (intsD l)) : ∃ t, v = .ref t ∧ SqT K H t (l.map V.int) := by
  obtain ⟨t, us, rfl, ht, hu⟩ := dp_tup h
  refine ⟨t, rfl, ?_⟩
  have : us = l.map V.int := by
    clear ht h
    induction l generalizing us with
    | nil => exact dpAll_nil hu
    | cons n r ih =>
      obtain ⟨v, vs, rfl, hv, hr⟩ := dpAll_cons hu
      rw [dp_int hv, ih _ hr]; rfl
  rw [← this]; exact ht
theorem dpBlk {K : PySem.W.Frag} {H : Hp} {v : V} {b : Blk} (h : Dp K H v b.d) : ∃ t u, v = .ref t ∧ SqT K H t [.int b.kind, .int b.seq, .int b.place, .ref u] ∧ SqT K H u (b.body.map V.int) := by
  obtain ⟨a, us, rfl, hs, hu⟩ := dp_tup h
  obtain ⟨x, us, rfl, hx, hu⟩ := dpAll_cons hu
  obtain ⟨y, us, rfl, hy, hu⟩ := dpAll_cons hu
  obtain ⟨z, us, rfl, hz, hu⟩ := dpAll_cons hu
  obtain ⟨w, us, rfl, hw, hu⟩ := dpAll_cons hu
  obtain rfl := dpAll_nil hu
  obtain ⟨u, rfl, hb⟩ := dpInts hw
  rw [dp_int hx, dp_int hy, dp_int hz] at hs
  exact ⟨a, u, rfl, hs, hb⟩
theorem bodyOf_len {L : Lay} {k : Int} {l : List Int} (h : L.Ok) (hl : l.length ≤ 300) : (bodyOf L k l).length ≤ 1000 := by
  have f1 := found_len (k := k) (l := l)
  have o1 := h.o1
  unfold bodyOf
  rw [List.length_append, List.length_replicate]
  omega
def chkStep (t o : Int) : Int := (t * 257 + o + 1) % 4294967291
def chk (L : Lay) (addr : Int) (b : Option Blk) : Int := (octs L b).foldl chkStep (addr + 1)
abbrev Cell := Option (Option Blk × Int)
def cellD : Cell → PyData
  | none => .none
  | some (b, c) => .tuple [optD b, .int c]
def sealOf (L : Lay) (n : Int) : Option Blk → Cell
  | none => none
  | some b => some (some b, chk L n (some b))
theorem optV {K : PySem.W.Frag} {H : Hp} {v : V} {b : Option Blk} (h : Dp K H v (optD b)) : (b = none ∧ v = .non) ∨ ∃ c t, b = some c ∧ v = .ref t := by
  cases b with
  | none => exact .inl ⟨rfl, dp_non h⟩
  | some b => obtain ⟨t, u, rfl, _⟩ := dpBlk h; exact .inr ⟨b, t, rfl, rfl⟩
def whole (L : Lay) (n : Int) : Cell → Bool
  | none => false
  | some (none, _) => false
  | some (some b, c) => decide (c = chk L n (some b))
def CellOk : Cell → Prop
  | none => True
  | some (b, _) => BlkOk b
theorem cellV {K : PySem.W.Frag} {H : Hp} {v : V} {c : Cell} (h : Dp K H v (cellD c)) : (c = none ∧ v = .non) ∨ ∃ b k t u, c = some (b, k) ∧ v = .ref t ∧ SqT K H t [u, .int k] ∧ Dp K H u (optD b) := by
  rcases c with _ | ⟨b, k⟩
  · exact .inl ⟨rfl, dp_non h⟩
  · obtain ⟨t, u, w, rfl, ht, hu, hw⟩ := dpT2 h
    rw [dp_int hw] at ht
    exact .inr ⟨b, k, t, u, rfl, rfl, ht, hu⟩
def lays : List Lay := [⟨4, 16, 64⟩, ⟨4, 16, 64⟩, ⟨5, 16, 64⟩, ⟨4, 16, 128⟩, ⟨4, 17, 64⟩, ⟨4, 16, 256⟩]
theorem lays_ok : ∀ L ∈ lays, L.Ok := by
  intro L h
  simp only [lays, List.mem_cons, List.not_mem_nil, or_false] at h
  rcases h with rfl | rfl | rfl | rfl | rfl | rfl <;> exact ⟨by decide, by decide, by decide, by decide, by decide, by decide⟩
/-- a block that fills its cell -/
structure Full (L : Lay) (b : Blk) : Prop where
  k : 3 ≤ b.kind
  d : b.kind = 3 → (b.body.length : Int) = L.oct
  p : b.kind ≠ 3 → 2 * (b.body.length : Int) = L.oct
  r : b.kind ≠ 3 → ∀ n ∈ b.body, 0 ≤ n ∧ n < 65536
def FullO (L : Lay) : Option Blk → Prop
  | none => True
  | some b => Full L b
def headOf (b : Blk) : List Int := ([b.kind] ++ lows b.seq 6 ++ lows b.place 2) ++ List.replicate 7 0
theorem octs_full {L : Lay} {b : Blk} (h : Full L b) : octs L (some b) = headOf b ++ found b.kind b.body := by
  show headOf b ++ bodyOf L b.kind b.body = _
  have e : (L.oct - ((found b.kind b.body).length : Int)).toNat = 0 := by
    unfold found
    split
    · have := h.d (by assumption); omega
    · have := h.p (by assumption); rw [pairs_len]; omega
  unfold bodyOf
  rw [e, List.replicate_zero, List.append_nil]
theorem pair_low {n : Int} (h : 0 ≤ n ∧ n < 65536) : [n % 256, n / 256] = lows n 2 := by
  have e : n / 256 = n / 256 % 256 := by omega
  show _ = [n % 256, n / 256 % 256]
  rw [← e]
@[simp] theorem headOf_len (b : Blk) : (headOf b).length = 16 := by unfold headOf; simp
end Sk

namespace Sk
open PySem L2
/-! ### labels: the plain side -/
structure Lb where
  gen : Int
  mem : List Int
  bef : List Int
  forks : List Int
deriving DecidableEq
def Lb.d (l : Lb) : PyData := .tuple [.int l.gen, intsD l.mem, intsD l.bef, intsD l.forks]
def lbD : Option Lb → PyData
  | none => .none
  | some l => l.d
theorem dpLb {K : PySem.W.Frag} {H : Hp} {v : V} {l : Lb} (h : Dp K H v l.d) : ∃ t m b f, v = .ref t ∧ SqT K H t [.int l.gen, .ref m, .ref b, .ref f] ∧ SqT K H m (l.mem.map V.int) ∧ SqT K H b (l.bef.map V.int) ∧ SqT K H f (l.forks.map V.int) := by
  obtain ⟨a, us, rfl, hs, hu⟩ := dp_tup h
  obtain ⟨x, us, rfl, hx, hu⟩ := dpAll_cons hu
  obtain ⟨y, us, rfl, hy, hu⟩ := dpAll_cons hu
  obtain ⟨z, us, rfl, hz, hu⟩ := dpAll_cons hu
  obtain ⟨w, us, rfl, hw, hu⟩ := dpAll_cons hu
  obtain rfl := dpAll_nil hu
  obtain ⟨m, rfl, hm⟩ := dpInts hy
  obtain ⟨b, rfl, hb⟩ := dpInts hz
  obtain ⟨f, rfl, hf⟩ := dpInts hw
  rw [dp_int hx] at hs
  exact ⟨a, m, b, f, rfl, hs, hm, hb, hf⟩
theorem mkLb {K : PySem.W.Frag} {H : Hp} {t m b f : Addr} {l : Lb} (ht : SqT K H t [.int l.gen, .ref m, .ref b, .ref f]) (hm : SqT K H m (l.mem.map V.int)) (hb : SqT K H b (l.bef.map V.int)) (hf : SqT K H f (l.forks.map V.int)) : Dp K H (.ref t) l.d :=
  .tup ht (.cons (.int _) (.cons (.tup hm (dpAll_ints _)) (.cons (.tup hb (dpAll_ints _)) (.cons (.tup hf (dpAll_ints _)) .nil))))
theorem lbV {K : PySem.W.Frag} {H : Hp} {v : V} {b : Option Lb} (h : Dp K H v (lbD b)) : (b = none ∧ v = .non) ∨ ∃ c t, b = some c ∧ v = .ref t := by
  cases b with
  | none => exact .inl ⟨rfl, dp_non h⟩
  | some b => obtain ⟨t, m, bb, f, rfl, _⟩ := dpLb h; exact .inr ⟨b, t, rfl, rfl⟩
theorem la_lb (l : Lb) : LaD l.d 2 := la_tup (la_cons la_int (la_cons (la_tup la_ints) (la_cons (la_tup la_ints) (la_cons (la_tup la_ints) la_non'))))
theorem clean_lb (l : Lb) : clean l.d = true := by simp [Lb.d, intsD, clean, cleanAll, clean_ints]
theorem la_lbD (b : Option Lb) : LaD (lbD b) 2 := by cases b with | none => exact la_non | some l => exact la_lb l
theorem clean_lbD (b : Option Lb) : clean (lbD b) = true := by cases b with | none => rfl | some l => exact clean_lb l
theorem la_blk (k : Blk) : LaD k.d 2 := la_tup (la_cons la_int (la_cons la_int (la_cons la_int (la_cons (la_tup la_ints) la_non'))))
theorem clean_blk (k : Blk) : clean k.d = true := by simp [Blk.d, intsD, clean, cleanAll, clean_ints]
theorem ints_inj : ∀ {l m : List Int}, l.map PyData.int = m.map PyData.int → l = m
  | [], [], _ => rfl
  | [], _ :: _, h => by simp at h
  | _ :: _, [], h => by simp at h
  | a :: l, b :: m, h => by
    rw [List.map_cons, List.map_cons, List.cons.injEq] at h
    obtain ⟨h1, h2⟩ := h
    cases h1
    rw [ints_inj h2]
theorem blk_inj {k e : Blk} (h : k.d = e.d) : k = e := by
  obtain ⟨a, b, c, l⟩ := k
  obtain ⟨a', b', c', l'⟩ := e
  simp only [Blk.d, intsD, PyData.tuple.injEq, List.cons.injEq, PyData.int.injEq, and_true] at h
  obtain ⟨h1, h2, h3, h4⟩ := h
  rw [h1, h2, h3, ints_inj h4]
theorem eqv_blk (k e : Blk) : PyData.eqv k.d e.d = decide (k = e) :=
  eqv_dec (clean_blk k) (clean_blk e) (by rw [decide_eq_true_iff]; exact ⟨fun h => by rw [h], blk_inj⟩)
def bit (s : List Int) (i : Int) : Int := if i ∈ s then 1 else 0
def bits (s : List Int) : List Int := [bit s 0, bit s 1, bit s 2]
def fork3 (l : List Int) : List Int := l.flatMap fun n => lows n 3
theorem fork3_len (l : List Int) : (fork3 l).length = 3 * l.length := by
  induction l with
  | nil => rfl
  | cons n r ih =>
    have : fork3 (n :: r) = lows n 3 ++ fork3 r := rfl
    rw [this, List.length_append, ih, lows_len, List.length_cons]; omega
theorem fork3_snoc (l : List Int) (n : Int) : fork3 (l ++ [n]) = fork3 l ++ lows n 3 := by
  unfold fork3
  rw [List.flatMap_append]
  simp
def labelHead (seat : Int) (l : Lb) : List Int := [83, 73, 68, 69] ++ [1, seat] ++ bits l.mem ++ bits l.bef ++ [(l.forks.length : Int)]
def labelFront (seat : Int) (l : Lb) : List Int := labelHead seat l ++ fork3 l.forks
def labelOcts (L : Lay) (seat : Int) (l : Lb) : List Int := labelFront seat l ++ List.replicate (L.oct - ((labelFront seat l).length : Int)).toNat 0
def labelBlk (L : Lay) (seat : Int) (l : Lb) : Blk := ⟨3, l.gen, 0, labelOcts L seat l⟩
theorem labelHead_len (seat : Int) (l : Lb) : (labelHead seat l).length = 13 := rfl
theorem labelFront_len (seat : Int) (l : Lb) : (labelFront seat l).length = 13 + 3 * l.forks.length := by rw [labelFront, List.length_append, fork3_len, labelHead_len]
def numOf : List Int → Int
  | [] => 0
  | n :: r => numOf r * 256 + n
def seats3 (a b c : Int) : List Int := (if a ≠ 0 then [0] else []) ++ (if b ≠ 0 then [1] else []) ++ (if c ≠ 0 then [2] else [])
def memOf (o : List Int) : List Int := seats3 (o.getD 6 0) (o.getD 7 0) (o.getD 8 0)
def befOf (o : List Int) : List Int := seats3 (o.getD 9 0) (o.getD 10 0) (o.getD 11 0)
def forkOf (o : List Int) (i : Nat) : Int := numOf [o.getD (13 + 3 * i) 0, o.getD (14 + 3 * i) 0, o.getD (15 + 3 * i) 0]
def forksOf (o : List Int) : List Int := (List.range (o.getD 12 0).toNat).map (forkOf o)
def readLb (k : Blk) : Lb := ⟨k.seq, memOf k.body, befOf k.body, forksOf k.body⟩
def labelOf (L : Lay) (seat : Int) : Option Blk → Option Lb
  | none => none
  | some k => if k.kind = 3 ∧ k.seq ≠ 0 ∧ seat ∈ memOf k.body ∧ k.body.getD 12 0 ≤ 16 ∧ labelBlk L seat (readLb k) = k then some (readLb k) else none
/-- a block whose body are octets, if it is a block of octets -/
structure OctBlk (L : Lay) (k : Blk) : Prop where
  k3 : 3 ≤ k.kind
  s0 : 0 ≤ k.seq
  len : k.kind = 3 → (k.body.length : Int) = L.oct
  few : k.body.length ≤ 300
  oct : k.kind = 3 → ∀ n ∈ k.body, 0 ≤ n ∧ n < 256
theorem bits_seats {a b c : Int} : bits (seats3 a b c) = [if a ≠ 0 then 1 else 0, if b ≠ 0 then 1 else 0, if c ≠ 0 then 1 else 0] := by
  unfold bits bit seats3
  by_cases ha : a = 0 <;> by_cases hb : b = 0 <;> by_cases hc : c = 0 <;> simp [ha, hb, hc]
theorem mem_seats {a b c : Int} : (0 ∈ seats3 a b c ↔ a ≠ 0) ∧ (1 ∈ seats3 a b c ↔ b ≠ 0) ∧ (2 ∈ seats3 a b c ↔ c ≠ 0) := by
  unfold seats3
  by_cases ha : a = 0 <;> by_cases hb : b = 0 <;> by_cases hc : c = 0 <;> simp [ha, hb, hc]
theorem lows_num {a b c : Int} (ha : 0 ≤ a ∧ a < 256) (hb : 0 ≤ b ∧ b < 256) (hc : 0 ≤ c ∧ c < 256) : lows (numOf [a, b, c]) 3 = [a, b, c] := by
  unfold numOf numOf numOf numOf lows lows lows lows
  have e1 : (((0 * 256 + c) * 256 + b) * 256 + a) % 256 = a := by omega
  have e2 : (((0 * 256 + c) * 256 + b) * 256 + a) / 256 % 256 = b := by omega
  have e3 : (((0 * 256 + c) * 256 + b) * 256 + a) / 256 / 256 % 256 = c := by omega
  rw [e1, e2, e3]
theorem num_low {n : Int} (h : 0 ≤ n ∧ n < 16777216) : lows n 3 = [n % 256, n / 256 % 256, n / 65536] := by
  unfold lows lows lows lows
  have : n / 256 / 256 % 256 = n / 65536 := by omega
  rw [this]
/-- the forks of a body are its octets again -/
theorem fork_take (rest : List Int) (hr : ∀ n ∈ rest, 0 ≤ n ∧ n < 256) : ∀ c : Nat, 3 * c ≤ rest.length → fork3 ((List.range c).map fun i => numOf [rest.getD (3 * i) 0, rest.getD (3 * i + 1) 0, rest.getD (3 * i + 2) 0]) = rest.take (3 * c)
  | 0, _ => by simp [fork3]
  | c + 1, h => by
    have ih := fork_take rest hr c (by omega)
    rw [List.range_succ, List.map_append, List.map_singleton, fork3_snoc, ih]
    have g : ∀ j, j < rest.length → 0 ≤ rest.getD j 0 ∧ rest.getD j 0 < 256 := fun j hj => by
      rw [List.getD_eq_getElem?_getD, List.getElem?_eq_getElem hj]
      exact hr _ (List.getElem_mem hj)
    rw [lows_num (g _ (by omega)) (g _ (by omega)) (g _ (by omega))]
    have t : ∀ j, j < rest.length → rest.take (j + 1) = rest.take j ++ [rest.getD j 0] := fun j hj => by
      rw [List.take_add_one, List.getElem?_eq_getElem hj, List.getD_eq_getElem?_getD, List.getElem?_eq_getElem hj]; rfl
    rw [show 3 * (c + 1) = 3 * c + 1 + 1 + 1 by omega, t _ (by omega), t _ (by omega), t _ (by omega)]
    simp
theorem head13 {o : List Int} (h : 13 ≤ o.length) : ∃ b0 b1 b2 b3 b4 b5 b6 b7 b8 b9 b10 b11 b12 r, o = b0 :: b1 :: b2 :: b3 :: b4 :: b5 :: b6 :: b7 :: b8 :: b9 :: b10 :: b11 :: b12 :: r := by
  match o, h with
  | b0 :: b1 :: b2 :: b3 :: b4 :: b5 :: b6 :: b7 :: b8 :: b9 :: b10 :: b11 :: b12 :: r, _ => exact ⟨_, _, _, _, _, _, _, _, _, _, _, _, _, _, rfl⟩
theorem bit01 {a : Int} (h : 0 ≤ a) : (if a ≠ 0 then (1 : Int) else 0) = a ↔ a ≤ 1 := by split <;> omega
/-- when the block of the label that is read is the block -/
theorem label_iff {L : Lay} (hL : L.Ok) {seat : Int} {k : Blk} (hk : OctBlk L k) (k3 : k.kind = 3) {b0 b1 b2 b3 b4 b5 b6 b7 b8 b9 b10 b11 b12 : Int} {r : List Int} (e : k.body = b0 :: b1 :: b2 :: b3 :: b4 :: b5 :: b6 :: b7 :: b8 :: b9 :: b10 :: b11 :: b12 :: r) (h16 : b12 ≤ 16) :
    labelBlk L seat (readLb k) = k ↔ k.place = 0 ∧ [b0, b1, b2, b3, b4, b5] = [83, 73, 68, 69, 1, seat] ∧ (b6 ≤ 1 ∧ b7 ≤ 1 ∧ b8 ≤ 1 ∧ b9 ≤ 1 ∧ b10 ≤ 1 ∧ b11 ≤ 1) ∧ ∀ n ∈ r.drop (3 * b12.toNat), n = 0 := by
  have ho := hk.oct k3
  have hl := hk.len k3
  have o1 := hL.o1
  rw [e] at ho
  rw [e, show (b0 :: b1 :: b2 :: b3 :: b4 :: b5 :: b6 :: b7 :: b8 :: b9 :: b10 :: b11 :: b12 :: r).length = 13 + r.length by simp only [List.length_cons]; omega] at hl
  have hr : ∀ n ∈ r, 0 ≤ n ∧ n < 256 := fun n hn => ho n (by simp [hn])
  have h12 := ho b12 (by simp)
  have h6 := ho b6 (by simp); have h7 := ho b7 (by simp); have h8 := ho b8 (by simp)
  have h9 := ho b9 (by simp); have hA := ho b10 (by simp); have hB := ho b11 (by simp)
  obtain ⟨c, rfl⟩ := Int.eq_ofNat_of_zero_le h12.1
  have c3 : 3 * c ≤ r.length := by omega
  have hf : forksOf k.body = (List.range c).map fun i => numOf [r.getD (3 * i) 0, r.getD (3 * i + 1) 0, r.getD (3 * i + 2) 0] := by
    rw [e]
    unfold forksOf
    have : (b0 :: b1 :: b2 :: b3 :: b4 :: b5 :: b6 :: b7 :: b8 :: b9 :: b10 :: b11 :: (c : Int) :: r).getD 12 0 = (c : Int) := rfl
    rw [this, Int.toNat_natCast]
    refine List.map_congr_left fun i _ => ?_
    unfold forkOf
    have g : ∀ j, (b0 :: b1 :: b2 :: b3 :: b4 :: b5 :: b6 :: b7 :: b8 :: b9 :: b10 :: b11 :: (c : Int) :: r).getD (13 + j) 0 = r.getD j 0 := fun j => by
      rw [show 13 + j = j + 1 + 1 + 1 + 1 + 1 + 1 + 1 + 1 + 1 + 1 + 1 + 1 + 1 by omega]
      simp only [List.getD_cons_succ]
    rw [g, show 14 + 3 * i = 13 + (3 * i + 1) by omega, show 15 + 3 * i = 13 + (3 * i + 2) by omega, g, g]
  have hm : memOf k.body = seats3 b6 b7 b8 := by rw [e]; rfl
  have hb : befOf k.body = seats3 b9 b10 b11 := by rw [e]; rfl
  have hfl : (forksOf k.body).length = c := by rw [hf]; simp
  have front : labelFront seat (readLb k) = [83, 73, 68, 69, 1, seat, if b6 ≠ 0 then 1 else 0, if b7 ≠ 0 then 1 else 0, if b8 ≠ 0 then 1 else 0, if b9 ≠ 0 then 1 else 0, if b10 ≠ 0 then 1 else 0, if b11 ≠ 0 then 1 else 0, (c : Int)] ++ r.take (3 * c) := by
    unfold labelFront labelHead readLb
    rw [hm, hb, bits_seats, bits_seats, hfl, hf, fork_take r hr c c3]
    rfl
  have fl : (labelFront seat (readLb k)).length = 13 + 3 * c := by rw [labelFront_len, show (readLb k).forks = forksOf k.body from rfl, hfl]
  have key : labelBlk L seat (readLb k) = k ↔ k.place = 0 ∧ labelOcts L seat (readLb k) = k.body := by
    constructor
    · intro h
      rw [← h]
      exact ⟨rfl, by rw [h]; exact congrArg Blk.body h⟩
    · rintro ⟨h1, h2⟩
      obtain ⟨q1, q2, q3, q4⟩ := k
      simp only at k3 h1
      subst k3 h1
      unfold labelBlk
      rw [h2]
      rfl
  rw [key]
  refine and_congr_right fun _ => ?_
  unfold labelOcts
  rw [fl, front, e, show (L.oct - ((13 + 3 * c : Nat) : Int)).toNat = r.length - 3 * c by omega]
  have r2 : r = r.take (3 * c) ++ r.drop (3 * c) := (List.take_append_drop _ _).symm
  have rl : (r.drop (3 * c)).length = r.length - 3 * c := List.length_drop
  rw [Int.toNat_natCast, List.append_assoc]
  have z : r.take (3 * c) ++ List.replicate (r.length - 3 * c) 0 = r ↔ ∀ n ∈ r.drop (3 * c), n = 0 := by
    constructor
    · intro h n hn
      have : List.replicate (r.length - 3 * c) 0 = r.drop (3 * c) := List.append_cancel_left (h.trans r2)
      rw [← this] at hn
      exact List.eq_of_mem_replicate hn
    · intro h
      have : r.drop (3 * c) = List.replicate (r.length - 3 * c) 0 := List.eq_replicate_iff.mpr ⟨rl, h⟩
      rw [← this, List.take_append_drop]
  rw [← z]
  simp only [List.cons_append, List.nil_append, List.cons.injEq, bit01 h6.1, bit01 h7.1, bit01 h8.1, bit01 h9.1, bit01 hA.1, bit01 hB.1, true_and, and_true]
  constructor
  · rintro ⟨a0, a1, a2, a3, a4, a5, a6, a7, a8, a9, aA, aB, aR⟩
    exact ⟨⟨a0.symm, a1.symm, a2.symm, a3.symm, a4.symm, a5.symm⟩, ⟨a6, a7, a8, a9, aA, aB⟩, aR⟩
  · rintro ⟨⟨a0, a1, a2, a3, a4, a5⟩, ⟨a6, a7, a8, a9, aA, aB⟩, aR⟩
    exact ⟨a0.symm, a1.symm, a2.symm, a3.symm, a4.symm, a5.symm, a6, a7, a8, a9, aA, aB, aR⟩
/-! which label goes ahead -/
def newer (l : Lb) : Option Lb → Bool
  | none => true
  | some o => if l.gen = o.gen then decide (l.mem.length < o.mem.length) else decide (l.gen > o.gen)
def pickLb (best x : Option Lb) : Option Lb := match x with
  | none => best
  | some l => if newer l best = true then some l else best
def newestOf (ls : List (Option Lb)) : Option Lb := ls.foldl pickLb none
theorem only_blk (k : Blk) : tupOnly k.d = true := by simp [Blk.d, tupOnly, tupOnlyAll, intsD, tupOnly_ints]
theorem lows_oct : ∀ (n : Int) (c : Nat), ∀ x ∈ lows n c, 0 ≤ x ∧ x < 256
  | _, 0, x, h => by rw [lows] at h; exact absurd h List.not_mem_nil
  | n, c + 1, x, h => by
    rw [lows] at h
    rcases List.mem_cons.mp h with rfl | h
    · omega
    · exact lows_oct _ c x h
theorem octblk_label {L : Lay} (hL : L.Ok) {seat : Int} (h0 : 0 ≤ seat) (h3 : seat < 3) {l : Lb} (g : 0 ≤ l.gen) (few : l.forks.length ≤ 16) : OctBlk L (labelBlk L seat l) := by
  have o1 := hL.o1
  have fl := labelFront_len seat l
  have ll : ((labelOcts L seat l).length : Int) = L.oct := by
    unfold labelOcts
    rw [List.length_append, List.length_replicate]
    omega
  refine ⟨Int.le_refl 3, g, fun _ => ll, by show (labelOcts L seat l).length ≤ 300; omega, fun _ n hn => ?_⟩
  have hb : ∀ s i, 0 ≤ bit s i ∧ bit s i < 256 := fun s i => by unfold bit; split <;> omega
  change n ∈ labelOcts L seat l at hn
  unfold labelOcts labelFront at hn
  rcases List.mem_append.mp hn with hn | hn
  · rcases List.mem_append.mp hn with hn | hn
    · simp only [labelHead, bits, List.cons_append, List.nil_append, List.mem_cons, List.not_mem_nil, or_false] at hn
      rcases hn with rfl | rfl | rfl | rfl | rfl | rfl | rfl | rfl | rfl | rfl | rfl | rfl | rfl
      all_goals first | omega | exact hb _ _
    · unfold fork3 at hn
      obtain ⟨o, _, ho⟩ := List.mem_flatMap.mp hn
      exact lows_oct _ _ _ ho
  · rw [List.eq_of_mem_replicate hn]; decide
end Sk

namespace Sk
open PySem L2
/-! ### sides and their images: the plain side -/
/-- a block whose octets can be read again -/
structure BlkX (L : Lay) (b : Blk) : Prop where
  full : Full L b
  k5 : b.kind ≤ 5
  s0 : 0 ≤ b.seq
  s1 : b.seq < 281474976710656
  p0 : 0 ≤ b.place
  p1 : b.place < 65536
def CellX (L : Lay) : Cell → Prop
  | none => True
  | some (b, k) => (∀ x, b = some x → BlkX L x) ∧ 0 ≤ k ∧ k < 4294967296
theorem blkOk_of {L : Lay} (hL : L.Ok) {b : Option Blk} (h : ∀ x, b = some x → BlkX L x) : BlkOk b := by
  cases b with
  | none => trivial
  | some x =>
    have o1 := hL.o1
    have hf := (h x rfl).full
    refine ⟨hf.k, ?_⟩
    by_cases e3 : x.kind = 3
    · have := hf.d e3; omega
    · have := hf.p e3; omega
theorem fullO_of {L : Lay} {b : Option Blk} (h : ∀ x, b = some x → BlkX L x) : FullO L b := by
  cases b with
  | none => trivial
  | some x => exact (h x rfl).full
theorem octs_len {L : Lay} (hL : L.Ok) {b : Option Blk} (h : ∀ x, b = some x → BlkX L x) : ((octs L b).length : Int) = 16 + L.oct := by
  have o1 := hL.o1
  cases b with
  | none => rw [octs, List.length_replicate]; omega
  | some x =>
    have hf := (h x rfl).full
    rw [octs_full hf, List.length_append, headOf_len]
    unfold found
    split
    · have := hf.d (by assumption); omega
    · have := hf.p (by assumption); rw [pairs_len]; omega
def cellOcts (L : Lay) : Cell → List Int
  | none => List.replicate (1 + 16 + L.oct + 4).toNat 0
  | some (b, k) => 1 :: (octs L b ++ lows k 4)
theorem cellOcts_len {L : Lay} (hL : L.Ok) {c : Cell} (h : CellX L c) : ((cellOcts L c).length : Int) = 21 + L.oct := by
  have o1 := hL.o1
  rcases c with _ | ⟨b, k⟩
  · rw [cellOcts, List.length_replicate]; omega
  · have := octs_len hL h.1
    rw [cellOcts, List.length_cons, List.length_append, lows_len]
    omega
def headOct (L : Lay) (seat : Int) : List Int := ([83, 73, 68, 69] ++ [2, seat, L.seg, L.blk]) ++ lows L.oct 2 ++ List.replicate 6 0
theorem headOct_len (L : Lay) (seat : Int) : (headOct L seat).length = 16 := by unfold headOct; simp
def cellsOcts (L : Lay) (cs : List Cell) : List Int := cs.flatMap (cellOcts L)
def imageOf (L : Lay) (seat : Int) (cs : List Cell) : List Int := headOct L seat ++ cellsOcts L cs
theorem cellsOcts_snoc (L : Lay) (cs : List Cell) (c : Cell) : cellsOcts L (cs ++ [c]) = cellsOcts L cs ++ cellOcts L c := by
  unfold cellsOcts
  rw [List.flatMap_append]
  simp
theorem cellsOcts_len {L : Lay} (hL : L.Ok) : ∀ {cs : List Cell}, (∀ c ∈ cs, CellX L c) → ((cellsOcts L cs).length : Int) = cs.length * (21 + L.oct)
  | [], _ => by simp [cellsOcts]
  | c :: r, h => by
    have ih := cellsOcts_len hL (cs := r) fun x hx => h x (List.mem_cons_of_mem _ hx)
    have hc := cellOcts_len hL (h c List.mem_cons_self)
    have e : cellsOcts L (c :: r) = cellOcts L c ++ cellsOcts L r := rfl
    rw [e, List.length_append, List.length_cons]
    push_cast
    rw [ih, hc, Int.add_mul, Int.one_mul]
    omega
/-! reading numbers again -/
theorem numOf_lows : ∀ (k : Nat) (n : Int), 0 ≤ n → n < 256 ^ k → numOf (lows n k) = n
  | 0, n, h0, h1 => by
    rw [Int.pow_zero] at h1
    rw [lows, numOf]; omega
  | k + 1, n, h0, h1 => by
    rw [lows, numOf, numOf_lows k (n / 256) (by omega) (by
      rw [Int.pow_succ] at h1
      exact Int.ediv_lt_of_lt_mul (by decide) h1)]
    omega
def halves (o : List Int) : List Int := (List.range (o.length / 2)).map fun (k : Nat) => o.getD (2 * k) 0 + 256 * o.getD (2 * k + 1) 0
theorem halves_pairs : ∀ l : List Int, halves (pairs l) = l
  | [] => rfl
  | n :: r => by
    have ih := halves_pairs r
    unfold halves at ih ⊢
    rw [pairs_len] at ih
    rw [pairs_len, List.length_cons, show 2 * (r.length + 1) / 2 = r.length + 1 by omega, List.range_succ_eq_map, List.map_cons, List.map_map]
    have e0 : (pairs (n :: r)).getD (2 * 0) 0 + 256 * (pairs (n :: r)).getD (2 * 0 + 1) 0 = n := by
      show n % 256 + 256 * (n / 256) = n
      omega
    rw [e0]
    congr 1
    rw [show 2 * r.length / 2 = r.length by omega] at ih
    refine Eq.trans (List.map_congr_left fun k _ => ?_) ih
    show (pairs (n :: r)).getD (2 * (k + 1)) 0 + 256 * (pairs (n :: r)).getD (2 * (k + 1) + 1) 0 = _
    rw [show 2 * (k + 1) = 2 * k + 1 + 1 by omega, pairs, List.getD_cons_succ, List.getD_cons_succ, List.getD_cons_succ, List.getD_cons_succ]
/-! devices and sides as objects -/
def DevAt (C : Addr) (H : Hp) (d a l1 l2 l3 : Addr) : Prop := ∃ dx, H d = some (.ins C dx [("layout", .ref a), ("sure", .ref l1), ("seen", .ref l2), ("waiting", .ref l3), ("fuse", .non), ("dark", .bl false)])
def SideIn (C : Addr) (H : Hp) (s a : Addr) (seat : Int) (d : Addr) : Prop := ∃ dx, H s = some (.ins C dx [("layout", .ref a), ("seat", .int seat), ("device", .ref d)])
theorem DevAt.mono {C : Addr} {H H' : Hp} {d a l1 l2 l3 : Addr} (h : DevAt C H d a l1 l2 l3) (s : Same H H') : DevAt C H' d a l1 l2 l3 := let ⟨dx, e⟩ := h; ⟨dx, s _ _ e⟩
theorem SideIn.mono {C : Addr} {H H' : Hp} {s a d : Addr} {seat : Int} (h : SideIn C H s a seat d) (x : Same H H') : SideIn C H' s a seat d := let ⟨dx, e⟩ := h; ⟨dx, x _ _ e⟩
end Sk

namespace Sk
open PySem L2
/-! ### more rules -/
section
open PyProof.Rows
variable {X : Cx} {K : PySem.W.Frag}
theorem pg_lstK {es : List Expr} {pos : Pos} {k : Nat} {t : TGs} {n : Nat} (hc : X.calm = true) (h : PGs X es t)
    (hn : (assignEach es X.env).length = n := by rfl) (hst : (assignEach es X.env).findIdx? (·.1) = none := by rfl) (hK : X.K = K := by rfl) : PG X (.Tuple es k pos) (gLst K n t) := hK ▸ pg_lst hc h hn hst
theorem opRepTK (hK : X.K = K := by rfl) : OpR X (binaryOp .Mult) (rRepT K) := hK ▸ op_repT
/-- xs[j] of a list, j ≥ 0 -/
def rGetL (K : PySem.W.Frag) : V → V → Hp → VK → Prop := fun x y H Q => ∃ (p : Addr) (xs : List V) (j : Nat) (v : V), x = .ref p ∧ y = .int (j : Int) ∧ SqL K H p xs ∧ xs[j]? = some v ∧ Q v H
theorem pgetL0 : PGet X (rGetL X.K) := by
  intro pins s σ H x y ov iv Q I rx ry h
  obtain ⟨p, xs, j, v, rfl, rfl, hq, he, q⟩ := h
  cases rx
  obtain ⟨t, rfl⟩ := ry
  obtain ⟨its, r, pl, hz⟩ := I.list hq
  obtain ⟨w, ew, rw'⟩ := r.get he
  have hj : j < its.length := (List.getElem?_eq_some_iff.mp ew).1
  have hn := line63
  have hl := r.length
  exact getItem_listL pl.isList (by omega) (by omega) (by simpa using ew) ⟨v, H, I, rw', q⟩
theorem pgetLK (hK : X.K = K := by rfl) : PGet X (rGetL K) := hK ▸ pgetL0
variable {CX : CXT} {k n : Nat} {f C : Addr} {fd : FuncData} {ps ks : List Str} {sp : Sp} {E : XK} {m : Str} {pos apos : Pos} {e o : Expr} {es : List Expr} {kws : List Keyword} {ta : TE} {t tk : TA} {g : List Value → List Value → List Value} {gV : List V → List V → List V}
/-- o.m(e, .., k = v, ..) -/
def tMethN (C : Addr) (m : Str) (n j : Nat) (sp : Sp) (gV : List V → List V → List V) (E : XK) (ta : TE) (t tk : TA) : TE := fun σ H Q => ta σ H fun x H1 => ∃ a dx fs, x = .ref a ∧ H1 a = some (.ins C dx fs) ∧ fs.lookup m = none ∧
  t σ H1 fun vs H2 => tk σ H2 fun zs H3 => vs.length = n ∧ zs.length = j ∧ sp (gV (x :: vs) zs) H3 Q E
theorem pe_methN {pl : Sem Bool} (he : PE X o ta) (c : Cls X.K C) (hm : Meth X.K C m f) (F : FnOk X.prog X.w X.K X.mg X.base CX k f fd ps sp) (hr : Room k X.A) (hb : KBn X.K fd ps (n + 1) ks g gV) (hx : Passes CX X E) (ha : PA X (e :: es) t) (hkw : PK X kws tk)
    (hall : (backToKw pos (keywordEach kws X.env)).all (·.1.isSome) = true := by rfl) (hks : (backToKw pos (keywordEach kws X.env)).filterMap (·.1) = ks := by rfl)
    (hst : starEach (e :: es) X.env = (false, eval e X.env) :: starEach es X.env := by rfl)
    (hpl : ((backTo pos (starEach (e :: es) X.env)).any (·.1) || (backToKw pos (keywordEach kws X.env)).any (·.1.isNone)) = false := by rfl)
    (ht : eval (.Call (.Attribute o m apos) (e :: es) kws pos) X.env = (do
      let ov ← eval o X.env
      standAt apos.atName
      let (f, first) ← holding [ov] (getMethod ov m pl)
      callWith pos f first (backTo pos (starEach (e :: es) X.env)) (backToKw pos (keywordEach kws X.env))) := by rfl) :
    PE X (.Call (.Attribute o m apos) (e :: es) kws pos) (tMethN C m n ks.length sp gV E ta t tk) := by
  refine ⟨fun pins s σ H Q I h => ?_⟩
  refine PySem.W.methodCall_KW (pl := pl) (thn (he.run pins s σ H _ I h) fun u s1 ⟨x, H1, I1, rx, a, dx, fs, ex, ea, l, q⟩ => ?_) ht
  subst ex
  obtain rfl : u = Value.ref a := rx
  refine getmeth_ok I1 ea c hm l ?_
  refine PySem.W.callWith_KW (first := [.ref a]) (h₀ := X.base) I.ok.mod.kin hm.kp hall (thn (ha.run pos pins s1 σ H1 _ I1 q) fun us s2 ⟨vs, H2, I2, r, q2⟩ => ?_) hpl hst
  refine thn (hkw.run pos pins s2 σ H2 _ I2 q2) fun ws s3 ⟨zs, H3, I3, rz, l1, l2, q3⟩ => ⟨I3.kIn, ?_⟩
  rw [hks]
  exact run_fnN (us := .ref a :: us) (vs := .ref a :: vs) F hr hb hx I3 (.cons rfl r) rz (by simp [l1]) l2 q3
end
section
variable {K : PySem.W.Frag} {σ : St} {H : Hp} {Q : VK} {D : Ends} {td ty tv ta : TE} {tr tk : TA} {u : TS} {E : XK}
theorem g_methN {C : Addr} {m : Str} {n j : Nat} {sp : Sp} {gV : List V → List V → List V} (q : ta σ H fun x H1 => MW C m x H1 (tr σ H1 fun vs H2 => tk σ H2 fun zs H3 => vs.length = n ∧ zs.length = j ∧ sp (gV (x :: vs) zs) H3 Q E)) : tMethN C m n j sp gV E ta tr tk σ H Q := q
theorem g_augS {to ti te : TE} {tget : V → V → Hp → VK → Prop} {tip : TIp} {tset : TSet} (q : to σ H fun o H1 => ti σ H1 fun i H2 => tget o i H2 fun x H3 => te σ H3 fun y H4 => tip x y H4 fun z H5 => tset o i z H5 fun H6 => D.nx σ H6) : tAugS to ti te tget tip tset D σ H := q
theorem g_getL {p : Addr} {xs : List V} {j : Nat} {k : Int} {v : V} (h : SqL K H p xs) (e : k = (j : Int)) (hv : xs[j]? = some v) (q : Q v H) : rGetL K (.ref p) (.int k) H Q := by subst e; exact ⟨p, xs, j, v, rfl, rfl, h, hv, q⟩
theorem g_ipI {f : Int → Int → Int} {a b : Int} (q : Q (.int (f a b)) H) : ipI f (.int a) (.int b) H Q := ⟨a, b, rfl, rfl, q⟩
def DgW (x y : V) (H : Hp) (Q : VK) : Prop := ∃ a v, x = .ref a ∧ DGet H a y (some v) ∧ Q v H
theorem g_dget (q : td σ H fun x H1 => ty σ H1 fun y H2 => DgW x y H2 Q) : tDGet td ty σ H Q := q
theorem g_DgW {a : Addr} {kvs : List (Key × V)} {k : Str} {v : V} (h : H a = some (.dK kvs)) (e : valV kvs (.inr k) = some v) (q : Q v H) : DgW (.ref a) (.str k) H Q := ⟨a, v, rfl, e ▸ DGet.k (k := .inr k) h, q⟩
def DpW (x y v : V) (H : Hp) (QH : Hp → Prop) : Prop := ∃ a H4, x = .ref a ∧ DPut H a y v H4 ∧ QH H4
theorem g_dput (q : tv σ H fun v H1 => td σ H1 fun x H2 => ty σ H2 fun y H3 => DpW x y v H3 fun H4 => D.nx σ H4) : sDPut td ty tv D σ H := q
theorem g_seqP (q : tv σ H fun v H1 => td σ H1 fun x H2 => ty σ H2 fun y H3 => DpW x y v H3 fun H4 => u D σ H4) : tSeq (sDPut td ty tv) u D σ H := q
theorem g_DpW {a : Addr} {kvs : List (Key × V)} {k : Str} {v : V} {QH : Hp → Prop} (h : H a = some (.dK kvs)) (z : kvs.length < 1000) (q : QH (upd H a (.dK (putK kvs (.inr k) v)))) : DpW (.ref a) (.str k) v H QH :=
  ⟨a, _, rfl, DPut.k (k := .inr k) h (by rw [sizeLine_eq]; omega), q⟩
theorem g_disp {trs : List (TE × TE)} (q : ∀ p, H p = none → tPairs trs σ (upd H p (.dK [])) fun ps H2 => H2 p = some (.dK []) ∧ ∃ kvs : List (Key × V), ps = kvs.map (fun kv => (kV kv.1, kv.2)) ∧ kvs.length ≤ 15 ∧ Q (.ref p) (upd H2 p (.dK (mergeK [] kvs)))) : tDisp trs σ H Q := q
theorem g_pcons {tk tv : TE} {r : List (TE × TE)} {QP : List (V × V) → Hp → Prop} (q : tk σ H fun x H1 => tv σ H1 fun y H2 => tPairs r σ H2 fun ps H3 => QP ((x, y) :: ps) H3) : tPairs ((tk, tv) :: r) σ H QP := q
theorem g_pnil {QP : List (V × V) → Hp → Prop} (q : QP [] H) : tPairs [] σ H QP := q
theorem g_gLst {n : Nat} {ts : TGs} {a : Addr} {xs : List V} {QG : St → Hp → Prop} (h : SqL K H a xs) (e : xs.length = n) (q : ts xs σ H QG) : gLst K n ts (.ref a) σ H QG := ⟨a, xs, rfl, h, e, q⟩
theorem g_asgL {n : Nat} {ts : TGs} (q : ta σ H fun x H1 => gLst K n ts x σ H1 D.nx) : tAsg ta (gLst K n ts) D σ H := q
theorem g_seqL {n : Nat} {ts : TGs} (q : ta σ H fun x H1 => gLst K n ts x σ H1 fun σ2 H2 => u D σ2 H2) : tSeq (tAsg ta (gLst K n ts)) u D σ H := q
end
/-! ### rows of cells: what a side, and the law's model of it, hold -/
structure Rows where
  sure : List Cell
  seen : List Cell
  wait : List (Nat × Cell)
def wtD (w : Nat × Cell) : PyData := .tuple [.int (w.1 : Int), cellD w.2]
def Rows.put (m : Rows) (n : Nat) (c : Cell) : Rows := ⟨m.sure, m.seen.set n c, m.wait ++ [(n, c)]⟩
def barL (s : List Cell) (w : List (Nat × Cell)) : List Cell := w.foldl (fun l q => l.set q.1 q.2) s
def Rows.bar (m : Rows) : Rows := ⟨barL m.sure m.wait, m.seen, []⟩
def Rows.decay (m : Rows) (n : Nat) (c : Cell) : Rows := ⟨m.sure.set n c, if n ∈ m.wait.map (·.1) then m.seen else m.seen.set n c, m.wait⟩
def leftStep (kept torn : List Int) (w : List (Nat × Cell)) (l : List Cell) (i : Nat) : List Cell :=
  match w[i]? with
  | none => l
  | some q => if (i : Int) ∈ torn then l.set q.1 none else if (i : Int) ∈ kept then l.set q.1 q.2 else l
def leftTo (s : List Cell) (w : List (Nat × Cell)) (kept torn : List Int) (k : Nat) : List Cell := (List.range k).foldl (leftStep kept torn w) s
def Rows.left (m : Rows) (kept torn : List Int) : Rows := ⟨leftTo m.sure m.wait kept torn m.wait.length, leftTo m.sure m.wait kept torn m.wait.length, []⟩
def Rows.settle (m : Rows) : Rows := ⟨m.seen, m.seen, []⟩
theorem leftTo_succ {s : List Cell} {w : List (Nat × Cell)} {kept torn : List Int} {k : Nat} : leftTo s w kept torn (k + 1) = leftStep kept torn w (leftTo s w kept torn k) k := by
  unfold leftTo
  rw [List.range_succ, List.foldl_append]
  rfl
theorem barL_snoc {s : List Cell} {w : List (Nat × Cell)} {q : Nat × Cell} : barL s (w ++ [q]) = (barL s w).set q.1 q.2 := by
  unfold barL
  rw [List.foldl_append]
  rfl
theorem barL_len (s : List Cell) (w : List (Nat × Cell)) : (barL s w).length = s.length := by
  induction w generalizing s with
  | nil => rfl
  | cons q r ih => unfold barL at ih ⊢; rw [List.foldl_cons, ih, List.length_set]
theorem leftStep_len {kept torn : List Int} {w : List (Nat × Cell)} {l : List Cell} {i : Nat} : (leftStep kept torn w l i).length = l.length := by
  unfold leftStep
  split
  · rfl
  · split
    · rw [List.length_set]
    · split
      · rw [List.length_set]
      · rfl
theorem leftTo_len {s : List Cell} {w : List (Nat × Cell)} {kept torn : List Int} : ∀ k, (leftTo s w kept torn k).length = s.length
  | 0 => rfl
  | k + 1 => by rw [leftTo_succ, leftStep_len, leftTo_len k]
/-- the three lists -/
structure ListsAt (K : PySem.W.Frag) (R H : Hp) (l1 l2 l3 : Addr) (u1 u2 u3 : List V) (m : Rows) : Prop where
  h1 : H l1 = some (.lst u1)
  h2 : H l2 = some (.lst u2)
  h3 : H l3 = some (.lst u3)
  d1 : DpAll K R u1 (m.sure.map cellD)
  d2 : DpAll K R u2 (m.seen.map cellD)
  d3 : DpAll K R u3 (m.wait.map wtD)
structure DevSt (K : PySem.W.Frag) (CD : Addr) (R H : Hp) (d a : Addr) (m : Rows) (l1 l2 l3 : Addr) : Prop where
  dev : DevAt CD H d a l1 l2 l3
  nd : [d, l1, l2, l3].Nodup
  non : ∀ x ∈ [d, l1, l2, l3], R x = none
  ls : ∃ u1 u2 u3, ListsAt K R H l1 l2 l3 u1 u2 u3 m
def DevOk (K : PySem.W.Frag) (CD : Addr) (R H : Hp) (d a : Addr) (m : Rows) (ds : List Addr) : Prop := ∃ l1 l2 l3, ds = [d, l1, l2, l3] ∧ DevSt K CD R H d a m l1 l2 l3
structure SideSt (K : PySem.W.Frag) (CS CD : Addr) (R H : Hp) (s a : Addr) (n : Int) (m : Rows) (d : Addr) (ds : List Addr) : Prop where
  side : SideIn CS H s a n d
  nin : s ∉ ds
  non : R s = none
  dev : DevOk K CD R H d a m ds
def SideOk (K : PySem.W.Frag) (CS CD : Addr) (R H : Hp) (s a : Addr) (n : Int) (m : Rows) (ms : List Addr) : Prop := ∃ d ds, ms = s :: ds ∧ SideSt K CS CD R H s a n m d ds
def modF (n : Int) (n1 n2 n3 : Addr) : List (Key × V) := [(.inr "seat", .int n), (.inr "sure", .ref n1), (.inr "seen", .ref n2), (.inr "waiting", .ref n3)]
structure ModSt (K : PySem.W.Frag) (R H : Hp) (g : Addr) (n : Int) (m : Rows) (n1 n2 n3 : Addr) : Prop where
  mod : H g = some (.dK (modF n n1 n2 n3))
  nd : [g, n1, n2, n3].Nodup
  non : ∀ x ∈ [g, n1, n2, n3], R x = none
  ls : ∃ u1 u2 u3, ListsAt K R H n1 n2 n3 u1 u2 u3 m
def ModOk (K : PySem.W.Frag) (R H : Hp) (g : Addr) (n : Int) (m : Rows) (ms : List Addr) : Prop := ∃ n1 n2 n3, ms = [g, n1, n2, n3] ∧ ModSt K R H g n m n1 n2 n3
section
variable {K : PySem.W.Frag} {CS CD : Addr} {R H R' H' : Hp} {s a d g l1 l2 l3 : Addr} {n : Int} {m : Rows} {ms ds M : List Addr} {u1 u2 u3 : List V}
theorem ListsAt.frame (h : ListsAt K R H l1 l2 l3 u1 u2 u3 m) (g : Gr M R H R' H') (a : l1 ∉ M) (b : l2 ∉ M) (c : l3 ∉ M) : ListsAt K R' H' l1 l2 l3 u1 u2 u3 m :=
  ⟨g.hh _ _ a h.h1, g.hh _ _ b h.h2, g.hh _ _ c h.h3, dpAll_mono g.rr h.d1, dpAll_mono g.rr h.d2, dpAll_mono g.rr h.d3⟩
theorem DevSt.has (h : DevSt K CD R H d a m l1 l2 l3) : ∀ x ∈ [d, l1, l2, l3], ∃ o, H x = some o := fun x hx => by
  obtain ⟨u1, u2, u3, ls⟩ := h.ls
  obtain ⟨dx, e⟩ := h.dev
  simp only [List.mem_cons, List.not_mem_nil, or_false] at hx
  rcases hx with rfl | rfl | rfl | rfl
  · exact ⟨_, e⟩
  · exact ⟨_, ls.h1⟩
  · exact ⟨_, ls.h2⟩
  · exact ⟨_, ls.h3⟩
theorem DevSt.frame (h : DevSt K CD R H d a m l1 l2 l3) (g : Gr M R H R' H') (dj : ∀ x ∈ [d, l1, l2, l3], x ∉ M) : DevSt K CD R' H' d a m l1 l2 l3 := by
  obtain ⟨u1, u2, u3, ls⟩ := h.ls
  obtain ⟨dx, e⟩ := h.dev
  refine ⟨⟨dx, g.hh _ _ (dj _ (by simp)) e⟩, h.nd, fun x hx => ?_, ⟨u1, u2, u3, ls.frame g (dj _ (by simp)) (dj _ (by simp)) (dj _ (by simp))⟩⟩
  obtain ⟨o, ho⟩ := h.has x hx
  exact g.fr _ _ ho (h.non x hx)
theorem DevOk.frame (h : DevOk K CD R H d a m ds) (g : Gr M R H R' H') (dj : ∀ x ∈ ds, x ∉ M) : DevOk K CD R' H' d a m ds := by
  obtain ⟨l1, l2, l3, rfl, h⟩ := h
  exact ⟨l1, l2, l3, rfl, h.frame g dj⟩
theorem DevOk.has (h : DevOk K CD R H d a m ds) : ∀ x ∈ ds, ∃ o, H x = some o := by obtain ⟨l1, l2, l3, rfl, h⟩ := h; exact h.has
theorem DevOk.non (h : DevOk K CD R H d a m ds) : ∀ x ∈ ds, R x = none := by obtain ⟨l1, l2, l3, rfl, h⟩ := h; exact h.non
theorem DevOk.ins (h : DevOk K CD R H d a m ds) : ∃ dx l1 l2 l3, H d = some (.ins CD dx [("layout", .ref a), ("sure", .ref l1), ("seen", .ref l2), ("waiting", .ref l3), ("fuse", .non), ("dark", .bl false)]) := by
  obtain ⟨l1, l2, l3, eds, dst⟩ := h
  obtain ⟨dx, hd⟩ := dst.dev
  exact ⟨dx, l1, l2, l3, hd⟩
theorem SideOk.frame (h : SideOk K CS CD R H s a n m ms) (g : Gr M R H R' H') (dj : ∀ x ∈ ms, x ∉ M) : SideOk K CS CD R' H' s a n m ms := by
  obtain ⟨d, ds, rfl, ⟨⟨sx, hs⟩, nin, non, dev⟩⟩ := h
  exact ⟨d, ds, rfl, ⟨⟨sx, g.hh _ _ (dj _ List.mem_cons_self) hs⟩, nin, g.fr _ _ hs non, dev.frame g fun x hx => dj x (List.mem_cons_of_mem _ hx)⟩⟩
theorem SideOk.has (h : SideOk K CS CD R H s a n m ms) : ∀ x ∈ ms, ∃ o, H x = some o := by
  obtain ⟨d, ds, rfl, ⟨⟨sx, hs⟩, nin, non, dev⟩⟩ := h
  intro x hx
  rcases List.mem_cons.mp hx with rfl | hx
  · exact ⟨_, hs⟩
  · exact dev.has x hx
theorem SideOk.non (h : SideOk K CS CD R H s a n m ms) : ∀ x ∈ ms, R x = none := by
  obtain ⟨d, ds, rfl, ⟨⟨sx, hs⟩, nin, non, dev⟩⟩ := h
  intro x hx
  rcases List.mem_cons.mp hx with rfl | hx
  · exact non
  · exact dev.non x hx
theorem ModSt.has (h : ModSt K R H g n m l1 l2 l3) : ∀ x ∈ [g, l1, l2, l3], ∃ o, H x = some o := fun x hx => by
  obtain ⟨u1, u2, u3, ls⟩ := h.ls
  simp only [List.mem_cons, List.not_mem_nil, or_false] at hx
  rcases hx with rfl | rfl | rfl | rfl
  · exact ⟨_, h.mod⟩
  · exact ⟨_, ls.h1⟩
  · exact ⟨_, ls.h2⟩
  · exact ⟨_, ls.h3⟩
theorem ModOk.frame (h : ModOk K R H g n m ms) (gr : Gr M R H R' H') (dj : ∀ x ∈ ms, x ∉ M) : ModOk K R' H' g n m ms := by
  obtain ⟨l1, l2, l3, rfl, h⟩ := h
  obtain ⟨u1, u2, u3, ls⟩ := h.ls
  refine ⟨l1, l2, l3, rfl, ⟨gr.hh _ _ (dj _ (by simp)) h.mod, h.nd, fun x hx => ?_, ⟨u1, u2, u3, ls.frame gr (dj _ (by simp)) (dj _ (by simp)) (dj _ (by simp))⟩⟩⟩
  obtain ⟨o, ho⟩ := h.has x hx
  exact gr.fr _ _ ho (h.non x hx)
theorem ModOk.has (h : ModOk K R H g n m ms) : ∀ x ∈ ms, ∃ o, H x = some o := by obtain ⟨l1, l2, l3, rfl, h⟩ := h; exact h.has
theorem ModOk.non (h : ModOk K R H g n m ms) : ∀ x ∈ ms, R x = none := by obtain ⟨l1, l2, l3, rfl, h⟩ := h; exact h.non
end
theorem nod4 {a b c d : Addr} (h : [a, b, c, d].Nodup) : a ≠ b ∧ a ≠ c ∧ a ≠ d ∧ b ≠ c ∧ b ≠ d ∧ c ≠ d := by
  simp only [List.nodup_cons, List.mem_cons, List.not_mem_nil, not_or, or_false, not_false_eq_true, List.nodup_nil, and_true] at h
  exact ⟨h.1.1, h.1.2.1, h.1.2.2, h.2.1.1, h.2.1.2, h.2.2⟩
theorem mk_nod4 {a b c d : Addr} (e01 : a ≠ b) (e02 : a ≠ c) (e03 : a ≠ d) (e12 : b ≠ c) (e13 : b ≠ d) (e23 : c ≠ d) : [a, b, c, d].Nodup := by
  simp only [List.nodup_cons, List.mem_cons, List.not_mem_nil, not_or, or_false, not_false_eq_true, List.nodup_nil, and_true]
  exact ⟨⟨e01, e02, e03⟩, ⟨e12, e13⟩, e23⟩
theorem non_of {R H R' H' : Hp} {M xs : List Addr} (has : ∀ x ∈ xs, ∃ o, H x = some o) (non : ∀ x ∈ xs, R x = none) (g : Gr M R H R' H') : ∀ x ∈ xs, R' x = none := fun x hx => let ⟨o, ho⟩ := has x hx; g.fr _ _ ho (non x hx)
theorem ixN_nat {n j : Nat} (h : j < n) : ixN n (j : Int) = some j := by
  unfold ixN
  simp
  omega
theorem nin2 {x a b : Addr} (h : x ≠ a) (k : x ≠ b) : x ∉ [a, b] := by simp [h, k]
theorem nin1 {x a : Addr} (h : x ≠ a) : x ∉ [a] := by simp [h]
theorem sub4 {a b c d : Addr} {M : List Addr} (h : ∀ x ∈ M, x ∈ [a, b, c, d]) : ∀ x ∈ M, x ∈ [a, b, c, d] := h
theorem wt_get {K : PySem.W.Frag} {R : Hp} {u3 : List V} {w : List (Nat × Cell)} {i : Nat} {x : V} (d3 : DpAll K R u3 (w.map wtD)) (hx : u3[i]? = some x) : ∃ q t v, w[i]? = some q ∧ x = .ref t ∧ SqT K R t [.int (q.1 : Int), v] ∧ Dp K R v (cellD q.2) := by
  obtain ⟨d, hd, dp⟩ := dpAll_get' d3 hx
  rw [List.getElem?_map] at hd
  cases e : w[i]? with
  | none => rw [e] at hd; cases hd
  | some q =>
    rw [e] at hd
    cases hd
    obtain ⟨t, y, v, rfl, ht, hy, hv⟩ := dpT2 dp
    obtain rfl := dp_int hy
    exact ⟨q, t, v, rfl, rfl, ht, hv⟩
/-- nothing in common -/
def Dj (a b : List Addr) : Prop := ∀ x ∈ a, x ∉ b
theorem Dj.symm {a b : List Addr} (h : Dj a b) : Dj b a := fun x hb ha => h x ha hb
/-- what may be new: of ms, or not there before -/
def Nw (H : Hp) (ms ms' : List Addr) : Prop := ∀ x ∈ ms', x ∈ ms ∨ H x = none
theorem Nw.refl {H : Hp} {ms : List Addr} : Nw H ms ms := fun _ h => .inl h
theorem Dj.nw {H : Hp} {ms ms' b : List Addr} (h : Dj ms b) (w : Nw H ms ms') (e : ∀ x ∈ b, ∃ o, H x = some o) : Dj ms' b := fun x hx hb => by
  rcases w x hx with q | q
  · exact h x q hb
  · obtain ⟨o, ho⟩ := e x hb; rw [ho] at q; cases q
theorem Dj.of_free {H : Hp} {p : Addr} {b : List Addr} (n : H p = none) (e : ∀ x ∈ b, ∃ o, H x = some o) : Dj [p] b := fun x hx hb => by
  rw [List.mem_singleton] at hx
  subst hx
  obtain ⟨o, ho⟩ := e _ hb; rw [ho] at n; cases n
theorem Dj.sub {a b c : List Addr} (h : Dj a b) (s : ∀ x ∈ c, x ∈ b) : Dj a c := fun x hx hc => h x hx (s x hc)
theorem Dj.app {a b c : List Addr} (h : Dj a b) (k : Dj a c) : Dj a (b ++ c) := fun x hx hc => by
  rcases List.mem_append.mp hc with q | q
  · exact h x hx q
  · exact k x hx q
section
variable {K : PySem.W.Frag} {CS CD : Addr} {R H R' H' H4 : Hp} {x dx s a d l1 l2 l3 : Addr} {n : Int} {m : Rows} {ms ds M : List Addr} {us : List V} {cs : List Cell}
/-- a device that was made just now -/
theorem dev_new (sR : Same R H) (nx : H x = none) (ndx : H dx = none) (g : Gr [x] R (upd (upd H dx (.own x)) x (.ins CD dx [])) R H4) (n1 : upd (upd H dx (.own x)) x (.ins CD dx []) l1 = none) (n2 : upd (upd H dx (.own x)) x (.ins CD dx []) l2 = none) (n3 : upd (upd H dx (.own x)) x (.ins CD dx []) l3 = none)
    (e12 : l1 ≠ l2) (e13 : l1 ≠ l3) (e23 : l2 ≠ l3) (hd : DevAt CD H4 x a l1 l2 l3) (h1 : H4 l1 = some (.lst us)) (h2 : H4 l2 = some (.lst us)) (h3 : H4 l3 = some (.lst [])) (du : DpAll K R us (cs.map cellD)) :
    Gr [] R H R H4 ∧ (∀ y ∈ [x, l1, l2, l3], H y = none) ∧ DevOk K CD R H4 x a ⟨cs, cs, []⟩ [x, l1, l2, l3] := by
  have sm : Same H (upd (upd H dx (.own x)) x (.ins CD dx [])) := made_same nx ndx
  have hx : upd (upd H dx (.own x)) x (.ins CD dx []) x = some (.ins CD dx []) := upd_same
  have x1 := ne_of_none hx n1
  have x2 := ne_of_none hx n2
  have x3 := ne_of_none hx n3
  have gA : Gr [] R H R H4 := ((Mu.ofSame sR sm).g.nil.trans g).forget (by intro y hy hn; rw [List.mem_singleton.mp hy]; exact nx)
  have fr : ∀ y ∈ [x, l1, l2, l3], H y = none := fun y hy => by
    simp only [List.mem_cons, List.not_mem_nil, or_false] at hy
    rcases hy with rfl | rfl | rfl | rfl
    · exact nx
    · exact sm.free n1
    · exact sm.free n2
    · exact sm.free n3
  exact ⟨gA, fr, l1, l2, l3, rfl, hd, mk_nod4 x1 x2 x3 e12 e13 e23, fun y hy => sR.free (fr y hy), us, us, [], h1, h2, h3, du, du, .nil⟩
/-- a side that was made just now -/
theorem side_new (sR : Same R H) (nx : H x = none) (ndx : H dx = none) (g : Gr [x] R (upd (upd H dx (.own x)) x (.ins CS dx [])) R H4) (nd : upd (upd H dx (.own x)) x (.ins CS dx []) d = none) (n1 : upd (upd H dx (.own x)) x (.ins CS dx []) l1 = none) (n2 : upd (upd H dx (.own x)) x (.ins CS dx []) l2 = none) (n3 : upd (upd H dx (.own x)) x (.ins CS dx []) l3 = none)
    (e12 : l1 ≠ l2) (e13 : l1 ≠ l3) (e23 : l2 ≠ l3) (hs : SideIn CS H4 x a n d) (hd : DevAt CD H4 d a l1 l2 l3) (h1 : H4 l1 = some (.lst us)) (h2 : H4 l2 = some (.lst us)) (h3 : H4 l3 = some (.lst [])) (du : DpAll K R us (cs.map cellD)) :
    Gr [] R H R H4 ∧ (∀ y ∈ [x, d, l1, l2, l3], H y = none) ∧ SideOk K CS CD R H4 x a n ⟨cs, cs, []⟩ [x, d, l1, l2, l3] := by
  have sm : Same H (upd (upd H dx (.own x)) x (.ins CS dx [])) := made_same nx ndx
  have hx : upd (upd H dx (.own x)) x (.ins CS dx []) x = some (.ins CS dx []) := upd_same
  have x0 := ne_of_none hx nd
  have x1 := ne_of_none hx n1
  have x2 := ne_of_none hx n2
  have x3 := ne_of_none hx n3
  have gA : Gr [] R H R H4 := ((Mu.ofSame sR sm).g.nil.trans g).forget (by intro y hy hn; rw [List.mem_singleton.mp hy]; exact nx)
  have fr : ∀ y ∈ [x, d, l1, l2, l3], H y = none := fun y hy => by
    simp only [List.mem_cons, List.not_mem_nil, or_false] at hy
    rcases hy with rfl | rfl | rfl | rfl | rfl
    · exact nx
    · exact sm.free nd
    · exact sm.free n1
    · exact sm.free n2
    · exact sm.free n3
  obtain ⟨ddx, hdd⟩ := hd
  have d1 : d ≠ l1 := by rintro rfl; rw [hdd] at h1; cases h1
  have d2 : d ≠ l2 := by rintro rfl; rw [hdd] at h2; cases h2
  have d3 : d ≠ l3 := by rintro rfl; rw [hdd] at h3; cases h3
  refine ⟨gA, fr, d, _, rfl, hs, ?_, sR.free nx, l1, l2, l3, rfl, ⟨ddx, hdd⟩, mk_nod4 d1 d2 d3 e12 e13 e23, fun y hy => sR.free (fr y (List.mem_cons_of_mem _ hy)), us, us, [], h1, h2, h3, du, du, .nil⟩
  simp only [List.mem_cons, List.not_mem_nil, or_false, not_or]
  exact ⟨x0, x1, x2, x3⟩
theorem dp_wo2 {l2 l3 : Addr} {u2 u3 : List V} {d : PyData} {v : V} (h2 : H l2 = some (.lst u2)) (h3 : H l3 = some (.lst u3)) (ne : l2 ≠ l3) (t : tupOnly d = true) (g : Gr [l2, l3] R H R' H') (h : Dp K H v d) : Dp K H' v d := by
  have e := dp_wo h2 t h
  have h3' : wo H l2 l3 = some (.lst u3) := by unfold wo; rw [if_neg (Ne.symm ne)]; exact h3
  have e := dp_wo h3' t e
  refine dp_mono (fun b o q => ?_) e
  unfold wo at q
  split at q
  · cases q
  · split at q
    · cases q
    · exact g.hh _ _ (by simp; exact ⟨by assumption, by assumption⟩) q
theorem dp_wo1 {D : Addr} {u : List V} {d : PyData} {v : V} (h2 : H D = some (.lst u)) (t : tupOnly d = true) (g : Gr [D] R H R' H') (h : Dp K H v d) : Dp K H' v d := by
  refine dp_mono (fun b o q => ?_) (dp_wo h2 t h)
  unfold wo at q
  split at q
  · cases q
  · exact g.hh _ _ (by simp; assumption) q
theorem dpAll_wo1 {D : Addr} {u : List V} {ds : List PyData} {vs : List V} (h2 : H D = some (.lst u)) (t : tupOnlyAll ds = true) (g : Gr [D] R H R' H') (h : DpAll K H vs ds) : DpAll K H' vs ds := by
  refine dpAll_mono (fun b o q => ?_) (dpAll_wo h2 t h)
  unfold wo at q
  split at q
  · cases q
  · exact g.hh _ _ (by simp; assumption) q
end
theorem only_lb (b : Option Lb) : tupOnly (lbD b) = true := by
  cases b with
  | none => simp [lbD, tupOnly]
  | some l => simp [lbD, Lb.d, tupOnly, tupOnlyAll, intsD, tupOnly_ints]
theorem only_cell (c : Cell) : tupOnly (cellD c) = true := by
  rcases c with _ | ⟨b, k⟩
  · simp [cellD, tupOnly]
  · cases b with
    | none => simp [cellD, optD, tupOnly, tupOnlyAll]
    | some b => simp [cellD, optD, tupOnly, tupOnlyAll, only_blk]
theorem only_cells : ∀ cs : List Cell, tupOnlyAll (cs.map cellD) = true
  | [] => by simp [tupOnlyAll]
  | c :: r => by rw [List.map_cons, tupOnlyAll, only_cell, only_cells r]; rfl
theorem cells_get {K : PySem.W.Frag} {R : Hp} {us : List V} {cs : List Cell} {i : Nat} {c : Cell} (h : DpAll K R us (cs.map cellD)) (e : cs[i]? = some c) : ∃ v, us[i]? = some v ∧ Dp K R v (cellD c) :=
  dpAll_get h (show (cs.map cellD)[i]? = some (cellD c) by rw [List.getElem?_map, e]; rfl)
/-- what is read at an address -/
def readC (L : Lay) (n : Int) : Cell → Option Blk
  | some (some b, k) => if k = chk L n (some b) then some b else none
  | _ => none
def rottenC (L : Lay) (n : Int) (c : Cell) : Bool := c.isSome && !whole L n c
theorem lbD_inj : ∀ {x y : Option Lb}, lbD x = lbD y → x = y
  | none, none, _ => rfl
  | none, some l, h => by simp [lbD, Lb.d] at h
  | some l, none, h => by simp [lbD, Lb.d] at h
  | some l, some e, h => by
    obtain ⟨g, m, b, f⟩ := l
    obtain ⟨g', m', b', f'⟩ := e
    simp only [lbD, Lb.d, intsD, PyData.tuple.injEq, List.cons.injEq, PyData.int.injEq, and_true] at h
    obtain ⟨h1, h2, h3, h4⟩ := h
    rw [h1, ints_inj h2, ints_inj h3, ints_inj h4]
theorem eqv_lbD (x y : Option Lb) : PyData.eqv (lbD x) (lbD y) = decide (x = y) :=
  eqv_dec (clean_lbD x) (clean_lbD y) (by rw [decide_eq_true_iff]; exact ⟨fun h => by rw [h], lbD_inj⟩)
/-- the two labels -/
def labsOf (L : Lay) (seat : Int) (m : Rows) : List (Option Lb) := [labelOf L seat (readC L L.device (m.seen.getD L.device.toNat none)), labelOf L seat (readC L (L.device + 1) (m.seen.getD (L.device.toNat + 1) none))]
def labOf (L : Lay) (seat : Int) (m : Rows) : Option Lb := newestOf (labsOf L seat m)
def slotOf (L : Lay) (seat : Int) (m : Rows) : Nat := if (labsOf L seat m).getD 0 none ≠ none ∧ (labsOf L seat m).getD 0 none = labOf L seat m then 1 else 0
/-- all that was made since H is read for ever -/
def adopt (R H H' : Hp) : Hp := fun b => match H b with
  | none => H' b
  | some _ => R b
theorem adopt_at {R H H' : Hp} {b : Addr} {o : HO} (n : H b = none) (e : H' b = some o) : adopt R H H' b = some o := by unfold adopt; rw [n]; exact e
theorem adopt_gr {R H H' : Hp} (sR : Same R H) (s : Same H H') : Gr [] R H (adopt R H H') H' := by
  refine ⟨fun b o e => ?_, fun b o e => ?_, fun b o _ e => s b o e, fun b o e n => ?_, fun b o e => ⟨o, s b o e⟩⟩
  · unfold adopt; rw [sR b o e]; exact e
  · unfold adopt at e
    split at e
    · exact e
    · exact s b o (sR b o e)
  · unfold adopt; rw [e]; exact n
def NewDp (K : PySem.W.Frag) (H H' : Hp) (w : V) (d : PyData) : Prop := ∀ R, Dp K (adopt R H H') w d
theorem dp_nones {K : PySem.W.Frag} {H : Hp} : ∀ k : Nat, DpAll K H (List.replicate k .non) ((List.replicate k (none : Cell)).map cellD)
  | 0 => .nil
  | k + 1 => by rw [List.replicate_succ, List.replicate_succ, List.map_cons]; exact .cons .non (dp_nones k)
end Sk

namespace Sk
open PySem L2
/-! ### blocks that rot: the plain side -/
/-- a block that may lie in a cell here -/
structure BW (L : Lay) (b : Blk) : Prop where
  x : BlkX L b
  oct : b.kind = 3 → ∀ n ∈ b.body, 0 ≤ n ∧ n < 256
  no : (found b.kind b.body).getD 0 0 ≠ 83 ∨ (found b.kind b.body).getD 3 0 ≠ 83
def CW (L : Lay) : Cell → Prop
  | none => True
  | some (b, _) => ∀ x, b = some x → BW L x
theorem BW.few {L : Lay} (hL : L.Ok) {b : Blk} (h : BW L b) : b.body.length ≤ 300 := (blkOk_of hL (b := some b) fun x e => by cases e; exact h.x).2
theorem BW.octblk {L : Lay} (hL : L.Ok) {b : Blk} (h : BW L b) : OctBlk L b := ⟨h.x.full.k, h.x.s0, h.x.full.d, h.few hL, h.oct⟩
theorem CW.ok {L : Lay} (hL : L.Ok) : ∀ {c : Cell}, CW L c → CellOk c
  | none, _ => trivial
  | some (none, _), _ => trivial
  | some (some b, _), h => by
    show BlkOk (some b)
    exact blkOk_of hL fun x e => by cases e; exact (h b rfl).x
theorem CW.octblk {L : Lay} (hL : L.Ok) {c : Cell} (h : CW L c) : ∀ b k, c = some (some b, k) → OctBlk L b := fun b k e => by subst e; exact (h b rfl).octblk hL
/-- octets of a cell -/
structure OW (L : Lay) (o : List Int) : Prop where
  len : (o.length : Int) = 16 + L.oct
  rng : ∀ n ∈ o, 0 ≤ n ∧ n < 256
  no : o.getD 16 0 ≠ 83 ∨ o.getD 19 0 ≠ 83
def readO (o : List Int) : Option Blk := if 3 ≤ o.getD 0 0 ∧ o.getD 0 0 ≤ 5 ∧ (∀ n ∈ (o.drop 9).take 7, n = 0) then
  some ⟨o.getD 0 0, numOf ((o.drop 1).take 6), numOf ((o.drop 7).take 2), if o.getD 0 0 = 3 then o.drop 16 else halves (o.drop 16)⟩ else none
theorem getD_app16 {l m : List Int} {n : Nat} (h : l.length = n) (i : Nat) : (l ++ m).getD (n + i) 0 = m.getD i 0 := by
  rw [List.getD_eq_getElem?_getD, List.getD_eq_getElem?_getD, List.getElem?_append_right (by omega), h, Nat.add_sub_cancel_left]
theorem pairs_oct : ∀ {l : List Int}, (∀ n ∈ l, 0 ≤ n ∧ n < 65536) → ∀ n ∈ pairs l, 0 ≤ n ∧ n < 256
  | [], _, n, h => by rw [pairs] at h; exact absurd h List.not_mem_nil
  | a :: r, h, n, hn => by
    have ha := h a List.mem_cons_self
    rw [pairs] at hn
    rcases List.mem_cons.mp hn with rfl | hn
    · omega
    · rcases List.mem_cons.mp hn with rfl | hn
      · omega
      · exact pairs_oct (fun x hx => h x (List.mem_cons_of_mem _ hx)) n hn
theorem found_oct {L : Lay} {b : Blk} (h : BW L b) : ∀ n ∈ found b.kind b.body, 0 ≤ n ∧ n < 256 := by
  unfold found
  split
  · exact h.oct (by assumption)
  · exact pairs_oct (h.x.full.r (by assumption))
theorem OW.of {L : Lay} (hL : L.Ok) {b : Blk} (h : BW L b) : OW L (octs L (some b)) := by
  refine ⟨octs_len hL fun x e => by cases e; exact h.x, fun n hn => ?_, ?_⟩
  · rw [octs_full h.x.full] at hn
    rcases List.mem_append.mp hn with hn | hn
    · unfold headOf at hn
      rcases List.mem_append.mp hn with hn | hn
      · rcases List.mem_append.mp hn with hn | hn
        · rcases List.mem_append.mp hn with hn | hn
          · rw [List.mem_singleton] at hn
            have := h.x.k5; have := h.x.full.k
            omega
          · exact lows_oct _ _ _ hn
        · exact lows_oct _ _ _ hn
      · rw [List.eq_of_mem_replicate hn]; decide
    · exact found_oct h n hn
  · rw [octs_full h.x.full]
    have e0 := getD_app16 (m := found b.kind b.body) (headOf_len b) 0
    have e3 := getD_app16 (m := found b.kind b.body) (headOf_len b) 3
    rw [e0, e3]
    exact h.no
theorem OW.set {L : Lay} {o : List Int} (h : OW L o) {v : Int} (v0 : 0 ≤ v) (v1 : v < 80) (i : Nat) : OW L (o.set i v) := by
  refine ⟨by rw [List.length_set]; exact h.len, fun n hn => ?_, ?_⟩
  · rcases List.mem_or_eq_of_mem_set hn with hn | rfl
    · exact h.rng n hn
    · omega
  · have g : ∀ j : Nat, o.getD j 0 ≠ 83 → (o.set i v).getD j 0 ≠ 83 := fun j hj => by
      rw [List.getD_eq_getElem?_getD] at hj ⊢
      by_cases e : i = j
      · subst e
        by_cases hl : i < o.length
        · rw [List.getElem?_set_self hl]; simp; omega
        · rw [List.getElem?_eq_none (by rw [List.length_set]; omega)]; simp
      · rw [List.getElem?_set_ne e]; exact hj
    rcases h.no with h | h
    · exact .inl (g _ h)
    · exact .inr (g _ h)
theorem pairs_halves : ∀ (k : Nat) {o : List Int}, o.length = 2 * k → (∀ n ∈ o, 0 ≤ n ∧ n < 256) → pairs (halves o) = o
  | 0, o, h, _ => by
    have : o = [] := List.length_eq_zero_iff.mp (by omega)
    subst this; rfl
  | k + 1, a :: b :: r, h, hr => by
    have hr2 : r.length = 2 * k := by simp only [List.length_cons] at h; omega
    have ih := pairs_halves k hr2 (fun x hx => hr x (by simp [hx]))
    have ha := hr a (by simp)
    have hb := hr b (by simp)
    have e : halves (a :: b :: r) = (a + 256 * b) :: halves r := by
      unfold halves
      rw [show (a :: b :: r).length / 2 = r.length / 2 + 1 by simp only [List.length_cons]; omega, List.range_succ_eq_map, List.map_cons, List.map_map]
      congr 1
    rw [e, pairs, ih]
    congr 1
    · omega
    · congr 1; omega
  | k + 1, [a], h, _ => by simp at h; omega
  | k + 1, [], h, _ => by simp at h
theorem halves_rng {o : List Int} (h : ∀ n ∈ o, 0 ≤ n ∧ n < 256) : ∀ n ∈ halves o, 0 ≤ n ∧ n < 65536 := fun n hn => by
  unfold halves at hn
  obtain ⟨k, hk, rfl⟩ := List.mem_map.mp hn
  rw [List.mem_range] at hk
  have g : ∀ i, i < o.length → 0 ≤ o.getD i 0 ∧ o.getD i 0 < 256 := fun i hi => by
    rw [List.getD_eq_getElem?_getD, List.getElem?_eq_getElem hi]; exact h _ (List.getElem_mem hi)
  have := g (2 * k) (by omega)
  have := g (2 * k + 1) (by omega)
  omega
theorem numOf_rng : ∀ {l : List Int}, (∀ n ∈ l, 0 ≤ n ∧ n < 256) → 0 ≤ numOf l ∧ numOf l < 256 ^ l.length
  | [], _ => by simp [numOf]
  | a :: r, h => by
    have ih := numOf_rng (l := r) fun x hx => h x (List.mem_cons_of_mem _ hx)
    have ha := h a List.mem_cons_self
    rw [numOf, List.length_cons, Int.pow_succ]
    omega
theorem lows_numOf : ∀ {l : List Int}, (∀ n ∈ l, 0 ≤ n ∧ n < 256) → lows (numOf l) l.length = l
  | [], _ => rfl
  | a :: r, h => by
    have ih := lows_numOf (l := r) fun x hx => h x (List.mem_cons_of_mem _ hx)
    have ha := h a List.mem_cons_self
    rw [List.length_cons, lows, numOf]
    rw [show (numOf r * 256 + a) % 256 = a by omega, show (numOf r * 256 + a) / 256 = numOf r by omega, ih]
/-- the block that octets of a kind tell, read or not -/
def bareO (o : List Int) : Blk := ⟨o.getD 0 0, numOf ((o.drop 1).take 6), numOf ((o.drop 7).take 2), if o.getD 0 0 = 3 then o.drop 16 else halves (o.drop 16)⟩
theorem readO_eq (o : List Int) : readO o = if 3 ≤ o.getD 0 0 ∧ o.getD 0 0 ≤ 5 ∧ (∀ n ∈ (o.drop 9).take 7, n = 0) then some (bareO o) else none := rfl
section
variable {L : Lay} {o : List Int}
theorem OW.sub (h : OW L o) (i k : Nat) : ∀ n ∈ (o.drop i).take k, 0 ≤ n ∧ n < 256 := fun n hn => h.rng n (List.mem_of_mem_drop (List.mem_of_mem_take hn))
theorem OW.split (hL : L.Ok) (h : OW L o) : o = ([o.getD 0 0] ++ (o.drop 1).take 6 ++ (o.drop 7).take 2) ++ (o.drop 9).take 7 ++ o.drop 16 := by
  have := h.len; have o1 := hL.o1
  match o, show 16 ≤ o.length by omega with
  | b0 :: b1 :: b2 :: b3 :: b4 :: b5 :: b6 :: b7 :: b8 :: b9 :: b10 :: b11 :: b12 :: b13 :: b14 :: b15 :: r, _ => rfl
theorem OW.bare_full (hL : L.Ok) (h : OW L o) (k3 : 3 ≤ o.getD 0 0) : Full L (bareO o) := by
  have hl := h.len; have o1 := hL.o1
  refine ⟨k3, fun e => ?_, fun e => ?_, fun e => ?_⟩
  · have e' : o.getD 0 0 = 3 := e
    show ((if o.getD 0 0 = 3 then o.drop 16 else halves (o.drop 16)).length : Int) = _
    rw [if_pos e', List.length_drop]; omega
  · have e' : ¬ o.getD 0 0 = 3 := e
    show 2 * ((if o.getD 0 0 = 3 then o.drop 16 else halves (o.drop 16)).length : Int) = _
    rw [if_neg e']
    unfold halves
    rw [List.length_map, List.length_range, List.length_drop]; omega
  · have e' : ¬ o.getD 0 0 = 3 := e
    show ∀ n ∈ (if o.getD 0 0 = 3 then o.drop 16 else halves (o.drop 16)), _
    rw [if_neg e']
    exact halves_rng fun n hn => h.rng n (List.mem_of_mem_drop hn)
theorem OW.bare_found (hL : L.Ok) (h : OW L o) : found (bareO o).kind (bareO o).body = o.drop 16 := by
  have hl := h.len; have o1 := hL.o1
  show found (o.getD 0 0) (if o.getD 0 0 = 3 then o.drop 16 else halves (o.drop 16)) = _
  unfold found
  split
  · rfl
  · exact pairs_halves ((o.length - 16) / 2) (by rw [List.length_drop]; omega) fun n hn => h.rng n (List.mem_of_mem_drop hn)
theorem OW.bare_octs (hL : L.Ok) (h : OW L o) (k3 : 3 ≤ o.getD 0 0) : octs L (some (bareO o)) = o ↔ ∀ n ∈ (o.drop 9).take 7, n = 0 := by
  have hl := h.len; have o1 := hL.o1
  have sp := h.split hL
  have l6 : ((o.drop 1).take 6).length = 6 := by rw [List.length_take, List.length_drop]; omega
  have l2 : ((o.drop 7).take 2).length = 2 := by rw [List.length_take, List.length_drop]; omega
  have l7 : ((o.drop 9).take 7).length = 7 := by rw [List.length_take, List.length_drop]; omega
  have e6 := lows_numOf (h.sub 1 6)
  have e2 := lows_numOf (h.sub 7 2)
  rw [l6] at e6
  rw [l2] at e2
  rw [octs_full (h.bare_full hL k3), h.bare_found hL]
  have eh : headOf (bareO o) = ([o.getD 0 0] ++ (o.drop 1).take 6 ++ (o.drop 7).take 2) ++ List.replicate 7 0 := by
    unfold headOf
    show ([o.getD 0 0] ++ lows (numOf ((o.drop 1).take 6)) 6 ++ lows (numOf ((o.drop 7).take 2)) 2) ++ _ = _
    rw [e6, e2]
  rw [eh]
  constructor
  · intro e n hn
    have e' := e.trans sp
    have e' := List.append_cancel_right e'
    have e' := List.append_cancel_left e'
    rw [← e'] at hn
    exact List.eq_of_mem_replicate hn
  · intro e
    have : (o.drop 9).take 7 = List.replicate 7 0 := List.eq_replicate_iff.mpr ⟨l7, e⟩
    rw [← this]
    exact sp.symm
theorem OW.read (hL : L.Ok) (h : OW L o) {b : Blk} (e : readO o = some b) : BW L b := by
  have hl := h.len; have o1 := hL.o1
  rw [readO_eq] at e
  split at e
  · rename_i c
    obtain ⟨c3, c5, c0⟩ := c
    cases e
    have r6 := numOf_rng (h.sub 1 6)
    have r2 := numOf_rng (h.sub 7 2)
    rw [show ((o.drop 1).take 6).length = 6 by rw [List.length_take, List.length_drop]; omega] at r6
    rw [show ((o.drop 7).take 2).length = 2 by rw [List.length_take, List.length_drop]; omega] at r2
    refine ⟨⟨h.bare_full hL c3, c5, r6.1, ?_, r2.1, ?_⟩, fun e => ?_, ?_⟩
    · have := r6.2; show numOf ((o.drop 1).take 6) < 281474976710656; omega
    · have := r2.2; show numOf ((o.drop 7).take 2) < 65536; omega
    · have e' : o.getD 0 0 = 3 := e
      show ∀ n ∈ (if o.getD 0 0 = 3 then o.drop 16 else halves (o.drop 16)), _
      rw [if_pos e']
      exact fun n hn => h.rng n (List.mem_of_mem_drop hn)
    · rw [h.bare_found hL]
      have g : ∀ j : Nat, (o.drop 16).getD j 0 = o.getD (16 + j) 0 := fun j => by
        rw [List.getD_eq_getElem?_getD, List.getD_eq_getElem?_getD, List.getElem?_drop]
      rw [g, g]
      exact h.no
  · cases e
end
/-! what rot makes of rows -/
def Rows.rot (L : Lay) (m : Rows) (n i : Nat) (v : Int) : Rows := match m.sure[n]? with
  | some (some (some b, k)) => m.decay n (some (readO ((octs L (some b)).set i v), k))
  | _ => m
/-! ### rows that keep the rules -/
structure RsW (L : Lay) (k : Nat) (m : Rows) : Prop where
  ls : (m.sure.length : Int) = L.device + 2
  ln : (m.seen.length : Int) = L.device + 2
  lw : m.wait.length ≤ k
  wi : ∀ q ∈ m.wait, q.1 < m.sure.length
  c1 : ∀ c ∈ m.sure, CW L c
  c2 : ∀ c ∈ m.seen, CW L c
  c3 : ∀ q ∈ m.wait, CW L q.2
section
variable {L : Lay} {k : Nat} {m : Rows}
theorem RsW.up (h : RsW L k m) {j : Nat} (z : k ≤ j) : RsW L j m := ⟨h.ls, h.ln, Nat.le_trans h.lw z, h.wi, h.c1, h.c2, h.c3⟩
theorem mem_set {P : Cell → Prop} {l : List Cell} {n : Nat} {c : Cell} (h : ∀ x ∈ l, P x) (hc : P c) : ∀ x ∈ l.set n c, P x := fun x hx => by
  rcases List.mem_or_eq_of_mem_set hx with hx | rfl
  · exact h x hx
  · exact hc
theorem RsW.put (h : RsW L k m) {n : Nat} {c : Cell} (hn : n < m.sure.length) (hc : CW L c) : RsW L (k + 1) (m.put n c) :=
  ⟨h.ls, by show ((m.seen.set n c).length : Int) = _; rw [List.length_set]; exact h.ln, by show (m.wait ++ [(n, c)]).length ≤ _; rw [List.length_append]; have := h.lw; simp; omega,
    fun q hq => by rcases List.mem_append.mp hq with hq | hq; exact h.wi q hq; rw [List.mem_singleton] at hq; subst hq; exact hn,
    h.c1, mem_set h.c2 hc, fun q hq => by rcases List.mem_append.mp hq with hq | hq; exact h.c3 q hq; rw [List.mem_singleton] at hq; subst hq; exact hc⟩
theorem barL_mem {P : Cell → Prop} : ∀ {w : List (Nat × Cell)} {s : List Cell}, (∀ x ∈ s, P x) → (∀ q ∈ w, P q.2) → ∀ x ∈ barL s w, P x
  | [], _, h, _ => h
  | q :: r, s, h, hw => by
    have e : barL s (q :: r) = barL (s.set q.1 q.2) r := rfl
    rw [e]
    exact barL_mem (mem_set h (hw q List.mem_cons_self)) fun x hx => hw x (List.mem_cons_of_mem _ hx)
theorem RsW.bar (h : RsW L k m) : RsW L 0 m.bar := ⟨by show ((barL m.sure m.wait).length : Int) = _; rw [barL_len]; exact h.ls, h.ln, Nat.le_refl 0, fun q hq => absurd hq List.not_mem_nil, barL_mem h.c1 h.c3, h.c2, fun q hq => absurd hq List.not_mem_nil⟩
theorem RsW.decay (h : RsW L k m) {n : Nat} {c : Cell} (hc : CW L c) : RsW L k (m.decay n c) := by
  refine ⟨by show ((m.sure.set n c).length : Int) = _; rw [List.length_set]; exact h.ls, ?_, h.lw, fun q hq => by show _ < (m.sure.set n c).length; rw [List.length_set]; exact h.wi q hq, mem_set h.c1 hc, ?_, h.c3⟩
  · show ((if n ∈ m.wait.map (·.1) then m.seen else m.seen.set n c).length : Int) = _
    split
    · exact h.ln
    · rw [List.length_set]; exact h.ln
  · show ∀ x ∈ (if n ∈ m.wait.map (·.1) then m.seen else m.seen.set n c), _
    split
    · exact h.c2
    · exact mem_set h.c2 hc
theorem leftStep_mem {P : Cell → Prop} (h0 : P none) {kept torn : List Int} {w : List (Nat × Cell)} {l : List Cell} {i : Nat} (h : ∀ x ∈ l, P x) (hw : ∀ q ∈ w, P q.2) : ∀ x ∈ leftStep kept torn w l i, P x := by
  unfold leftStep
  split
  · exact h
  · rename_i q e
    split
    · exact mem_set h h0
    · split
      · exact mem_set h (hw q (List.mem_of_getElem? e))
      · exact h
theorem leftTo_mem {P : Cell → Prop} (h0 : P none) {s : List Cell} {kept torn : List Int} {w : List (Nat × Cell)} (h : ∀ x ∈ s, P x) (hw : ∀ q ∈ w, P q.2) : ∀ k, ∀ x ∈ leftTo s w kept torn k, P x
  | 0 => h
  | k + 1 => by rw [leftTo_succ]; exact leftStep_mem h0 (leftTo_mem h0 h hw k) hw
theorem RsW.left (h : RsW L k m) (kept torn : List Int) : RsW L 0 (m.left kept torn) := by
  have c := leftTo_mem (P := CW L) trivial (kept := kept) (torn := torn) h.c1 h.c3 m.wait.length
  have l : ((leftTo m.sure m.wait kept torn m.wait.length).length : Int) = L.device + 2 := by rw [leftTo_len]; exact h.ls
  exact ⟨l, l, Nat.le_refl 0, fun q hq => absurd hq List.not_mem_nil, c, c, fun q hq => absurd hq List.not_mem_nil⟩
theorem RsW.settle (h : RsW L k m) : RsW L 0 m.settle := ⟨h.ln, h.ln, Nat.le_refl 0, fun q hq => absurd hq List.not_mem_nil, h.c2, h.c2, fun q hq => absurd hq List.not_mem_nil⟩
theorem RsW.rot (hL : L.Ok) (h : RsW L k m) {n i : Nat} {v : Int} (v0 : 0 ≤ v) (v1 : v < 80) : RsW L k (m.rot L n i v) := by
  unfold Rows.rot
  split
  · rename_i b c e
    have hb : BW L b := h.c1 _ (List.mem_of_getElem? e) b rfl
    exact h.decay fun x hx => ((OW.of hL hb).set v0 v1 i).read hL hx
  · exact h
end
theorem labelBlk_W {L : Lay} (hL : L.Ok) {seat : Int} (h0 : 0 ≤ seat) (h3 : seat < 3) {l : Lb} (g : 0 ≤ l.gen) (g1 : l.gen < 281474976710656) (few : l.forks.length ≤ 16) : BW L (labelBlk L seat l) := by
  have o := octblk_label hL h0 h3 g few
  refine ⟨⟨⟨Int.le_refl 3, o.len, fun e => absurd rfl e, fun e => absurd rfl e⟩, by show (3 : Int) ≤ 5; decide, g, g1, Int.le_refl 0, by show (0 : Int) < 65536; decide⟩, o.oct, .inr ?_⟩
  show (found 3 (labelOcts L seat l)).getD 3 0 ≠ 83
  show (labelOcts L seat l).getD 3 0 ≠ 83
  have : (labelOcts L seat l).getD 3 0 = 69 := rfl
  rw [this]
  decide
theorem sealW {L : Lay} {n : Int} {b : Option Blk} (h : ∀ x, b = some x → BW L x) : CW L (sealOf L n b) := by
  cases b with
  | none => trivial
  | some b => exact fun x e => by cases e; exact h b rfl
theorem sqL_frame {K : PySem.W.Frag} {R H H1 : Hp} {c p : Addr} {us : List V} (g : Gr [p] R H R H1) (h : SqL K H c us) (ne : c ≠ p) : SqL K H1 c us := by
  rcases h with (h | ⟨o, h⟩) | h
  · exact .inl (.inl (g.hh _ _ (nin1 ne) h))
  · exact .inl (.inr ⟨o, g.hh _ _ (nin1 ne) h⟩)
  · exact .inr h
theorem sqL_new {K : PySem.W.Frag} {R H H1 H2 : Hp} {c p : Addr} {us : List V} {o : HO} (n : H p = none) (g1 : Gr [] R H R H1) (e : H1 p = some o) (g : Gr [p] R H1 R H2) (h : SqL K H c us) : SqL K H2 c us := by
  rcases h with (h | ⟨o, h⟩) | h
  · exact .inl (.inl (g.hh _ _ (nin1 (ne_of_none h n)) (g1.same _ _ h)))
  · exact .inl (.inr ⟨o, g.hh _ _ (nin1 (ne_of_none h n)) (g1.same _ _ h)⟩)
  · exact .inr h
/-! comprehensions that draw -/
def DrawInv (R H0 : Hp) (b D : Addr) (j : Nat) (H : Hp) : Prop := ∃ (m : Int) (us : List Int), Mu [b, D] R H0 H ∧ H b = some (.lst [.int m]) ∧ H D = some (.lst (us.map V.int)) ∧ us.length ≤ j
theorem Gr.app {M : List Addr} {R H0 H : Hp} {D : Addr} {o o' : HO} (g : Gr M R H0 R H) (RD : R D = none) (hD : H D = some o) (hM : D ∈ M) : Gr M R H0 R (upd H D o') :=
  g.trans ((Gr.mut g.rh RD hD).mono fun x hx => by rw [List.mem_singleton.mp hx]; exact hM)
theorem draw_0 {R H : Hp} {b D : Addr} {n : Int} (sR : Same R H) (hb : H b = some (.lst [.int n])) (nD : H D = none) : DrawInv R (upd H D (.lst [])) b D 0 (upd H D (.lst [])) :=
  ⟨n, [], ⟨Gr.refl (Gr.newM (M := []) sR nD).rh⟩, by rw [upd_ne (ne_of_none hb nD)]; exact hb, upd_same, Nat.le_refl _⟩
theorem draw_end {R H H1 : Hp} {b D : Addr} {j : Nat} (sR : Same R H) (nD : H D = none) (h : DrawInv R (upd H D (.lst [])) b D j H1) : ∃ (m : Int) (us : List Int), Mu [b] R H H1 ∧ H1 b = some (.lst [.int m]) ∧ H1 D = some (.lst (us.map V.int)) ∧ us.length ≤ j := by
  obtain ⟨n1, us1, g1, h1, hD1, ul1⟩ := h
  exact ⟨n1, us1, ⟨(show Gr [b, D] R H R H1 from ((Gr.newM (M := []) sR nD).nil).trans g1.g).forget (by intro x hx hn; simp at hx hn; rcases hx with rfl | rfl; exact absurd rfl hn; exact nD)⟩, h1, hD1, ul1⟩
theorem pick3 {x y z j : Int} (h : 0 ≤ j ∧ j < 3) : ∃ q, atI [V.int x, .int y, .int z] j = some (.int q) ∧ (q = x ∨ q = y ∨ q = z) := by
  obtain ⟨i, rfl⟩ := Int.eq_ofNat_of_zero_le h.1
  match i, h with
  | 0, _ => exact ⟨x, rfl, .inl rfl⟩
  | 1, _ => exact ⟨y, rfl, .inr (.inl rfl)⟩
  | 2, _ => exact ⟨z, rfl, .inr (.inr rfl)⟩
  | n + 3, h => omega
theorem pickT {x y j : Int} (h : 0 ≤ j ∧ j < 2) : ∃ q, atI [V.int x, .int y] j = some (.int q) ∧ (q = x ∨ q = y) := by
  have : j = 0 ∨ j = 1 := by omega
  rcases this with rfl | rfl
  · exact ⟨x, rfl, .inl rfl⟩
  · exact ⟨y, rfl, .inr rfl⟩
theorem mod_rng (n : Int) {z : Int} (h : 0 < z) : 0 ≤ n % z ∧ n % z < z := ⟨Int.emod_nonneg _ (by omega), Int.emod_lt_of_pos _ h⟩
/-- what is new is apart from what was there -/
theorem Dj.new {H : Hp} {a b : List Addr} (n : ∀ x ∈ a, H x = none) (e : ∀ x ∈ b, ∃ o, H x = some o) : Dj a b := fun x ha hb => by
  obtain ⟨o, ho⟩ := e x hb; rw [n x ha] at ho; cases ho
theorem nin_new {H : Hp} {a : List Addr} {b : Addr} {o : HO} (n : ∀ x ∈ a, H x = none) (e : H b = some o) : b ∉ a := fun h => by rw [n b h] at e; cases e
theorem Dj.nin {a : List Addr} {b : Addr} (h : b ∉ a) : Dj a [b] := fun x hx e => h (by rw [← List.mem_singleton.mp e]; exact hx)
end Sk

namespace Sk
open PySem L2
local macro_rules | `(tactic| fail "ne") => `(tactic| first
  | assumption
  | exact Ne.symm (by assumption)
  | exact Free.ne (by with_reducible assumption) (by fail "hp")
  | exact Ne.symm (Free.ne (by with_reducible assumption) (by fail "hp")))
local macro_rules | `(tactic| fail "rp") => `(tactic| first
  | assumption
  | exact Gr.rr (by assumption) _ _ (by fail "rp"))
local macro_rules | `(tactic| fail "nm") => `(tactic| first
  | exact List.not_mem_nil
  | (rw [List.mem_singleton]; fail "ne")
  | (simp only [List.mem_cons, List.not_mem_nil, not_or, or_false]; (repeat' constructor) <;> fail "ne"))
local macro_rules | `(tactic| fail "hp") => `(tactic| first
  | assumption
  | (with_reducible exact upd_same)
  | ((with_reducible show upd _ _ _ _ = _); refine Eq.trans (upd_ne ?_) ?_; (fail "ne"); (fail "hp"))
  | exact (show Same _ _ by assumption) _ _ (by fail "rp")
  | exact Gr.hh (by assumption) _ _ (by fail "nm") (by fail "hp")
  | exact Gr.hh (Mu.g (by assumption)) _ _ (by fail "nm") (by fail "hp"))
local macro_rules | `(tactic| fail "sr") => `(tactic| first
  | assumption
  | exact SqL.of (by assumption)
  | exact SqT.of (by assumption)
  | exact sqL_mono (Gr.rr (by assumption)) (by fail "sr")
  | exact sqT_mono (Gr.rr (by assumption)) (by fail "sr"))
local macro_rules | `(tactic| fail "sq") => `(tactic| first
  | assumption
  | exact SqL.of (by fail "hp")
  | exact SqT.of (by fail "hp")
  | exact sqL_mono (show Same _ _ by assumption) (by fail "sr")
  | exact sqT_mono (show Same _ _ by assumption) (by fail "sr"))
local macro_rules | `(tactic| fail "dr") => `(tactic| first
  | assumption
  | ((with_reducible show DpAll _ _ _ _); first
    | exact DpAll.nil
    | (refine DpAll.cons ?_ ?_ <;> fail "dr")
    | exact dpAll_mono (Gr.rr (by assumption)) (by fail "dr"))
  | ((with_reducible show Dp _ _ _ _); first
    | exact Dp.non
    | exact Dp.int _
    | exact Dp.str _
    | exact Dp.bl _
    | exact Dp.tup (SqT.of (by fail "rp")) (by fail "dr")
    | exact Dp.lst (SqL.of (by fail "rp")) (by fail "dr")
    | exact dp_mono (Gr.rr (by assumption)) (by fail "dr")))
local macro_rules | `(tactic| fail "dp") => `(tactic| first
  | assumption
  | ((with_reducible show DpAll _ _ _ _); exact dpAll_mono (show Same _ _ by assumption) (by fail "dr"))
  | ((with_reducible show Dp _ _ _ _); first
    | exact Dp.non
    | exact Dp.int _
    | exact Dp.str _
    | exact Dp.bl _
    | exact dp_mono (show Same _ _ by assumption) (by fail "dr")))
local macro_rules | `(tactic| fail "gr") => `(tactic| first
  | assumption
  | exact Gr.nil (by assumption)
  | exact Mu.g (by assumption)
  | exact Gr.nil (Mu.g (by assumption))
  | (refine Gr.trans ?_ (by first | assumption | exact Gr.nil (by assumption) | exact Mu.g (by assumption) | exact Gr.nil (Mu.g (by assumption))); fail "gr")
  | exact Gr.refl (by assumption))
local macro_rules | `(tactic| fail "rn") => `(tactic| first
  | assumption
  | exact Gr.frI (by assumption) (by fail "hp") (by fail "rn"))
local macro_rules | `(tactic| fail "newR") => `(tactic| (
  intro p n; generalize hq : upd _ p _ = H1; have z := newR_ex (by assumption) n hq; obtain ⟨R1, f, g, h, s⟩ := z; clear hq n))
local macro_rules | `(tactic| fail "newM") => `(tactic| (
  intro p n; generalize hq : upd _ p _ = H1; have z := newM_ex (by assumption) n hq; obtain ⟨f, g, m, h, s⟩ := z; clear hq n))
local macro_rules | `(tactic| fail "ret") => `(tactic| (
  intro p H1 sk n h; have z := call_ex (by assumption) sk n; obtain ⟨f, g, m, s⟩ := z; clear sk n))
local macro_rules | `(tactic| fail "mut") => `(tactic| (
  generalize hq : upd _ _ _ = H1; have z := mut_ex (by assumption) (by fail "rn") (by fail "hp") hq; obtain ⟨g, h, s⟩ := z; clear hq))
local macro_rules | `(tactic| fail "ar") => `(tactic| first
  | assumption
  | decide
  | omega
  | exact Or.inr ⟨by decide, by decide⟩
  | exact Or.inl ⟨by decide, by decide⟩
  | exact ⟨by decide, by decide, by decide⟩
  | exact ⟨by omega, by omega⟩
  | exact Or.inr ⟨by omega, by omega⟩
  | exact Or.inl ⟨by omega, by omega⟩)
local macro_rules | `(tactic| fail "st") => `(tactic| first
  | (with_reducible refine g_seqA ?_)
  | (with_reducible refine g_seqI ?_)
  | (with_reducible refine g_seqFor ?_)
  | (with_reducible refine g_seqD ?_)
  | (with_reducible refine g_seqS ?_)
  | (with_reducible refine g_seq ?_)
  | (with_reducible refine g_asg ?_)
  | (with_reducible refine g_asgS ?_)
  | (with_reducible refine g_drop ?_)
  | (with_reducible refine g_if ?_)
  | (with_reducible refine g_ret ?_)
  | (with_reducible refine g_retN ?_)
  | (with_reducible refine g_next ?_)
  | (with_reducible refine g_op ?_)
  | (with_reducible refine g_un ?_)
  | (with_reducible refine g_c ?_)
  | ((with_reducible show tVar _ _ _ _); refine g_var rfl ?_)
  | (with_reducible refine g_add ?_)
  | (with_reducible refine g_sub ?_)
  | (with_reducible refine g_neg ?_)
  | (with_reducible refine g_cmp ?_)
  | (with_reducible refine g_eqI ?_)
  | (with_reducible refine g_eqS ?_)
  | (with_reducible refine g_neI ?_)
  | (with_reducible refine g_neS ?_)
  | (with_reducible refine g_isN ?_)
  | (with_reducible refine g_notN ?_)
  | (with_reducible refine g_isB ?_)
  | (with_reducible refine g_notB ?_)
  | ((with_reducible refine g_mul ?_ ?_); (fail "ar"))
  | ((with_reducible refine g_mod ?_ ?_); (fail "ar"))
  | ((with_reducible refine g_div ?_ ?_); (fail "ar"))
  | ((with_reducible refine g_pow ?_ ?_); (fail "ar"))
  | (with_reducible refine g_nil ?_)
  | (with_reducible refine g_cons ?_)
  | (with_reducible refine g_cb ?_)
  | (with_reducible refine g_tup ?_)
  | (with_reducible refine g_lst ?_)
  | (with_reducible refine g_test ?_)
  | (with_reducible refine g_tB ?_)
  | (with_reducible refine g_yes ?_)
  | (with_reducible refine g_truth ?_)
  | (with_reducible refine g_bl ?_)
  | (with_reducible refine g_not ?_)
  | (with_reducible refine g_and ?_)
  | (with_reducible refine g_or ?_)
  | (with_reducible refine g_ife ?_)
  | (with_reducible refine g_andV ?_)
  | (with_reducible refine g_orV ?_)
  | (with_reducible refine g_notV ?_)
  | (with_reducible refine g_int ?_)
  | (with_reducible refine g_intB ?_)
  | (with_reducible refine g_for ?_)
  | (with_reducible refine g_gName ?_)
  | (with_reducible refine g_call ?_)
  | ((with_reducible show tCallS _ _ _ _ _ _); unfold tCallS)
  | (with_reducible refine g_lc ?_)
  | (with_reducible refine g_iList ?_)
  | (with_reducible refine g_iTup ?_)
  | (with_reducible refine g_seqT ?_)
  | (with_reducible refine g_asgT ?_)
  | (with_reducible refine g_gCons ?_)
  | (with_reducible refine g_gNil ?_)
  | ((with_reducible show gTup _ _ _ (.ref _) _ _ _); refine g_gTup (by fail "sq") (by exact rfl) ?_)
  | (with_reducible refine g_iR1 ?_)
  | (with_reducible refine g_iR2 ?_)
  | (with_reducible refine g_iEnum ?_)
  | (with_reducible refine g_iRev ?_)
  | (with_reducible refine g_iteT rfl ?_)
  | (with_reducible refine g_iteF rfl ?_)
  | (with_reducible refine g_sl ?_)
  | (with_reducible refine g_part ?_)
  | (with_reducible refine g_partW ?_)
  | (with_reducible refine g_noPart ?_)
  | (with_reducible refine g_fld ?_)
  | (with_reducible refine g_seqF ?_)
  | (with_reducible refine g_sfld ?_)
  | (with_reducible refine g_bm ?_)
  | (with_reducible refine g_bm0 ?_)
  | (with_reducible refine g_meth ?_)
  | (with_reducible refine g_make ?_)
  | ((with_reducible show FldW _ (.ref _) _ _ _); refine g_fldW (by fail "hp") (by assumption) (by assumption) (by rfl) ?_)
  | ((with_reducible show MW _ _ (.ref _) _ _); refine g_MW (by fail "hp") (by rfl) ?_)
  | ((with_reducible show SetW _ (.ref _) _ _ _ _); refine g_setW (by fail "hp") (by assumption) (by assumption) (by (simp only [List.length_cons, List.length_nil]; decide)) ?_; fail "putf"; try fail "mut")
  | ((with_reducible show tyV _ "list" (.ref _) _ ∧ _); refine g_tyL (by fail "hp") ?_)
  | ((with_reducible show rAppend (.ref _) [_] _ _); refine g_app (by fail "hp") (by fail "sz") ?_; try fail "mut")
  | ((with_reducible show rLenU _ [_] _ _); first | refine g_lenL (by fail "sq") ?_ | refine g_lenT (by fail "sq") ?_)
  | ((with_reducible first | show rIx _ _ (.int (@OfNat.ofNat Int _ _)) _ _ | show rIx _ _ (.int (-(@OfNat.ofNat Int _ _))) _ _); first | refine g_ixL (by fail "sq") (by exact rfl) ?_ | refine g_ixT (by fail "sq") (by exact rfl) ?_)
  | ((with_reducible show rSetL _ _ _ _ _); refine g_setL (by fail "hp") (by first | exact rfl | assumption) ?_)
  | (dsimp only))
local macro_rules | `(tactic| fail "gi") => `(tactic| repeat ((fail_if_success (with_reducible show tSeq (tIfS _ _ _) _ _ _ _)); fail "st"))
local macro_rules | `(tactic| fail "go") => `(tactic| repeat (fail "st"))
local macro_rules | `(tactic| fail "st") => `(tactic| (fail "calls"))
local macro_rules | `(tactic| fail "sz") => `(tactic| first
  | assumption
  | decide
  | (refine Nat.le_trans (m := 1000) ?_ (by decide); (first | omega | (simp only [List.length_cons, List.length_nil]; omega) | (simp; omega) | simp))
  | (refine Nat.lt_of_le_of_lt (m := 1000) ?_ (by decide); (first | omega | (simp only [List.length_cons, List.length_nil]; omega) | (simp; omega) | simp)))

local macro_rules | `(tactic| fail "st") => `(tactic| first
  | (with_reducible refine g_methN ?_)
  | (with_reducible refine g_dget ?_)
  | ((with_reducible show DgW (.ref _) (.str _) _ _); refine g_DgW (by fail "hp") (by rfl) ?_)
  | (with_reducible refine g_seqP ?_)
  | (with_reducible refine g_dput ?_)
  | ((with_reducible show DpW (.ref _) (.str _) _ _ _); refine g_DpW (by fail "hp") (Nat.lt_of_le_of_lt (m := 20) (Nat.le_of_ble_eq_true rfl) (by decide)) ?_; try fail "mut")
  | (with_reducible refine g_seqL ?_)
  | (with_reducible refine g_asgL ?_)
  | ((with_reducible show gLst _ _ _ (.ref _) _ _ _); refine g_gLst (by fail "sq") (by exact rfl) ?_)
  | (with_reducible refine g_augS ?_)
  | (with_reducible refine g_ipI ?_)
  | (with_reducible refine g_disp ?_)
  | (with_reducible refine g_pcons ?_)
  | (with_reducible refine g_pnil ?_))

def topS (i : Nat) : Stmt := PySem.Challenge.pw_sidekeep_k08_sides_are_rows_of_cells.main.body.getD i (.Pass ⟨0, 0, 0, 0⟩)
abbrev s__law_number : Stmt := (topS 62)
abbrev N__law_number : List Str := ["script", "k", "cell", "first", "second"]
theorem sc__law_number : FnScope N__law_number ["script", "k"] (defScope s__law_number) := ⟨rfl, rfl, rfl, by decide +kernel, rfl, by decide +kernel, by decide +kernel⟩
abbrev s__law_take : Stmt := (topS 63)
abbrev N__law_take : List Str := ["box", "size", "digit"]
theorem sc__law_take : FnScope N__law_take ["box", "size"] (defScope s__law_take) := ⟨rfl, rfl, rfl, by decide +kernel, rfl, by decide +kernel, by decide +kernel⟩
abbrev s_parts_of : Stmt := (topS 18)
abbrev N_parts_of : List Str := ["number", "size"]
theorem sc_parts_of : FnScope N_parts_of ["number", "size"] (defScope s_parts_of) := ⟨rfl, rfl, rfl, by decide +kernel, rfl, by decide +kernel, by decide +kernel⟩
abbrev s_Layout___init__ : Stmt := (inClass (topS 17) 0)
abbrev N_Layout___init__ : List Str := ["self", "segments", "segment_blocks", "block_size", "numbers"]
theorem sc_Layout___init__ : FnScope N_Layout___init__ ["self", "segments", "segment_blocks", "block_size"] (defScope s_Layout___init__) := ⟨rfl, rfl, rfl, by decide +kernel, rfl, by decide +kernel, by decide +kernel⟩
abbrev s__law_layout : Stmt := (topS 64)
abbrev N__law_layout : List Str := ["box", "sizes"]
theorem sc__law_layout : FnScope N__law_layout ["box"] (defScope s__law_layout) := ⟨rfl, rfl, rfl, by decide +kernel, rfl, by decide +kernel, by decide +kernel⟩
abbrev s__law_block : Stmt := (topS 66)
abbrev N__law_block : List Str := ["layout", "box", "kind", "sequence", "first", "step", "body", "k"]
theorem sc__law_block : FnScope N__law_block ["layout", "box"] (defScope s__law_block) := ⟨rfl, rfl, rfl, by decide +kernel, rfl, by decide +kernel, by decide +kernel⟩
abbrev s__law_low : Stmt := (topS 65)
abbrev N__law_low : List Str := ["number", "count", "octets", "k"]
theorem sc__law_low : FnScope N__law_low ["number", "count"] (defScope s__law_low) := ⟨rfl, rfl, rfl, by decide +kernel, rfl, by decide +kernel, by decide +kernel⟩
abbrev s__law_octets : Stmt := (topS 67)
abbrev N__law_octets : List Str := ["layout", "block", "octets", "number"]
theorem sc__law_octets : FnScope N__law_octets ["layout", "block"] (defScope s__law_octets) := ⟨rfl, rfl, rfl, by decide +kernel, rfl, by decide +kernel, by decide +kernel⟩
abbrev s__law_check : Stmt := (topS 68)
abbrev N__law_check : List Str := ["layout", "address", "block", "total", "octet"]
theorem sc__law_check : FnScope N__law_check ["layout", "address", "block"] (defScope s__law_check) := ⟨rfl, rfl, rfl, by decide +kernel, rfl, by decide +kernel, by decide +kernel⟩
abbrev s__law_sealed : Stmt := (topS 69)
abbrev N__law_sealed : List Str := ["layout", "address", "block"]
theorem sc__law_sealed : FnScope N__law_sealed ["layout", "address", "block"] (defScope s__law_sealed) := ⟨rfl, rfl, rfl, by decide +kernel, rfl, by decide +kernel, by decide +kernel⟩
abbrev s__law_cell : Stmt := (topS 73)
abbrev N__law_cell : List Str := ["layout", "address", "box", "block", "kind"]
theorem sc__law_cell : FnScope N__law_cell ["layout", "address", "box"] (defScope s__law_cell) := ⟨rfl, rfl, rfl, by decide +kernel, rfl, by decide +kernel, by decide +kernel⟩
abbrev s_Device___init__ : Stmt := (inClass (topS 2) 0)
abbrev N_Device___init__ : List Str := ["self", "layout", "blocks"]
theorem sc_Device___init__ : FnScope N_Device___init__ ["self", "layout", "blocks"] (defScope s_Device___init__) := ⟨rfl, rfl, rfl, by decide +kernel, rfl, by decide +kernel, by decide +kernel⟩
abbrev s_Side___init__ : Stmt := (inClass (topS 60) 0)
abbrev N_Side___init__ : List Str := ["self", "layout", "seat", "cells"]
theorem sc_Side___init__ : FnScope N_Side___init__ ["self", "layout", "seat", "cells"] (defScope s_Side___init__) := ⟨rfl, rfl, rfl, by decide +kernel, rfl, by decide +kernel, by decide +kernel⟩
abbrev s__law_copy : Stmt := (topS 82)
abbrev N__law_copy : List Str := ["model"]
theorem sc__law_copy : FnScope N__law_copy ["model"] (defScope s__law_copy) := ⟨rfl, rfl, rfl, by decide +kernel, rfl, by decide +kernel, by decide +kernel⟩
abbrev s__law_left : Stmt := (topS 83)
abbrev N__law_left : List Str := ["model", "kept", "torn", "cells", "k", "address", "cell"]
theorem sc__law_left : FnScope N__law_left ["model", "kept", "torn"] (defScope s__law_left) := ⟨rfl, rfl, rfl, by decide +kernel, rfl, by decide +kernel, by decide +kernel⟩
abbrev s_Device_left : Stmt := (inClass (topS 2) 8)
abbrev N_Device_left : List Str := ["self", "kept", "torn", "blocks", "number", "address", "block"]
theorem sc_Device_left : FnScope N_Device_left ["self", "kept", "torn"] (defScope s_Device_left) := ⟨rfl, rfl, rfl, by decide +kernel, rfl, by decide +kernel, by decide +kernel⟩
abbrev s_Side_left : Stmt := (inClass (topS 60) 10)
abbrev N_Side_left : List Str := ["self", "kept", "torn", "twin"]
theorem sc_Side_left : FnScope N_Side_left ["self", "kept", "torn"] (defScope s_Side_left) := ⟨rfl, rfl, rfl, by decide +kernel, rfl, by decide +kernel, by decide +kernel⟩
abbrev s_Device_read : Stmt := (inClass (topS 2) 1)
abbrev N_Device_read : List Str := ["self", "address"]
theorem sc_Device_read : FnScope N_Device_read ["self", "address"] (defScope s_Device_read) := ⟨rfl, rfl, rfl, by decide +kernel, rfl, by decide +kernel, by decide +kernel⟩
abbrev s_Side_settled : Stmt := (inClass (topS 60) 11)
abbrev N_Side_settled : List Str := ["self", "cells", "address"]
theorem sc_Side_settled : FnScope N_Side_settled ["self"] (defScope s_Side_settled) := ⟨rfl, rfl, rfl, by decide +kernel, rfl, by decide +kernel, by decide +kernel⟩
abbrev s_Device_fork : Stmt := (inClass (topS 2) 11)
abbrev N_Device_fork : List Str := ["self", "twin"]
theorem sc_Device_fork : FnScope N_Device_fork ["self"] (defScope s_Device_fork) := ⟨rfl, rfl, rfl, by decide +kernel, rfl, by decide +kernel, by decide +kernel⟩
abbrev s_Side_fork : Stmt := (inClass (topS 60) 12)
abbrev N_Side_fork : List Str := ["self", "twin"]
theorem sc_Side_fork : FnScope N_Side_fork ["self"] (defScope s_Side_fork) := ⟨rfl, rfl, rfl, by decide +kernel, rfl, by decide +kernel, by decide +kernel⟩
abbrev s__law_next : Stmt := (topS 86)
abbrev N__law_next : List Str := ["side", "model", "box", "kind", "kept", "torn", "k"]
theorem sc__law_next : FnScope N__law_next ["side", "model", "box"] (defScope s__law_next) := ⟨rfl, rfl, rfl, by decide +kernel, rfl, by decide +kernel, by decide +kernel⟩
abbrev s_Device__count_command : Stmt := (inClass (topS 2) 12)
abbrev N_Device__count_command : List Str := ["self"]
theorem sc_Device__count_command : FnScope N_Device__count_command ["self"] (defScope s_Device__count_command) := ⟨rfl, rfl, rfl, by decide +kernel, rfl, by decide +kernel, by decide +kernel⟩
abbrev s_Device_write : Stmt := (inClass (topS 2) 2)
abbrev N_Device_write : List Str := ["self", "address", "block"]
theorem sc_Device_write : FnScope N_Device_write ["self", "address", "block"] (defScope s_Device_write) := ⟨rfl, rfl, rfl, by decide +kernel, rfl, by decide +kernel, by decide +kernel⟩
abbrev s_number_octets : Stmt := (topS 20)
abbrev N_number_octets : List Str := ["number", "count", "found", "_"]
theorem sc_number_octets : FnScope N_number_octets ["number", "count"] (defScope s_number_octets) := ⟨rfl, rfl, rfl, by decide +kernel, rfl, by decide +kernel, by decide +kernel⟩
abbrev s_pairs_of : Stmt := (topS 22)
abbrev N_pairs_of : List Str := ["numbers", "found", "number"]
theorem sc_pairs_of : FnScope N_pairs_of ["numbers"] (defScope s_pairs_of) := ⟨rfl, rfl, rfl, by decide +kernel, rfl, by decide +kernel, by decide +kernel⟩
abbrev s_summary_octets : Stmt := (topS 31)
abbrev N_summary_octets : List Str := ["layout", "mark", "numbers", "action", "header"]
theorem sc_summary_octets : FnScope N_summary_octets ["layout", "mark", "numbers", "action"] (defScope s_summary_octets) := ⟨rfl, rfl, rfl, by decide +kernel, rfl, by decide +kernel, by decide +kernel⟩
abbrev s_bits_of : Stmt := (topS 29)
abbrev N_bits_of : List Str := ["used", "last_id", "octets", "number"]
theorem sc_bits_of : FnScope N_bits_of ["used", "last_id"] (defScope s_bits_of) := ⟨rfl, rfl, rfl, by decide +kernel, rfl, by decide +kernel, by decide +kernel⟩
abbrev s_body_octets : Stmt := (topS 32)
abbrev N_body_octets : List Str := ["layout", "kind", "body", "found"]
theorem sc_body_octets : FnScope N_body_octets ["layout", "kind", "body"] (defScope s_body_octets) := ⟨rfl, rfl, rfl, by decide +kernel, rfl, by decide +kernel, by decide +kernel⟩
abbrev s_block_octets : Stmt := (topS 36)
abbrev N_block_octets : List Str := ["layout", "block", "kind", "sequence", "place", "body", "spare"]
theorem sc_block_octets : FnScope N_block_octets ["layout", "block"] (defScope s_block_octets) := ⟨rfl, rfl, rfl, by decide +kernel, rfl, by decide +kernel, by decide +kernel⟩
abbrev s_check_of : Stmt := (topS 56)
abbrev N_check_of : List Str := ["layout", "address", "block", "total", "octet"]
theorem sc_check_of : FnScope N_check_of ["layout", "address", "block"] (defScope s_check_of) := ⟨rfl, rfl, rfl, by decide +kernel, rfl, by decide +kernel, by decide +kernel⟩
abbrev s_sealed : Stmt := (topS 57)
abbrev N_sealed : List Str := ["layout", "address", "block"]
theorem sc_sealed : FnScope N_sealed ["layout", "address", "block"] (defScope s_sealed) := ⟨rfl, rfl, rfl, by decide +kernel, rfl, by decide +kernel, by decide +kernel⟩
abbrev s_Side_write : Stmt := (inClass (topS 60) 3)
abbrev N_Side_write : List Str := ["self", "address", "block"]
theorem sc_Side_write : FnScope N_Side_write ["self", "address", "block"] (defScope s_Side_write) := ⟨rfl, rfl, rfl, by decide +kernel, rfl, by decide +kernel, by decide +kernel⟩
abbrev s__law_put : Stmt := (topS 79)
abbrev N__law_put : List Str := ["model", "address", "cell", "seen"]
theorem sc__law_put : FnScope N__law_put ["model", "address", "cell"] (defScope s__law_put) := ⟨rfl, rfl, rfl, by decide +kernel, rfl, by decide +kernel, by decide +kernel⟩
abbrev s_Device_barrier : Stmt := (inClass (topS 2) 3)
abbrev N_Device_barrier : List Str := ["self", "address", "block"]
theorem sc_Device_barrier : FnScope N_Device_barrier ["self"] (defScope s_Device_barrier) := ⟨rfl, rfl, rfl, by decide +kernel, rfl, by decide +kernel, by decide +kernel⟩
abbrev s_Side_barrier : Stmt := (inClass (topS 60) 4)
abbrev N_Side_barrier : List Str := ["self"]
theorem sc_Side_barrier : FnScope N_Side_barrier ["self"] (defScope s_Side_barrier) := ⟨rfl, rfl, rfl, by decide +kernel, rfl, by decide +kernel, by decide +kernel⟩
abbrev s__law_bar : Stmt := (topS 80)
abbrev N__law_bar : List Str := ["model", "sure", "address", "cell"]
theorem sc__law_bar : FnScope N__law_bar ["model"] (defScope s__law_bar) := ⟨rfl, rfl, rfl, by decide +kernel, rfl, by decide +kernel, by decide +kernel⟩
abbrev s_Device_decay : Stmt := (inClass (topS 2) 9)
abbrev N_Device_decay : List Str := ["self", "address", "block", "pair"]
theorem sc_Device_decay : FnScope N_Device_decay ["self", "address", "block"] (defScope s_Device_decay) := ⟨rfl, rfl, rfl, by decide +kernel, rfl, by decide +kernel, by decide +kernel⟩
abbrev s_numbers_of : Stmt := (topS 23)
abbrev N_numbers_of : List Str := ["octets", "found", "k"]
theorem sc_numbers_of : FnScope N_numbers_of ["octets"] (defScope s_numbers_of) := ⟨rfl, rfl, rfl, by decide +kernel, rfl, by decide +kernel, by decide +kernel⟩
abbrev s_used_of : Stmt := (topS 30)
abbrev N_used_of : List Str := ["octets", "last_id", "found", "number"]
theorem sc_used_of : FnScope N_used_of ["octets", "last_id"] (defScope s_used_of) := ⟨rfl, rfl, rfl, by decide +kernel, rfl, by decide +kernel, by decide +kernel⟩
abbrev s_read_body : Stmt := (topS 33)
abbrev N_read_body : List Str := ["layout", "kind", "octets", "count", "numbers", "bits"]
theorem sc_read_body : FnScope N_read_body ["layout", "kind", "octets"] (defScope s_read_body) := ⟨rfl, rfl, rfl, by decide +kernel, rfl, by decide +kernel, by decide +kernel⟩
abbrev s_number_of : Stmt := (topS 21)
abbrev N_number_of : List Str := ["octets", "total", "octet"]
theorem sc_number_of : FnScope N_number_of ["octets"] (defScope s_number_of) := ⟨rfl, rfl, rfl, by decide +kernel, rfl, by decide +kernel, by decide +kernel⟩
abbrev s_read_block : Stmt := (topS 37)
abbrev N_read_block : List Str := ["layout", "octets", "kind", "body", "block"]
theorem sc_read_block : FnScope N_read_block ["layout", "octets"] (defScope s_read_block) := ⟨rfl, rfl, rfl, by decide +kernel, rfl, by decide +kernel, by decide +kernel⟩
abbrev s_Side_rot : Stmt := (inClass (topS 60) 9)
abbrev N_Side_rot : List Str := ["self", "address", "place", "octet", "cell", "octets"]
theorem sc_Side_rot : FnScope N_Side_rot ["self", "address", "place", "octet"] (defScope s_Side_rot) := ⟨rfl, rfl, rfl, by decide +kernel, rfl, by decide +kernel, by decide +kernel⟩
abbrev s__law_read_octets : Stmt := (topS 72)
abbrev N__law_read_octets : List Str := ["layout", "octets", "body", "k", "sequence"]
theorem sc__law_read_octets : FnScope N__law_read_octets ["layout", "octets"] (defScope s__law_read_octets) := ⟨rfl, rfl, rfl, by decide +kernel, rfl, by decide +kernel, by decide +kernel⟩
abbrev s__law_rots : Stmt := (topS 81)
abbrev N__law_rots : List Str := ["layout", "model", "address", "place", "octet", "sure", "cell", "octets", "seen", "pair"]
theorem sc__law_rots : FnScope N__law_rots ["layout", "model", "address", "place", "octet"] (defScope s__law_rots) := ⟨rfl, rfl, rfl, by decide +kernel, rfl, by decide +kernel, by decide +kernel⟩
abbrev s_seats_of_bits : Stmt := (topS 48)
abbrev N_seats_of_bits : List Str := ["octets", "seat"]
theorem sc_seats_of_bits : FnScope N_seats_of_bits ["octets"] (defScope s_seats_of_bits) := ⟨rfl, rfl, rfl, by decide +kernel, rfl, by decide +kernel, by decide +kernel⟩
abbrev s_bits_of_seats : Stmt := (topS 47)
abbrev N_bits_of_seats : List Str := ["seats", "seat"]
theorem sc_bits_of_seats : FnScope N_bits_of_seats ["seats"] (defScope s_bits_of_seats) := ⟨rfl, rfl, rfl, by decide +kernel, rfl, by decide +kernel, by decide +kernel⟩
abbrev s_label_block : Stmt := (topS 49)
abbrev N_label_block : List Str := ["layout", "seat", "label", "generation", "members", "before", "forks", "octets", "fork"]
theorem sc_label_block : FnScope N_label_block ["layout", "seat", "label"] (defScope s_label_block) := ⟨rfl, rfl, rfl, by decide +kernel, rfl, by decide +kernel, by decide +kernel⟩
abbrev s_label_of : Stmt := (topS 50)
abbrev N_label_of : List Str := ["layout", "seat", "block", "octets", "members", "before", "starts", "forks", "label", "number", "start"]
theorem sc_label_of : FnScope N_label_of ["layout", "seat", "block"] (defScope s_label_of) := ⟨rfl, rfl, rfl, by decide +kernel, rfl, by decide +kernel, by decide +kernel⟩
abbrev s_is_whole : Stmt := (topS 58)
abbrev N_is_whole : List Str := ["layout", "address", "cell"]
theorem sc_is_whole : FnScope N_is_whole ["layout", "address", "cell"] (defScope s_is_whole) := ⟨rfl, rfl, rfl, by decide +kernel, rfl, by decide +kernel, by decide +kernel⟩
abbrev s_Side_read : Stmt := (inClass (topS 60) 1)
abbrev N_Side_read : List Str := ["self", "address", "cell"]
theorem sc_Side_read : FnScope N_Side_read ["self", "address"] (defScope s_Side_read) := ⟨rfl, rfl, rfl, by decide +kernel, rfl, by decide +kernel, by decide +kernel⟩
abbrev s_Side_labels : Stmt := (inClass (topS 60) 6)
abbrev N_Side_labels : List Str := ["self", "first", "slot"]
theorem sc_Side_labels : FnScope N_Side_labels ["self"] (defScope s_Side_labels) := ⟨rfl, rfl, rfl, by decide +kernel, rfl, by decide +kernel, by decide +kernel⟩
abbrev s_is_newer : Stmt := (topS 51)
abbrev N_is_newer : List Str := ["label", "other"]
theorem sc_is_newer : FnScope N_is_newer ["label", "other"] (defScope s_is_newer) := ⟨rfl, rfl, rfl, by decide +kernel, rfl, by decide +kernel, by decide +kernel⟩
abbrev s_newest_label : Stmt := (topS 52)
abbrev N_newest_label : List Str := ["labels", "best", "label"]
theorem sc_newest_label : FnScope N_newest_label ["labels"] (defScope s_newest_label) := ⟨rfl, rfl, rfl, by decide +kernel, rfl, by decide +kernel, by decide +kernel⟩
abbrev s_Side_write_label : Stmt := (inClass (topS 60) 8)
abbrev N_Side_write_label : List Str := ["self", "label", "found", "slot"]
theorem sc_Side_write_label : FnScope N_Side_write_label ["self", "label"] (defScope s_Side_write_label) := ⟨rfl, rfl, rfl, by decide +kernel, rfl, by decide +kernel, by decide +kernel⟩
abbrev s__law_label_block : Stmt := (topS 70)
abbrev N__law_label_block : List Str := ["layout", "seat", "label", "octets", "fork", "other"]
theorem sc__law_label_block : FnScope N__law_label_block ["layout", "seat", "label"] (defScope s__law_label_block) := ⟨rfl, rfl, rfl, by decide +kernel, rfl, by decide +kernel, by decide +kernel⟩
abbrev s__law_label_cell : Stmt := (topS 71)
abbrev N__law_label_cell : List Str := ["layout", "seat", "label", "slot", "address"]
theorem sc__law_label_cell : FnScope N__law_label_cell ["layout", "seat", "label", "slot"] (defScope s__law_label_cell) := ⟨rfl, rfl, rfl, by decide +kernel, rfl, by decide +kernel, by decide +kernel⟩
abbrev s__law_whole : Stmt := (topS 74)
abbrev N__law_whole : List Str := ["layout", "address", "cell"]
theorem sc__law_whole : FnScope N__law_whole ["layout", "address", "cell"] (defScope s__law_whole) := ⟨rfl, rfl, rfl, by decide +kernel, rfl, by decide +kernel, by decide +kernel⟩
abbrev s__law_label_at : Stmt := (topS 75)
abbrev N__law_label_at : List Str := ["layout", "seat", "row", "slot", "cell", "octets", "starts", "forks", "members", "label", "k", "at", "other"]
theorem sc__law_label_at : FnScope N__law_label_at ["layout", "seat", "row", "slot"] (defScope s__law_label_at) := ⟨rfl, rfl, rfl, by decide +kernel, rfl, by decide +kernel, by decide +kernel⟩
abbrev s__law_ahead : Stmt := (topS 76)
abbrev N__law_ahead : List Str := ["one", "two"]
theorem sc__law_ahead : FnScope N__law_ahead ["one", "two"] (defScope s__law_ahead) := ⟨rfl, rfl, rfl, by decide +kernel, rfl, by decide +kernel, by decide +kernel⟩
abbrev s__law_slot : Stmt := (topS 78)
abbrev N__law_slot : List Str := ["layout", "seat", "row", "first"]
theorem sc__law_slot : FnScope N__law_slot ["layout", "seat", "row"] (defScope s__law_slot) := ⟨rfl, rfl, rfl, by decide +kernel, rfl, by decide +kernel, by decide +kernel⟩
abbrev s__law_deed : Stmt := (topS 85)
abbrev N__law_deed : List Str := ["layout", "side", "model", "box", "kind", "address", "block", "place", "octet", "members", "before", "label", "pair", "seat"]
theorem sc__law_deed : FnScope N__law_deed ["layout", "side", "model", "box"] (defScope s__law_deed) := ⟨rfl, rfl, rfl, by decide +kernel, rfl, by decide +kernel, by decide +kernel⟩
abbrev s_Device_pending : Stmt := (inClass (topS 2) 6)
abbrev N_Device_pending : List Str := ["self"]
theorem sc_Device_pending : FnScope N_Device_pending ["self"] (defScope s_Device_pending) := ⟨rfl, rfl, rfl, by decide +kernel, rfl, by decide +kernel, by decide +kernel⟩
abbrev s_Side_pending : Stmt := (inClass (topS 60) 5)
abbrev N_Side_pending : List Str := ["self"]
theorem sc_Side_pending : FnScope N_Side_pending ["self"] (defScope s_Side_pending) := ⟨rfl, rfl, rfl, by decide +kernel, rfl, by decide +kernel, by decide +kernel⟩
abbrev s_Device_sure_blocks : Stmt := (inClass (topS 2) 7)
abbrev N_Device_sure_blocks : List Str := ["self"]
theorem sc_Device_sure_blocks : FnScope N_Device_sure_blocks ["self"] (defScope s_Device_sure_blocks) := ⟨rfl, rfl, rfl, by decide +kernel, rfl, by decide +kernel, by decide +kernel⟩
abbrev s_Side_is_rotten : Stmt := (inClass (topS 60) 2)
abbrev N_Side_is_rotten : List Str := ["self", "address", "cell"]
theorem sc_Side_is_rotten : FnScope N_Side_is_rotten ["self", "address"] (defScope s_Side_is_rotten) := ⟨rfl, rfl, rfl, by decide +kernel, rfl, by decide +kernel, by decide +kernel⟩
abbrev s_Side_label : Stmt := (inClass (topS 60) 7)
abbrev N_Side_label : List Str := ["self"]
theorem sc_Side_label : FnScope N_Side_label ["self"] (defScope s_Side_label) := ⟨rfl, rfl, rfl, by decide +kernel, rfl, by decide +kernel, by decide +kernel⟩
abbrev s__law_own_label : Stmt := (topS 77)
abbrev N__law_own_label : List Str := ["layout", "seat", "row", "first", "second"]
theorem sc__law_own_label : FnScope N__law_own_label ["layout", "seat", "row"] (defScope s__law_own_label) := ⟨rfl, rfl, rfl, by decide +kernel, rfl, by decide +kernel, by decide +kernel⟩
abbrev s__law_agrees : Stmt := (topS 84)
abbrev N__law_agrees : List Str := ["layout", "side", "model", "box", "address", "cells", "k", "whole", "rotten", "told", "sizes"]
theorem sc__law_agrees : FnScope N__law_agrees ["layout", "side", "model", "box"] (defScope s__law_agrees) := ⟨rfl, rfl, rfl, by decide +kernel, rfl, by decide +kernel, by decide +kernel⟩
abbrev s_law : Stmt := (topS 87)
abbrev N_law : List Str := ["script", "box", "layout", "seat", "cells", "k", "inner", "address", "passed", "side", "model", "left", "known"]
theorem sc_law : FnScope N_law ["script"] (defScope s_law) := ⟨rfl, rfl, rfl, by decide +kernel, rfl, by decide +kernel, by decide +kernel⟩
theorem putI_Layout_segments {y : V} : putF "segments" y ([] : List (Str × V)) = ([(("segments" : Str), y)] : List (Str × V)) := by rfl
theorem putU_Layout_segments {v0 v1 v2 v3 v4 v5 v6 v7 v8 y : V} : putF "segments" y ([(("segments" : Str), v0), (("segment_blocks" : Str), v1), (("block_size" : Str), v2), (("payload" : Str), v3), (("limit" : Str), v4), (("last_id" : Str), v5), (("fan" : Str), v6), (("region_blocks" : Str), v7), (("device_blocks" : Str), v8)] : List (Str × V)) = ([(("segments" : Str), y), (("segment_blocks" : Str), v1), (("block_size" : Str), v2), (("payload" : Str), v3), (("limit" : Str), v4), (("last_id" : Str), v5), (("fan" : Str), v6), (("region_blocks" : Str), v7), (("device_blocks" : Str), v8)] : List (Str × V)) := by rfl
theorem putI_Layout_segment_blocks {v0 y : V} : putF "segment_blocks" y ([(("segments" : Str), v0)] : List (Str × V)) = ([(("segments" : Str), v0), (("segment_blocks" : Str), y)] : List (Str × V)) := by rfl
theorem putU_Layout_segment_blocks {v0 v1 v2 v3 v4 v5 v6 v7 v8 y : V} : putF "segment_blocks" y ([(("segments" : Str), v0), (("segment_blocks" : Str), v1), (("block_size" : Str), v2), (("payload" : Str), v3), (("limit" : Str), v4), (("last_id" : Str), v5), (("fan" : Str), v6), (("region_blocks" : Str), v7), (("device_blocks" : Str), v8)] : List (Str × V)) = ([(("segments" : Str), v0), (("segment_blocks" : Str), y), (("block_size" : Str), v2), (("payload" : Str), v3), (("limit" : Str), v4), (("last_id" : Str), v5), (("fan" : Str), v6), (("region_blocks" : Str), v7), (("device_blocks" : Str), v8)] : List (Str × V)) := by rfl
theorem putI_Layout_block_size {v0 v1 y : V} : putF "block_size" y ([(("segments" : Str), v0), (("segment_blocks" : Str), v1)] : List (Str × V)) = ([(("segments" : Str), v0), (("segment_blocks" : Str), v1), (("block_size" : Str), y)] : List (Str × V)) := by rfl
theorem putU_Layout_block_size {v0 v1 v2 v3 v4 v5 v6 v7 v8 y : V} : putF "block_size" y ([(("segments" : Str), v0), (("segment_blocks" : Str), v1), (("block_size" : Str), v2), (("payload" : Str), v3), (("limit" : Str), v4), (("last_id" : Str), v5), (("fan" : Str), v6), (("region_blocks" : Str), v7), (("device_blocks" : Str), v8)] : List (Str × V)) = ([(("segments" : Str), v0), (("segment_blocks" : Str), v1), (("block_size" : Str), y), (("payload" : Str), v3), (("limit" : Str), v4), (("last_id" : Str), v5), (("fan" : Str), v6), (("region_blocks" : Str), v7), (("device_blocks" : Str), v8)] : List (Str × V)) := by rfl
theorem putI_Layout_payload {v0 v1 v2 y : V} : putF "payload" y ([(("segments" : Str), v0), (("segment_blocks" : Str), v1), (("block_size" : Str), v2)] : List (Str × V)) = ([(("segments" : Str), v0), (("segment_blocks" : Str), v1), (("block_size" : Str), v2), (("payload" : Str), y)] : List (Str × V)) := by rfl
theorem putU_Layout_payload {v0 v1 v2 v3 v4 v5 v6 v7 v8 y : V} : putF "payload" y ([(("segments" : Str), v0), (("segment_blocks" : Str), v1), (("block_size" : Str), v2), (("payload" : Str), v3), (("limit" : Str), v4), (("last_id" : Str), v5), (("fan" : Str), v6), (("region_blocks" : Str), v7), (("device_blocks" : Str), v8)] : List (Str × V)) = ([(("segments" : Str), v0), (("segment_blocks" : Str), v1), (("block_size" : Str), v2), (("payload" : Str), y), (("limit" : Str), v4), (("last_id" : Str), v5), (("fan" : Str), v6), (("region_blocks" : Str), v7), (("device_blocks" : Str), v8)] : List (Str × V)) := by rfl
theorem putI_Layout_limit {v0 v1 v2 v3 y : V} : putF "limit" y ([(("segments" : Str), v0), (("segment_blocks" : Str), v1), (("block_size" : Str), v2), (("payload" : Str), v3)] : List (Str × V)) = ([(("segments" : Str), v0), (("segment_blocks" : Str), v1), (("block_size" : Str), v2), (("payload" : Str), v3), (("limit" : Str), y)] : List (Str × V)) := by rfl
theorem putU_Layout_limit {v0 v1 v2 v3 v4 v5 v6 v7 v8 y : V} : putF "limit" y ([(("segments" : Str), v0), (("segment_blocks" : Str), v1), (("block_size" : Str), v2), (("payload" : Str), v3), (("limit" : Str), v4), (("last_id" : Str), v5), (("fan" : Str), v6), (("region_blocks" : Str), v7), (("device_blocks" : Str), v8)] : List (Str × V)) = ([(("segments" : Str), v0), (("segment_blocks" : Str), v1), (("block_size" : Str), v2), (("payload" : Str), v3), (("limit" : Str), y), (("last_id" : Str), v5), (("fan" : Str), v6), (("region_blocks" : Str), v7), (("device_blocks" : Str), v8)] : List (Str × V)) := by rfl
theorem putI_Layout_last_id {v0 v1 v2 v3 v4 y : V} : putF "last_id" y ([(("segments" : Str), v0), (("segment_blocks" : Str), v1), (("block_size" : Str), v2), (("payload" : Str), v3), (("limit" : Str), v4)] : List (Str × V)) = ([(("segments" : Str), v0), (("segment_blocks" : Str), v1), (("block_size" : Str), v2), (("payload" : Str), v3), (("limit" : Str), v4), (("last_id" : Str), y)] : List (Str × V)) := by rfl
theorem putU_Layout_last_id {v0 v1 v2 v3 v4 v5 v6 v7 v8 y : V} : putF "last_id" y ([(("segments" : Str), v0), (("segment_blocks" : Str), v1), (("block_size" : Str), v2), (("payload" : Str), v3), (("limit" : Str), v4), (("last_id" : Str), v5), (("fan" : Str), v6), (("region_blocks" : Str), v7), (("device_blocks" : Str), v8)] : List (Str × V)) = ([(("segments" : Str), v0), (("segment_blocks" : Str), v1), (("block_size" : Str), v2), (("payload" : Str), v3), (("limit" : Str), v4), (("last_id" : Str), y), (("fan" : Str), v6), (("region_blocks" : Str), v7), (("device_blocks" : Str), v8)] : List (Str × V)) := by rfl
theorem putI_Layout_fan {v0 v1 v2 v3 v4 v5 y : V} : putF "fan" y ([(("segments" : Str), v0), (("segment_blocks" : Str), v1), (("block_size" : Str), v2), (("payload" : Str), v3), (("limit" : Str), v4), (("last_id" : Str), v5)] : List (Str × V)) = ([(("segments" : Str), v0), (("segment_blocks" : Str), v1), (("block_size" : Str), v2), (("payload" : Str), v3), (("limit" : Str), v4), (("last_id" : Str), v5), (("fan" : Str), y)] : List (Str × V)) := by rfl
theorem putU_Layout_fan {v0 v1 v2 v3 v4 v5 v6 v7 v8 y : V} : putF "fan" y ([(("segments" : Str), v0), (("segment_blocks" : Str), v1), (("block_size" : Str), v2), (("payload" : Str), v3), (("limit" : Str), v4), (("last_id" : Str), v5), (("fan" : Str), v6), (("region_blocks" : Str), v7), (("device_blocks" : Str), v8)] : List (Str × V)) = ([(("segments" : Str), v0), (("segment_blocks" : Str), v1), (("block_size" : Str), v2), (("payload" : Str), v3), (("limit" : Str), v4), (("last_id" : Str), v5), (("fan" : Str), y), (("region_blocks" : Str), v7), (("device_blocks" : Str), v8)] : List (Str × V)) := by rfl
theorem putI_Layout_region_blocks {v0 v1 v2 v3 v4 v5 v6 y : V} : putF "region_blocks" y ([(("segments" : Str), v0), (("segment_blocks" : Str), v1), (("block_size" : Str), v2), (("payload" : Str), v3), (("limit" : Str), v4), (("last_id" : Str), v5), (("fan" : Str), v6)] : List (Str × V)) = ([(("segments" : Str), v0), (("segment_blocks" : Str), v1), (("block_size" : Str), v2), (("payload" : Str), v3), (("limit" : Str), v4), (("last_id" : Str), v5), (("fan" : Str), v6), (("region_blocks" : Str), y)] : List (Str × V)) := by rfl
theorem putU_Layout_region_blocks {v0 v1 v2 v3 v4 v5 v6 v7 v8 y : V} : putF "region_blocks" y ([(("segments" : Str), v0), (("segment_blocks" : Str), v1), (("block_size" : Str), v2), (("payload" : Str), v3), (("limit" : Str), v4), (("last_id" : Str), v5), (("fan" : Str), v6), (("region_blocks" : Str), v7), (("device_blocks" : Str), v8)] : List (Str × V)) = ([(("segments" : Str), v0), (("segment_blocks" : Str), v1), (("block_size" : Str), v2), (("payload" : Str), v3), (("limit" : Str), v4), (("last_id" : Str), v5), (("fan" : Str), v6), (("region_blocks" : Str), y), (("device_blocks" : Str), v8)] : List (Str × V)) := by rfl
theorem putI_Layout_device_blocks {v0 v1 v2 v3 v4 v5 v6 v7 y : V} : putF "device_blocks" y ([(("segments" : Str), v0), (("segment_blocks" : Str), v1), (("block_size" : Str), v2), (("payload" : Str), v3), (("limit" : Str), v4), (("last_id" : Str), v5), (("fan" : Str), v6), (("region_blocks" : Str), v7)] : List (Str × V)) = ([(("segments" : Str), v0), (("segment_blocks" : Str), v1), (("block_size" : Str), v2), (("payload" : Str), v3), (("limit" : Str), v4), (("last_id" : Str), v5), (("fan" : Str), v6), (("region_blocks" : Str), v7), (("device_blocks" : Str), y)] : List (Str × V)) := by rfl
theorem putU_Layout_device_blocks {v0 v1 v2 v3 v4 v5 v6 v7 v8 y : V} : putF "device_blocks" y ([(("segments" : Str), v0), (("segment_blocks" : Str), v1), (("block_size" : Str), v2), (("payload" : Str), v3), (("limit" : Str), v4), (("last_id" : Str), v5), (("fan" : Str), v6), (("region_blocks" : Str), v7), (("device_blocks" : Str), v8)] : List (Str × V)) = ([(("segments" : Str), v0), (("segment_blocks" : Str), v1), (("block_size" : Str), v2), (("payload" : Str), v3), (("limit" : Str), v4), (("last_id" : Str), v5), (("fan" : Str), v6), (("region_blocks" : Str), v7), (("device_blocks" : Str), y)] : List (Str × V)) := by rfl
theorem putI_Device_layout {y : V} : putF "layout" y ([] : List (Str × V)) = ([(("layout" : Str), y)] : List (Str × V)) := by rfl
theorem putU_Device_layout {v0 v1 v2 v3 v4 v5 y : V} : putF "layout" y ([(("layout" : Str), v0), (("sure" : Str), v1), (("seen" : Str), v2), (("waiting" : Str), v3), (("fuse" : Str), v4), (("dark" : Str), v5)] : List (Str × V)) = ([(("layout" : Str), y), (("sure" : Str), v1), (("seen" : Str), v2), (("waiting" : Str), v3), (("fuse" : Str), v4), (("dark" : Str), v5)] : List (Str × V)) := by rfl
theorem putI_Device_sure {v0 y : V} : putF "sure" y ([(("layout" : Str), v0)] : List (Str × V)) = ([(("layout" : Str), v0), (("sure" : Str), y)] : List (Str × V)) := by rfl
theorem putU_Device_sure {v0 v1 v2 v3 v4 v5 y : V} : putF "sure" y ([(("layout" : Str), v0), (("sure" : Str), v1), (("seen" : Str), v2), (("waiting" : Str), v3), (("fuse" : Str), v4), (("dark" : Str), v5)] : List (Str × V)) = ([(("layout" : Str), v0), (("sure" : Str), y), (("seen" : Str), v2), (("waiting" : Str), v3), (("fuse" : Str), v4), (("dark" : Str), v5)] : List (Str × V)) := by rfl
theorem putI_Device_seen {v0 v1 y : V} : putF "seen" y ([(("layout" : Str), v0), (("sure" : Str), v1)] : List (Str × V)) = ([(("layout" : Str), v0), (("sure" : Str), v1), (("seen" : Str), y)] : List (Str × V)) := by rfl
theorem putU_Device_seen {v0 v1 v2 v3 v4 v5 y : V} : putF "seen" y ([(("layout" : Str), v0), (("sure" : Str), v1), (("seen" : Str), v2), (("waiting" : Str), v3), (("fuse" : Str), v4), (("dark" : Str), v5)] : List (Str × V)) = ([(("layout" : Str), v0), (("sure" : Str), v1), (("seen" : Str), y), (("waiting" : Str), v3), (("fuse" : Str), v4), (("dark" : Str), v5)] : List (Str × V)) := by rfl
theorem putI_Device_waiting {v0 v1 v2 y : V} : putF "waiting" y ([(("layout" : Str), v0), (("sure" : Str), v1), (("seen" : Str), v2)] : List (Str × V)) = ([(("layout" : Str), v0), (("sure" : Str), v1), (("seen" : Str), v2), (("waiting" : Str), y)] : List (Str × V)) := by rfl
theorem putU_Device_waiting {v0 v1 v2 v3 v4 v5 y : V} : putF "waiting" y ([(("layout" : Str), v0), (("sure" : Str), v1), (("seen" : Str), v2), (("waiting" : Str), v3), (("fuse" : Str), v4), (("dark" : Str), v5)] : List (Str × V)) = ([(("layout" : Str), v0), (("sure" : Str), v1), (("seen" : Str), v2), (("waiting" : Str), y), (("fuse" : Str), v4), (("dark" : Str), v5)] : List (Str × V)) := by rfl
theorem putI_Device_fuse {v0 v1 v2 v3 y : V} : putF "fuse" y ([(("layout" : Str), v0), (("sure" : Str), v1), (("seen" : Str), v2), (("waiting" : Str), v3)] : List (Str × V)) = ([(("layout" : Str), v0), (("sure" : Str), v1), (("seen" : Str), v2), (("waiting" : Str), v3), (("fuse" : Str), y)] : List (Str × V)) := by rfl
theorem putU_Device_fuse {v0 v1 v2 v3 v4 v5 y : V} : putF "fuse" y ([(("layout" : Str), v0), (("sure" : Str), v1), (("seen" : Str), v2), (("waiting" : Str), v3), (("fuse" : Str), v4), (("dark" : Str), v5)] : List (Str × V)) = ([(("layout" : Str), v0), (("sure" : Str), v1), (("seen" : Str), v2), (("waiting" : Str), v3), (("fuse" : Str), y), (("dark" : Str), v5)] : List (Str × V)) := by rfl
theorem putI_Device_dark {v0 v1 v2 v3 v4 y : V} : putF "dark" y ([(("layout" : Str), v0), (("sure" : Str), v1), (("seen" : Str), v2), (("waiting" : Str), v3), (("fuse" : Str), v4)] : List (Str × V)) = ([(("layout" : Str), v0), (("sure" : Str), v1), (("seen" : Str), v2), (("waiting" : Str), v3), (("fuse" : Str), v4), (("dark" : Str), y)] : List (Str × V)) := by rfl
theorem putU_Device_dark {v0 v1 v2 v3 v4 v5 y : V} : putF "dark" y ([(("layout" : Str), v0), (("sure" : Str), v1), (("seen" : Str), v2), (("waiting" : Str), v3), (("fuse" : Str), v4), (("dark" : Str), v5)] : List (Str × V)) = ([(("layout" : Str), v0), (("sure" : Str), v1), (("seen" : Str), v2), (("waiting" : Str), v3), (("fuse" : Str), v4), (("dark" : Str), y)] : List (Str × V)) := by rfl
theorem putI_Side_layout {y : V} : putF "layout" y ([] : List (Str × V)) = ([(("layout" : Str), y)] : List (Str × V)) := by rfl
theorem putU_Side_layout {v0 v1 v2 y : V} : putF "layout" y ([(("layout" : Str), v0), (("seat" : Str), v1), (("device" : Str), v2)] : List (Str × V)) = ([(("layout" : Str), y), (("seat" : Str), v1), (("device" : Str), v2)] : List (Str × V)) := by rfl
theorem putI_Side_seat {v0 y : V} : putF "seat" y ([(("layout" : Str), v0)] : List (Str × V)) = ([(("layout" : Str), v0), (("seat" : Str), y)] : List (Str × V)) := by rfl
theorem putU_Side_seat {v0 v1 v2 y : V} : putF "seat" y ([(("layout" : Str), v0), (("seat" : Str), v1), (("device" : Str), v2)] : List (Str × V)) = ([(("layout" : Str), v0), (("seat" : Str), y), (("device" : Str), v2)] : List (Str × V)) := by rfl
theorem putI_Side_device {v0 v1 y : V} : putF "device" y ([(("layout" : Str), v0), (("seat" : Str), v1)] : List (Str × V)) = ([(("layout" : Str), v0), (("seat" : Str), v1), (("device" : Str), y)] : List (Str × V)) := by rfl
theorem putU_Side_device {v0 v1 v2 y : V} : putF "device" y ([(("layout" : Str), v0), (("seat" : Str), v1), (("device" : Str), v2)] : List (Str × V)) = ([(("layout" : Str), v0), (("seat" : Str), v1), (("device" : Str), y)] : List (Str × V)) := by rfl
local macro_rules | `(tactic| fail "putf") => `(tactic| first
  | rw [putI_Layout_segments]
  | rw [putU_Layout_segments]
  | rw [putI_Layout_segment_blocks]
  | rw [putU_Layout_segment_blocks]
  | rw [putI_Layout_block_size]
  | rw [putU_Layout_block_size]
  | rw [putI_Layout_payload]
  | rw [putU_Layout_payload]
  | rw [putI_Layout_limit]
  | rw [putU_Layout_limit]
  | rw [putI_Layout_last_id]
  | rw [putU_Layout_last_id]
  | rw [putI_Layout_fan]
  | rw [putU_Layout_fan]
  | rw [putI_Layout_region_blocks]
  | rw [putU_Layout_region_blocks]
  | rw [putI_Layout_device_blocks]
  | rw [putU_Layout_device_blocks]
  | rw [putI_Device_layout]
  | rw [putU_Device_layout]
  | rw [putI_Device_sure]
  | rw [putU_Device_sure]
  | rw [putI_Device_seen]
  | rw [putU_Device_seen]
  | rw [putI_Device_waiting]
  | rw [putU_Device_waiting]
  | rw [putI_Device_fuse]
  | rw [putU_Device_fuse]
  | rw [putI_Device_dark]
  | rw [putU_Device_dark]
  | rw [putI_Side_layout]
  | rw [putU_Side_layout]
  | rw [putI_Side_seat]
  | rw [putU_Side_seat]
  | rw [putI_Side_device]
  | rw [putU_Side_device]
  | skip)
set_option genInjectivity false in
set_option genSizeOf false in
set_option genSizeOfSpec false in
structure Txt (P : Program) (K : PySem.W.Frag) (mg : Str → Option Value) where
  C_Layout : Addr
  C_Device : Addr
  C_Side : Addr
  f__law_number : Addr
  fd__law_number : FuncData
  F__law_number : Fun K "_law_number" "_law_number" s__law_number f__law_number fd__law_number
  b__law_number : Binds K fd__law_number ["script", "k"] []
  g__law_number : mg "_law_number" = some (.ref f__law_number)
  f__law_take : Addr
  fd__law_take : FuncData
  F__law_take : Fun K "_law_take" "_law_take" s__law_take f__law_take fd__law_take
  b__law_take : Binds K fd__law_take ["box", "size"] []
  g__law_take : mg "_law_take" = some (.ref f__law_take)
  f_parts_of : Addr
  fd_parts_of : FuncData
  F_parts_of : Fun K "parts_of" "parts_of" s_parts_of f_parts_of fd_parts_of
  b_parts_of : Binds K fd_parts_of ["number", "size"] []
  g_parts_of : mg "parts_of" = some (.ref f_parts_of)
  f_Layout___init__ : Addr
  fd_Layout___init__ : FuncData
  F_Layout___init__ : Fun K "__init__" "Layout.__init__" s_Layout___init__ f_Layout___init__ fd_Layout___init__
  b_Layout___init__ : Binds K fd_Layout___init__ ["self", "segments", "segment_blocks", "block_size"] []
  mk_Layout : Mk K C_Layout f_Layout___init__
  f__law_layout : Addr
  fd__law_layout : FuncData
  F__law_layout : Fun K "_law_layout" "_law_layout" s__law_layout f__law_layout fd__law_layout
  b__law_layout : Binds K fd__law_layout ["box"] []
  g__law_layout : mg "_law_layout" = some (.ref f__law_layout)
  f__law_block : Addr
  fd__law_block : FuncData
  F__law_block : Fun K "_law_block" "_law_block" s__law_block f__law_block fd__law_block
  b__law_block : Binds K fd__law_block ["layout", "box"] []
  g__law_block : mg "_law_block" = some (.ref f__law_block)
  f__law_low : Addr
  fd__law_low : FuncData
  F__law_low : Fun K "_law_low" "_law_low" s__law_low f__law_low fd__law_low
  b__law_low : Binds K fd__law_low ["number", "count"] []
  g__law_low : mg "_law_low" = some (.ref f__law_low)
  f__law_octets : Addr
  fd__law_octets : FuncData
  F__law_octets : Fun K "_law_octets" "_law_octets" s__law_octets f__law_octets fd__law_octets
  b__law_octets : Binds K fd__law_octets ["layout", "block"] []
  g__law_octets : mg "_law_octets" = some (.ref f__law_octets)
  f__law_check : Addr
  fd__law_check : FuncData
  F__law_check : Fun K "_law_check" "_law_check" s__law_check f__law_check fd__law_check
  b__law_check : Binds K fd__law_check ["layout", "address", "block"] []
  g__law_check : mg "_law_check" = some (.ref f__law_check)
  f__law_sealed : Addr
  fd__law_sealed : FuncData
  F__law_sealed : Fun K "_law_sealed" "_law_sealed" s__law_sealed f__law_sealed fd__law_sealed
  b__law_sealed : Binds K fd__law_sealed ["layout", "address", "block"] []
  g__law_sealed : mg "_law_sealed" = some (.ref f__law_sealed)
  f__law_cell : Addr
  fd__law_cell : FuncData
  F__law_cell : Fun K "_law_cell" "_law_cell" s__law_cell f__law_cell fd__law_cell
  b__law_cell : Binds K fd__law_cell ["layout", "address", "box"] []
  g__law_cell : mg "_law_cell" = some (.ref f__law_cell)
  f_Device___init__ : Addr
  fd_Device___init__ : FuncData
  F_Device___init__ : FunD K "__init__" "Device.__init__" (defArgs s_Device___init__) (defBody s_Device___init__) (defScope s_Device___init__) [V.non] [] f_Device___init__ fd_Device___init__
  b_Device___init__ : Binds K fd_Device___init__ ["self", "layout", "blocks"] []
  mk_Device : Mk K C_Device f_Device___init__
  f_Side___init__ : Addr
  fd_Side___init__ : FuncData
  F_Side___init__ : FunD K "__init__" "Side.__init__" (defArgs s_Side___init__) (defBody s_Side___init__) (defScope s_Side___init__) [V.non] [] f_Side___init__ fd_Side___init__
  b_Side___init__ : Binds K fd_Side___init__ ["self", "layout", "seat", "cells"] []
  ds_Side___init___2 : List Value
  d_Side___init___2 : Vals [V.non] ds_Side___init___2
  b_Side___init___2 : Binds K fd_Side___init__ ["self", "layout", "seat", "cells"] ds_Side___init___2
  mk_Side : Mk K C_Side f_Side___init__
  f__law_copy : Addr
  fd__law_copy : FuncData
  F__law_copy : Fun K "_law_copy" "_law_copy" s__law_copy f__law_copy fd__law_copy
  b__law_copy : Binds K fd__law_copy ["model"] []
  g__law_copy : mg "_law_copy" = some (.ref f__law_copy)
  f__law_left : Addr
  fd__law_left : FuncData
  F__law_left : Fun K "_law_left" "_law_left" s__law_left f__law_left fd__law_left
  b__law_left : Binds K fd__law_left ["model", "kept", "torn"] []
  g__law_left : mg "_law_left" = some (.ref f__law_left)
  f_Device_left : Addr
  fd_Device_left : FuncData
  F_Device_left : Fun K "left" "Device.left" s_Device_left f_Device_left fd_Device_left
  kb_Device_left : KBn K fd_Device_left ["self", "kept", "torn"] 2 ["torn"] (fun us ws => us ++ ws) (fun vs zs => vs ++ zs)
  m_Device_left : Meth K C_Device "left" f_Device_left
  f_Side_left : Addr
  fd_Side_left : FuncData
  F_Side_left : Fun K "left" "Side.left" s_Side_left f_Side_left fd_Side_left
  kb_Side_left : KBn K fd_Side_left ["self", "kept", "torn"] 2 ["torn"] (fun us ws => us ++ ws) (fun vs zs => vs ++ zs)
  m_Side_left : Meth K C_Side "left" f_Side_left
  f_Device_read : Addr
  fd_Device_read : FuncData
  F_Device_read : Fun K "read" "Device.read" s_Device_read f_Device_read fd_Device_read
  b_Device_read : Binds K fd_Device_read ["self", "address"] []
  m_Device_read : Meth K C_Device "read" f_Device_read
  f_Side_settled : Addr
  fd_Side_settled : FuncData
  F_Side_settled : Fun K "settled" "Side.settled" s_Side_settled f_Side_settled fd_Side_settled
  b_Side_settled : Binds K fd_Side_settled ["self"] []
  m_Side_settled : Meth K C_Side "settled" f_Side_settled
  f_Device_fork : Addr
  fd_Device_fork : FuncData
  F_Device_fork : Fun K "fork" "Device.fork" s_Device_fork f_Device_fork fd_Device_fork
  b_Device_fork : Binds K fd_Device_fork ["self"] []
  m_Device_fork : Meth K C_Device "fork" f_Device_fork
  f_Side_fork : Addr
  fd_Side_fork : FuncData
  F_Side_fork : Fun K "fork" "Side.fork" s_Side_fork f_Side_fork fd_Side_fork
  b_Side_fork : Binds K fd_Side_fork ["self"] []
  m_Side_fork : Meth K C_Side "fork" f_Side_fork
  f__law_next : Addr
  fd__law_next : FuncData
  F__law_next : Fun K "_law_next" "_law_next" s__law_next f__law_next fd__law_next
  b__law_next : Binds K fd__law_next ["side", "model", "box"] []
  g__law_next : mg "_law_next" = some (.ref f__law_next)
  f_Device__count_command : Addr
  fd_Device__count_command : FuncData
  F_Device__count_command : Fun K "_count_command" "Device._count_command" s_Device__count_command f_Device__count_command fd_Device__count_command
  b_Device__count_command : Binds K fd_Device__count_command ["self"] []
  m_Device__count_command : Meth K C_Device "_count_command" f_Device__count_command
  f_Device_write : Addr
  fd_Device_write : FuncData
  F_Device_write : Fun K "write" "Device.write" s_Device_write f_Device_write fd_Device_write
  b_Device_write : Binds K fd_Device_write ["self", "address", "block"] []
  m_Device_write : Meth K C_Device "write" f_Device_write
  f_number_octets : Addr
  fd_number_octets : FuncData
  F_number_octets : Fun K "number_octets" "number_octets" s_number_octets f_number_octets fd_number_octets
  b_number_octets : Binds K fd_number_octets ["number", "count"] []
  g_number_octets : mg "number_octets" = some (.ref f_number_octets)
  f_pairs_of : Addr
  fd_pairs_of : FuncData
  F_pairs_of : Fun K "pairs_of" "pairs_of" s_pairs_of f_pairs_of fd_pairs_of
  b_pairs_of : Binds K fd_pairs_of ["numbers"] []
  g_pairs_of : mg "pairs_of" = some (.ref f_pairs_of)
  f_summary_octets : Addr
  fd_summary_octets : FuncData
  F_summary_octets : Fun K "summary_octets" "summary_octets" s_summary_octets f_summary_octets fd_summary_octets
  b_summary_octets : Binds K fd_summary_octets ["layout", "mark", "numbers", "action"] []
  g_summary_octets : mg "summary_octets" = some (.ref f_summary_octets)
  f_bits_of : Addr
  fd_bits_of : FuncData
  F_bits_of : Fun K "bits_of" "bits_of" s_bits_of f_bits_of fd_bits_of
  b_bits_of : Binds K fd_bits_of ["used", "last_id"] []
  g_bits_of : mg "bits_of" = some (.ref f_bits_of)
  f_body_octets : Addr
  fd_body_octets : FuncData
  F_body_octets : Fun K "body_octets" "body_octets" s_body_octets f_body_octets fd_body_octets
  b_body_octets : Binds K fd_body_octets ["layout", "kind", "body"] []
  g_body_octets : mg "body_octets" = some (.ref f_body_octets)
  f_block_octets : Addr
  fd_block_octets : FuncData
  F_block_octets : Fun K "block_octets" "block_octets" s_block_octets f_block_octets fd_block_octets
  b_block_octets : Binds K fd_block_octets ["layout", "block"] []
  g_block_octets : mg "block_octets" = some (.ref f_block_octets)
  f_check_of : Addr
  fd_check_of : FuncData
  F_check_of : Fun K "check_of" "check_of" s_check_of f_check_of fd_check_of
  b_check_of : Binds K fd_check_of ["layout", "address", "block"] []
  g_check_of : mg "check_of" = some (.ref f_check_of)
  f_sealed : Addr
  fd_sealed : FuncData
  F_sealed : Fun K "sealed" "sealed" s_sealed f_sealed fd_sealed
  b_sealed : Binds K fd_sealed ["layout", "address", "block"] []
  g_sealed : mg "sealed" = some (.ref f_sealed)
  f_Side_write : Addr
  fd_Side_write : FuncData
  F_Side_write : Fun K "write" "Side.write" s_Side_write f_Side_write fd_Side_write
  b_Side_write : Binds K fd_Side_write ["self", "address", "block"] []
  m_Side_write : Meth K C_Side "write" f_Side_write
  f__law_put : Addr
  fd__law_put : FuncData
  F__law_put : Fun K "_law_put" "_law_put" s__law_put f__law_put fd__law_put
  b__law_put : Binds K fd__law_put ["model", "address", "cell"] []
  g__law_put : mg "_law_put" = some (.ref f__law_put)
  f_Device_barrier : Addr
  fd_Device_barrier : FuncData
  F_Device_barrier : Fun K "barrier" "Device.barrier" s_Device_barrier f_Device_barrier fd_Device_barrier
  b_Device_barrier : Binds K fd_Device_barrier ["self"] []
  m_Device_barrier : Meth K C_Device "barrier" f_Device_barrier
  f_Side_barrier : Addr
  fd_Side_barrier : FuncData
  F_Side_barrier : Fun K "barrier" "Side.barrier" s_Side_barrier f_Side_barrier fd_Side_barrier
  b_Side_barrier : Binds K fd_Side_barrier ["self"] []
  m_Side_barrier : Meth K C_Side "barrier" f_Side_barrier
  f__law_bar : Addr
  fd__law_bar : FuncData
  F__law_bar : Fun K "_law_bar" "_law_bar" s__law_bar f__law_bar fd__law_bar
  b__law_bar : Binds K fd__law_bar ["model"] []
  g__law_bar : mg "_law_bar" = some (.ref f__law_bar)
  f_Device_decay : Addr
  fd_Device_decay : FuncData
  F_Device_decay : Fun K "decay" "Device.decay" s_Device_decay f_Device_decay fd_Device_decay
  b_Device_decay : Binds K fd_Device_decay ["self", "address", "block"] []
  m_Device_decay : Meth K C_Device "decay" f_Device_decay
  f_numbers_of : Addr
  fd_numbers_of : FuncData
  F_numbers_of : Fun K "numbers_of" "numbers_of" s_numbers_of f_numbers_of fd_numbers_of
  b_numbers_of : Binds K fd_numbers_of ["octets"] []
  g_numbers_of : mg "numbers_of" = some (.ref f_numbers_of)
  f_used_of : Addr
  fd_used_of : FuncData
  F_used_of : Fun K "used_of" "used_of" s_used_of f_used_of fd_used_of
  b_used_of : Binds K fd_used_of ["octets", "last_id"] []
  g_used_of : mg "used_of" = some (.ref f_used_of)
  f_read_body : Addr
  fd_read_body : FuncData
  F_read_body : Fun K "read_body" "read_body" s_read_body f_read_body fd_read_body
  b_read_body : Binds K fd_read_body ["layout", "kind", "octets"] []
  g_read_body : mg "read_body" = some (.ref f_read_body)
  f_number_of : Addr
  fd_number_of : FuncData
  F_number_of : Fun K "number_of" "number_of" s_number_of f_number_of fd_number_of
  b_number_of : Binds K fd_number_of ["octets"] []
  g_number_of : mg "number_of" = some (.ref f_number_of)
  f_read_block : Addr
  fd_read_block : FuncData
  F_read_block : Fun K "read_block" "read_block" s_read_block f_read_block fd_read_block
  b_read_block : Binds K fd_read_block ["layout", "octets"] []
  g_read_block : mg "read_block" = some (.ref f_read_block)
  f_Side_rot : Addr
  fd_Side_rot : FuncData
  F_Side_rot : Fun K "rot" "Side.rot" s_Side_rot f_Side_rot fd_Side_rot
  b_Side_rot : Binds K fd_Side_rot ["self", "address", "place", "octet"] []
  m_Side_rot : Meth K C_Side "rot" f_Side_rot
  f__law_read_octets : Addr
  fd__law_read_octets : FuncData
  F__law_read_octets : Fun K "_law_read_octets" "_law_read_octets" s__law_read_octets f__law_read_octets fd__law_read_octets
  b__law_read_octets : Binds K fd__law_read_octets ["layout", "octets"] []
  g__law_read_octets : mg "_law_read_octets" = some (.ref f__law_read_octets)
  f__law_rots : Addr
  fd__law_rots : FuncData
  F__law_rots : Fun K "_law_rots" "_law_rots" s__law_rots f__law_rots fd__law_rots
  b__law_rots : Binds K fd__law_rots ["layout", "model", "address", "place", "octet"] []
  g__law_rots : mg "_law_rots" = some (.ref f__law_rots)
  f_seats_of_bits : Addr
  fd_seats_of_bits : FuncData
  F_seats_of_bits : Fun K "seats_of_bits" "seats_of_bits" s_seats_of_bits f_seats_of_bits fd_seats_of_bits
  b_seats_of_bits : Binds K fd_seats_of_bits ["octets"] []
  g_seats_of_bits : mg "seats_of_bits" = some (.ref f_seats_of_bits)
  f_bits_of_seats : Addr
  fd_bits_of_seats : FuncData
  F_bits_of_seats : Fun K "bits_of_seats" "bits_of_seats" s_bits_of_seats f_bits_of_seats fd_bits_of_seats
  b_bits_of_seats : Binds K fd_bits_of_seats ["seats"] []
  g_bits_of_seats : mg "bits_of_seats" = some (.ref f_bits_of_seats)
  f_label_block : Addr
  fd_label_block : FuncData
  F_label_block : Fun K "label_block" "label_block" s_label_block f_label_block fd_label_block
  b_label_block : Binds K fd_label_block ["layout", "seat", "label"] []
  g_label_block : mg "label_block" = some (.ref f_label_block)
  f_label_of : Addr
  fd_label_of : FuncData
  F_label_of : Fun K "label_of" "label_of" s_label_of f_label_of fd_label_of
  b_label_of : Binds K fd_label_of ["layout", "seat", "block"] []
  g_label_of : mg "label_of" = some (.ref f_label_of)
  f_is_whole : Addr
  fd_is_whole : FuncData
  F_is_whole : Fun K "is_whole" "is_whole" s_is_whole f_is_whole fd_is_whole
  b_is_whole : Binds K fd_is_whole ["layout", "address", "cell"] []
  g_is_whole : mg "is_whole" = some (.ref f_is_whole)
  f_Side_read : Addr
  fd_Side_read : FuncData
  F_Side_read : Fun K "read" "Side.read" s_Side_read f_Side_read fd_Side_read
  b_Side_read : Binds K fd_Side_read ["self", "address"] []
  m_Side_read : Meth K C_Side "read" f_Side_read
  f_Side_labels : Addr
  fd_Side_labels : FuncData
  F_Side_labels : Fun K "labels" "Side.labels" s_Side_labels f_Side_labels fd_Side_labels
  b_Side_labels : Binds K fd_Side_labels ["self"] []
  m_Side_labels : Meth K C_Side "labels" f_Side_labels
  f_is_newer : Addr
  fd_is_newer : FuncData
  F_is_newer : Fun K "is_newer" "is_newer" s_is_newer f_is_newer fd_is_newer
  b_is_newer : Binds K fd_is_newer ["label", "other"] []
  g_is_newer : mg "is_newer" = some (.ref f_is_newer)
  f_newest_label : Addr
  fd_newest_label : FuncData
  F_newest_label : Fun K "newest_label" "newest_label" s_newest_label f_newest_label fd_newest_label
  b_newest_label : Binds K fd_newest_label ["labels"] []
  g_newest_label : mg "newest_label" = some (.ref f_newest_label)
  f_Side_write_label : Addr
  fd_Side_write_label : FuncData
  F_Side_write_label : Fun K "write_label" "Side.write_label" s_Side_write_label f_Side_write_label fd_Side_write_label
  b_Side_write_label : Binds K fd_Side_write_label ["self", "label"] []
  m_Side_write_label : Meth K C_Side "write_label" f_Side_write_label
  f__law_label_block : Addr
  fd__law_label_block : FuncData
  F__law_label_block : Fun K "_law_label_block" "_law_label_block" s__law_label_block f__law_label_block fd__law_label_block
  b__law_label_block : Binds K fd__law_label_block ["layout", "seat", "label"] []
  g__law_label_block : mg "_law_label_block" = some (.ref f__law_label_block)
  f__law_label_cell : Addr
  fd__law_label_cell : FuncData
  F__law_label_cell : Fun K "_law_label_cell" "_law_label_cell" s__law_label_cell f__law_label_cell fd__law_label_cell
  b__law_label_cell : Binds K fd__law_label_cell ["layout", "seat", "label", "slot"] []
  g__law_label_cell : mg "_law_label_cell" = some (.ref f__law_label_cell)
  f__law_whole : Addr
  fd__law_whole : FuncData
  F__law_whole : Fun K "_law_whole" "_law_whole" s__law_whole f__law_whole fd__law_whole
  b__law_whole : Binds K fd__law_whole ["layout", "address", "cell"] []
  g__law_whole : mg "_law_whole" = some (.ref f__law_whole)
  f__law_label_at : Addr
  fd__law_label_at : FuncData
  F__law_label_at : Fun K "_law_label_at" "_law_label_at" s__law_label_at f__law_label_at fd__law_label_at
  b__law_label_at : Binds K fd__law_label_at ["layout", "seat", "row", "slot"] []
  g__law_label_at : mg "_law_label_at" = some (.ref f__law_label_at)
  f__law_ahead : Addr
  fd__law_ahead : FuncData
  F__law_ahead : Fun K "_law_ahead" "_law_ahead" s__law_ahead f__law_ahead fd__law_ahead
  b__law_ahead : Binds K fd__law_ahead ["one", "two"] []
  g__law_ahead : mg "_law_ahead" = some (.ref f__law_ahead)
  f__law_slot : Addr
  fd__law_slot : FuncData
  F__law_slot : Fun K "_law_slot" "_law_slot" s__law_slot f__law_slot fd__law_slot
  b__law_slot : Binds K fd__law_slot ["layout", "seat", "row"] []
  g__law_slot : mg "_law_slot" = some (.ref f__law_slot)
  f__law_deed : Addr
  fd__law_deed : FuncData
  F__law_deed : Fun K "_law_deed" "_law_deed" s__law_deed f__law_deed fd__law_deed
  b__law_deed : Binds K fd__law_deed ["layout", "side", "model", "box"] []
  g__law_deed : mg "_law_deed" = some (.ref f__law_deed)
  f_Device_pending : Addr
  fd_Device_pending : FuncData
  F_Device_pending : Fun K "pending" "Device.pending" s_Device_pending f_Device_pending fd_Device_pending
  b_Device_pending : Binds K fd_Device_pending ["self"] []
  m_Device_pending : Meth K C_Device "pending" f_Device_pending
  f_Side_pending : Addr
  fd_Side_pending : FuncData
  F_Side_pending : Fun K "pending" "Side.pending" s_Side_pending f_Side_pending fd_Side_pending
  b_Side_pending : Binds K fd_Side_pending ["self"] []
  m_Side_pending : Meth K C_Side "pending" f_Side_pending
  f_Device_sure_blocks : Addr
  fd_Device_sure_blocks : FuncData
  F_Device_sure_blocks : Fun K "sure_blocks" "Device.sure_blocks" s_Device_sure_blocks f_Device_sure_blocks fd_Device_sure_blocks
  b_Device_sure_blocks : Binds K fd_Device_sure_blocks ["self"] []
  m_Device_sure_blocks : Meth K C_Device "sure_blocks" f_Device_sure_blocks
  f_Side_is_rotten : Addr
  fd_Side_is_rotten : FuncData
  F_Side_is_rotten : Fun K "is_rotten" "Side.is_rotten" s_Side_is_rotten f_Side_is_rotten fd_Side_is_rotten
  b_Side_is_rotten : Binds K fd_Side_is_rotten ["self", "address"] []
  m_Side_is_rotten : Meth K C_Side "is_rotten" f_Side_is_rotten
  f_Side_label : Addr
  fd_Side_label : FuncData
  F_Side_label : Fun K "label" "Side.label" s_Side_label f_Side_label fd_Side_label
  b_Side_label : Binds K fd_Side_label ["self"] []
  m_Side_label : Meth K C_Side "label" f_Side_label
  f__law_own_label : Addr
  fd__law_own_label : FuncData
  F__law_own_label : Fun K "_law_own_label" "_law_own_label" s__law_own_label f__law_own_label fd__law_own_label
  b__law_own_label : Binds K fd__law_own_label ["layout", "seat", "row"] []
  g__law_own_label : mg "_law_own_label" = some (.ref f__law_own_label)
  f__law_agrees : Addr
  fd__law_agrees : FuncData
  F__law_agrees : Fun K "_law_agrees" "_law_agrees" s__law_agrees f__law_agrees fd__law_agrees
  b__law_agrees : Binds K fd__law_agrees ["layout", "side", "model", "box"] []
  g__law_agrees : mg "_law_agrees" = some (.ref f__law_agrees)
  f_law : Addr
  fd_law : FuncData
  F_law : Fun K "law" "law" s_law f_law fd_law
  b_law : Binds K fd_law ["script"] []
  g_law : mg "law" = some (.ref f_law)
  cl_Layout : Cls K C_Layout
  cl_Device : Cls K C_Device
  cl_Side : Cls K C_Side
  g_Layout : mg "Layout" = some (.ref C_Layout)
  g_Device : mg "Device" = some (.ref C_Device)
  g_Side : mg "Side" = some (.ref C_Side)
  a_Layout_segments : NoAttr K C_Layout "segments"
  a_Layout_segment_blocks : NoAttr K C_Layout "segment_blocks"
  a_Layout_block_size : NoAttr K C_Layout "block_size"
  a_Layout_payload : NoAttr K C_Layout "payload"
  a_Layout_limit : NoAttr K C_Layout "limit"
  a_Layout_last_id : NoAttr K C_Layout "last_id"
  a_Layout_fan : NoAttr K C_Layout "fan"
  a_Layout_region_blocks : NoAttr K C_Layout "region_blocks"
  a_Layout_device_blocks : NoAttr K C_Layout "device_blocks"
  a_Device_layout : NoAttr K C_Device "layout"
  a_Device_sure : NoAttr K C_Device "sure"
  a_Device_seen : NoAttr K C_Device "seen"
  a_Device_waiting : NoAttr K C_Device "waiting"
  a_Device_fuse : NoAttr K C_Device "fuse"
  a_Device_dark : NoAttr K C_Device "dark"
  a_Side_layout : NoAttr K C_Side "layout"
  a_Side_seat : NoAttr K C_Side "seat"
  a_Side_device : NoAttr K C_Side "device"
  n_len : mg "len" = none
  n_int : mg "int" = none
  n_tuple : mg "tuple" = none
  n_range : mg "range" = none
  n_list : mg "list" = none
  n_enumerate : mg "enumerate" = none
  n_reversed : mg "reversed" = none
  n_max : mg "max" = none
  n_isinstance : mg "isinstance" = none
  n_bool : mg "bool" = none
  u_MOST_SEGMENTS : Value
  g_MOST_SEGMENTS : mg "MOST_SEGMENTS" = some u_MOST_SEGMENTS
  r_MOST_SEGMENTS : RelV (.int 16) u_MOST_SEGMENTS
  u_LEAST_SEGMENTS : Value
  g_LEAST_SEGMENTS : mg "LEAST_SEGMENTS" = some u_LEAST_SEGMENTS
  r_LEAST_SEGMENTS : RelV (.int 4) u_LEAST_SEGMENTS
  u_MOST_BLOCKS : Value
  g_MOST_BLOCKS : mg "MOST_BLOCKS" = some u_MOST_BLOCKS
  r_MOST_BLOCKS : RelV (.int 32) u_MOST_BLOCKS
  u_LEAST_BLOCKS : Value
  g_LEAST_BLOCKS : mg "LEAST_BLOCKS" = some u_LEAST_BLOCKS
  r_LEAST_BLOCKS : RelV (.int 16) u_LEAST_BLOCKS
  u_HEAD_OCTETS : Value
  g_HEAD_OCTETS : mg "HEAD_OCTETS" = some u_HEAD_OCTETS
  r_HEAD_OCTETS : RelV (.int 16) u_HEAD_OCTETS
  u_SLOTS : Value
  g_SLOTS : mg "SLOTS" = some u_SLOTS
  r_SLOTS : RelV (.int 3) u_SLOTS
  u_LABELS : Value
  g_LABELS : mg "LABELS" = some u_LABELS
  r_LABELS : RelV (.int 2) u_LABELS
  c_LETTERS_bodies : Addr
  g_LETTERS_bodies : mg "LETTERS_bodies" = some (.ref c_LETTERS_bodies)
  r_LETTERS_bodies : RelV (.ref c_LETTERS_bodies) (.ref c_LETTERS_bodies)
  q_LETTERS_bodies : ∀ H : Hp, SqT K H c_LETTERS_bodies [.int 83, .int 71, .int 70, .int 83]
  u_HEADER : Value
  g_HEADER : mg "HEADER" = some u_HEADER
  r_HEADER : RelV (.int 16) u_HEADER
  c_BITS : Addr
  g_BITS : mg "BITS" = some (.ref c_BITS)
  r_BITS : RelV (.ref c_BITS) (.ref c_BITS)
  q_BITS : ∀ H : Hp, SqT K H c_BITS [.int 1, .int 2, .int 4, .int 8, .int 16, .int 32, .int 64, .int 128]
  u_COMMIT : Value
  g_COMMIT : mg "COMMIT" = some u_COMMIT
  r_COMMIT : RelV (.int 1) u_COMMIT
  u_MOVE : Value
  g_MOVE : mg "MOVE" = some u_MOVE
  r_MOVE : RelV (.int 2) u_MOVE
  u_DATA : Value
  g_DATA : mg "DATA" = some u_DATA
  r_DATA : RelV (.int 3) u_DATA
  u_SPARE : Value
  g_SPARE : mg "SPARE" = some u_SPARE
  r_SPARE : RelV (.int 16) u_SPARE
  u_FACTOR : Value
  g_FACTOR : mg "FACTOR" = some u_FACTOR
  r_FACTOR : RelV (.int 257) u_FACTOR
  u_PRIME : Value
  g_PRIME : mg "PRIME" = some u_PRIME
  r_PRIME : RelV (.int 4294967291) u_PRIME
  u_MOST_ACTION : Value
  g_MOST_ACTION : mg "MOST_ACTION" = some u_MOST_ACTION
  r_MOST_ACTION : RelV (.int 6) u_MOST_ACTION
  u_PART : Value
  g_PART : mg "PART" = some u_PART
  r_PART : RelV (.int 5) u_PART
  u_SEATS : Value
  g_SEATS : mg "SEATS" = some u_SEATS
  r_SEATS : RelV (.int 3) u_SEATS
  c_LETTERS_labels : Addr
  g_LETTERS_labels : mg "LETTERS_labels" = some (.ref c_LETTERS_labels)
  r_LETTERS_labels : RelV (.ref c_LETTERS_labels) (.ref c_LETTERS_labels)
  q_LETTERS_labels : ∀ H : Hp, SqT K H c_LETTERS_labels [.int 83, .int 73, .int 68, .int 69]
  u_FORK_OCTETS : Value
  g_FORK_OCTETS : mg "FORK_OCTETS" = some u_FORK_OCTETS
  r_FORK_OCTETS : RelV (.int 3) u_FORK_OCTETS
  u_MEMBERS_AT : Value
  g_MEMBERS_AT : mg "MEMBERS_AT" = some u_MEMBERS_AT
  r_MEMBERS_AT : RelV (.int 6) u_MEMBERS_AT
  u_COUNT_AT : Value
  g_COUNT_AT : mg "COUNT_AT" = some u_COUNT_AT
  r_COUNT_AT : RelV (.int 12) u_COUNT_AT
  u_MOST_FORKS : Value
  g_MOST_FORKS : mg "MOST_FORKS" = some u_MOST_FORKS
  r_MOST_FORKS : RelV (.int 16) u_MOST_FORKS
  u_FORKS_AT : Value
  g_FORKS_AT : mg "FORKS_AT" = some u_FORKS_AT
  r_FORKS_AT : RelV (.int 13) u_FORKS_AT
def lawCell0 (ns : List Int) (k : Int) : Int := if (0 : Int) < (ns.length : Int) then ns.getD (k % (ns.length : Int)).toNat 0 else 0
def lawCell (ns : List Int) (k : Int) : Int := if lawCell0 ns k < 0 then 1 - 2 * lawCell0 ns k else lawCell0 ns k
def lawMix1 (c k : Int) : Int := ((c + 7) * 48271 + (k + 3) * 69621) % 2147483647
def lawMix2 (c k : Int) : Int := ((lawMix1 c k + 11) * 16807 + (c + 1) * 40692 + k) % 2147483399
def lawMix (c k : Int) : Int := (lawMix1 c k * 2147483399 + lawMix2 c k * 31 + c) % 4611686014132420609
def lawNumber (ns : List Int) (k : Int) : Int := if 1000000000 ≤ lawCell ns k ∧ k < (ns.length : Int) then lawCell ns k else lawMix (lawCell ns k) k
def spNum (K : PySem.W.Frag) : Sp := fun vs H Q _ => ∃ (a : Addr) (ns : List Int) (k : Int), vs = [.ref a, .int k] ∧ SqL K H a (ns.map V.int) ∧ 0 ≤ k ∧ Q (.int (lawNumber ns k)) H
theorem atI_mod {ns : List Int} {k : Int} (h : (0 : Int) < (ns.length : Int)) : atI (ns.map V.int) (k % (ns.length : Int)) = some (.int (ns.getD (k % (ns.length : Int)).toNat 0)) := by
  have h1 := Int.emod_nonneg k (b := (ns.length : Int)) (by omega)
  have h2 := Int.emod_lt_of_pos k h
  obtain ⟨j, hj⟩ := Int.eq_ofNat_of_zero_le h1
  rw [hj]
  have hl : j < ns.length := by omega
  refine atI_nat ?_
  simp [hl, List.getD_eq_getElem?_getD]
theorem len_map {ns : List Int} : ((List.map V.int ns).length : Int) = (ns.length : Int) := by simp
section
variable {P : Program} {w : World} {K : PySem.W.Frag} {mg : Str → Option Value} {base : Heap}
theorem ok__law_number (T : Txt P K mg) : FnOk P w K mg base CX0 1 T.f__law_number T.fd__law_number ["script", "k"] (spNum K) := by
  refine T.F__law_number.ok sc__law_number (fun vs H Q E h => ?_) (fun cdv A outer s H vs Q E hr h => ?_)
  · obtain ⟨a, ns, k, rfl, hS, k0, hq⟩ := h
    rfl
  · obtain ⟨a, ns, k, rfl, hS, k0, hq⟩ := h
    refine ⟨_, (pss_cons (ps_set (i := 2) sc__law_number.nd rfl (by first | exact Or.inl rfl | exact Or.inr rfl) pe_int)
      (pss_cons (ps_if (pt_cmpR op_gt (pe_callB (callLenU (K := K)) (by rfl) T.n_len (by decide +kernel) (pa_cons (pv 0) pa_nil)) pe_int (nomark _)) (pss_one (ps_set (i := 2) sc__law_number.nd rfl (by first | exact Or.inl rfl | exact Or.inr rfl) (pe_ix (ixU (K := K)) (pv 0) (pe_op opModU (pe_callTy callIntU (by rfl) T.n_int (by decide +kernel) (pa_cons (pv 1) pa_nil)) (pe_callB (callLenU (K := K)) (by rfl) T.n_len (by decide +kernel) (pa_cons (pv 0) pa_nil))) (fun _ _ => rfl)))) pss_nil)
      (pss_cons (ps_if (pt_cmpR op_lt (pv 2) pe_int (nomark _)) (pss_one (ps_set (i := 2) sc__law_number.nd rfl (by first | exact Or.inl rfl | exact Or.inr rfl) (pe_op opSubU pe_int (pe_op opMultU pe_int (pv 2))))) pss_nil)
      (pss_cons (ps_if (PW.pt (pw_and (pt_cmpR op_ge (pv 2) (pe_op opPowU pe_int pe_int) (nomark _)) (pw_and1 (pt_cmpR op_lt (pv 1) (pe_callB (callLenU (K := K)) (by rfl) T.n_len (by decide +kernel) (pa_cons (pv 0) pa_nil)) (nomark _))))) (pss_one (ps_ret (pv 2))) pss_nil)
      (pss_cons (ps_set (i := 3) sc__law_number.nd rfl (by first | exact Or.inl rfl | exact Or.inr rfl) (pe_op opModU (pe_callTy callIntU (by rfl) T.n_int (by decide +kernel) (pa_cons (pe_op (opAddU (K := K)) (pe_op opMultU (pe_op (opAddU (K := K)) (pv 2) pe_int) pe_int) (pe_op opMultU (pe_op (opAddU (K := K)) (pv 1) pe_int) pe_int)) pa_nil)) pe_int))
      (pss_cons (ps_set (i := 4) sc__law_number.nd rfl (by first | exact Or.inl rfl | exact Or.inr rfl) (pe_op opModU (pe_callTy callIntU (by rfl) T.n_int (by decide +kernel) (pa_cons (pe_op (opAddU (K := K)) (pe_op (opAddU (K := K)) (pe_op opMultU (pe_op (opAddU (K := K)) (pv 3) pe_int) pe_int) (pe_op opMultU (pe_op (opAddU (K := K)) (pv 2) pe_int) pe_int)) (pv 1)) pa_nil)) pe_int))
      (pss_one (ps_ret (pe_op opModU (pe_callTy callIntU (by rfl) T.n_int (by decide +kernel) (pa_cons (pe_op (opAddU (K := K)) (pe_op (opAddU (K := K)) (pe_op opMultU (pv 3) pe_int) (pe_op opMultU (pv 4) pe_int)) (pv 2)) pa_nil)) pe_int))))))))), ?_⟩
    try dsimp only [cxOf]
    fail "go"
    rw [len_map]
    refine g_joinI (fun x => x = .int (lawCell0 ns k)) rfl (fun h Q' q' => ?_) (fun h => ?_) (fun x hx => ?_)
    · fail "go"
      rw [len_map]
      fail "go"
      refine g_ixL hS (atI_mod h) (q' _ ?_)
      rw [lawCell0, if_pos h]
    · rw [lawCell0, if_neg h]
    subst hx
    fail "go"
    refine g_joinI (fun x => x = .int (lawCell ns k)) rfl (fun h Q' q' => ?_) (fun h => ?_) (fun x hx => ?_)
    · fail "go"
      refine q' _ ?_
      rw [lawCell, if_pos h]
    · rw [lawCell, if_neg h]
    subst hx
    fail "go"
    have e9 : (10 : Int) ^ Int.toNat 9 = 1000000000 := by decide
    rw [e9]
    refine g_ite (fun h1 => ?_) (fun h1 => ?_)
    · fail "go"
      rw [len_map]
      refine g_ite (fun h2 => ?_) (fun h2 => ?_)
      · fail "go"
        rw [lawNumber, if_pos ⟨h1, h2⟩] at hq
        exact hq
      · fail "go"
        rw [lawNumber, if_neg (fun z => h2 z.2)] at hq
        exact hq
    · fail "go"
      rw [lawNumber, if_neg (fun z => h1 z.1)] at hq
      exact hq
end
def spTake : Sp := fun vs H Q _ => ∃ (b : Addr) (n z : Int), vs = [.ref b, .int z] ∧ H b = some (.lst [.int n]) ∧ 0 < z ∧ z < 8589934592 ∧ Q (.int (n % z)) (upd H b (.lst [.int (n / z)]))
local macro_rules | `(tactic| fail "calls") => `(tactic| ((with_reducible show spTake _ _ _ _); refine ⟨_, _, _, rfl, by fail "hp", by fail "ar", by fail "ar", ?_⟩))
section
variable {P : Program} {w : World} {K : PySem.W.Frag} {mg : Str → Option Value} {base : Heap}
theorem ok__law_take (T : Txt P K mg) : FnOk P w K mg base CX0 1 T.f__law_take T.fd__law_take ["box", "size"] (spTake) := by
  refine T.F__law_take.ok sc__law_take (fun vs H Q E h => ?_) (fun cdv A outer s H vs Q E hr h => ?_)
  · obtain ⟨b, n, z, rfl, hb, z0, z1, hq⟩ := h
    rfl
  · obtain ⟨b, n, z, rfl, hb, z0, z1, hq⟩ := h
    refine ⟨_, (pss_cons (ps_set (i := 2) sc__law_take.nd rfl (by first | exact Or.inl rfl | exact Or.inr rfl) (pe_op opModU (pe_callTy callIntU (by rfl) T.n_int (by decide +kernel) (pa_cons (pe_ix (ixU (K := K)) (pv 0) pe_int (fun _ _ => rfl)) pa_nil)) (pv 1)))
      (pss_cons (ps_asg (pe_op opFloorDivU (pe_ix (ixU (K := K)) (pv 0) pe_int (fun _ _ => rfl)) (pv 1)) (pg_sub (pv 0) pe_int set_list))
      (pss_one (ps_ret (pv 2))))), ?_⟩
    try dsimp only [cxOf]
    fail "go"
    refine g_div (Or.inr (wide_div (b := 34) z0 (by show z.natAbs < 17179869184; omega) (by decide) (by decide))) ?_
    fail "go"
    exact hq
end
def spParts : Sp := fun vs H Q _ => ∃ n z : Int, vs = [.int n, .int z] ∧ 0 < z ∧ z < 1000 ∧ Q (.int (partsOf n z)) H
local macro_rules | `(tactic| fail "calls") => `(tactic| ((with_reducible show spParts _ _ _ _); refine ⟨_, _, rfl, by fail "ar", by fail "ar", ?_⟩))
section
variable {P : Program} {w : World} {K : PySem.W.Frag} {mg : Str → Option Value} {base : Heap}
theorem ok_parts_of (T : Txt P K mg) : FnOk P w K mg base CX0 1 T.f_parts_of T.fd_parts_of ["number", "size"] (spParts) := by
  refine T.F_parts_of.ok sc_parts_of (fun vs H Q E h => ?_) (fun cdv A outer s H vs Q E hr h => ?_)
  · obtain ⟨n, z, rfl, z0, z1, hq⟩ := h
    rfl
  · obtain ⟨n, z, rfl, z0, z1, hq⟩ := h
    refine ⟨_, (pss_one (ps_ret (pe_op opFloorDivU (pe_op opSubU (pe_op (opAddU (K := K)) (pv 0) (pv 1)) pe_int) (pv 1)))), ?_⟩
    try dsimp only [cxOf]
    fail "go"
    exact hq
end
def spLay (C : Addr) : Sp := fun vs H Q _ => ∃ (R : Hp) (p dx : Addr) (L : Lay), vs = [.ref p, .int L.seg, .int L.blk, .int L.oct] ∧ Same R H ∧ R p = none ∧ H p = some (.ins C dx []) ∧ L.Ok ∧ ∀ H', Same R H' → H' p = some (.ins C dx L.flds) → Q .non H'
section
variable {P : Program} {w : World} {K : PySem.W.Frag} {mg : Str → Option Value} {base : Heap}
theorem ok_Layout___init__ (T : Txt P K mg) : FnOk P w K mg base CX0 2 T.f_Layout___init__ T.fd_Layout___init__ ["self", "segments", "segment_blocks", "block_size"] (spLay T.C_Layout) := by
  have cl_Layout := T.cl_Layout
  have a_Layout_segments := T.a_Layout_segments
  have a_Layout_segment_blocks := T.a_Layout_segment_blocks
  have a_Layout_block_size := T.a_Layout_block_size
  have a_Layout_payload := T.a_Layout_payload
  have a_Layout_limit := T.a_Layout_limit
  have a_Layout_last_id := T.a_Layout_last_id
  have a_Layout_fan := T.a_Layout_fan
  have a_Layout_region_blocks := T.a_Layout_region_blocks
  have a_Layout_device_blocks := T.a_Layout_device_blocks
  have G_parts_of := ok_parts_of (P := P) (w := w) (base := base) T
  refine T.F_Layout___init__.ok sc_Layout___init__ (fun vs H Q E h => ?_) (fun cdv A outer s H vs Q E hr h => ?_)
  · obtain ⟨R, p, dx, L, rfl, sR, Rp, hp, hL, hq⟩ := h
    rfl
  · obtain ⟨R, p, dx, L, rfl, sR, Rp, hp, hL, hq⟩ := h
    refine ⟨_, (pss_cons (ps_if (PW.pt (pw_or (pt_cmpR op_lt (pv 1) (pe_glob rfl T.g_LEAST_SEGMENTS T.r_LEAST_SEGMENTS) (nomark _)) (pw_or1 (pt_cmpR op_gt (pv 1) (pe_glob rfl T.g_MOST_SEGMENTS T.r_MOST_SEGMENTS) (nomark _))))) (pss_one ps_never) pss_nil)
      (pss_cons (ps_if (PW.pt (pw_or (pt_cmpR op_lt (pv 2) (pe_glob rfl T.g_LEAST_BLOCKS T.r_LEAST_BLOCKS) (nomark _)) (pw_or1 (pt_cmpR op_gt (pv 2) (pe_glob rfl T.g_MOST_BLOCKS T.r_MOST_BLOCKS) (nomark _))))) (pss_one ps_never) pss_nil)
      (pss_cons (ps_if (pt_cmpR (opNinF (K := K)) (pv 3) (pe_tup (pa_cons pe_int (pa_cons pe_int (pa_cons pe_int pa_nil)))) (by rfl)) (pss_one ps_never) pss_nil)
      (pss_cons (ps_fld (pv 0) (pv 1) rfl)
      (pss_cons (ps_fld (pv 0) (pv 2) rfl)
      (pss_cons (ps_fld (pv 0) (pv 3) rfl)
      (pss_cons (ps_fld (pv 0) (pe_op opSubU (pv 2) pe_int) rfl)
      (pss_cons (ps_fld (pv 0) (pe_op opMultU (pe_op opSubU (pv 1) pe_int) (pe_fldK (K := K) (pv 0) rfl)) rfl)
      (pss_cons (ps_fld (pv 0) (pe_op (opAddU (K := K)) (pe_fldK (K := K) (pv 0) rfl) (pe_fldK (K := K) (pv 0) rfl)) rfl)
      (pss_cons (ps_fld (pv 0) (pe_op opFloorDivU (pv 3) pe_int) rfl)
      (pss_cons (ps_if (pt_cmpR op_gt (pe_op (opAddU (K := K)) (pe_op (opAddU (K := K)) (pe_glob rfl T.g_HEAD_OCTETS T.r_HEAD_OCTETS) (pe_op opMultU pe_int (pe_fldK (K := K) (pv 0) rfl))) (pe_call G_parts_of (hr.mono (by decide)) rfl T.g_parts_of T.F_parts_of.kp T.b_parts_of .nil pass0 (pa_cons (pe_fldK (K := K) (pv 0) rfl) (pa_cons pe_int pa_nil)))) (pv 3) (nomark _)) (pss_one ps_never) pss_nil)
      (pss_cons (ps_set (i := 4) sc_Layout___init__.nd rfl (by first | exact Or.inl rfl | exact Or.inr rfl) (pe_op (opAddU (K := K)) (pe_op (opAddU (K := K)) (pe_op (opAddU (K := K)) (pe_op opMultU (pe_op (opAddU (K := K)) (pe_glob rfl T.g_SLOTS T.r_SLOTS) pe_int) (pe_fldK (K := K) (pv 0) rfl)) (pe_glob rfl T.g_SLOTS T.r_SLOTS)) pe_int) (pv 1)))
      (pss_cons (ps_fld (pv 0) (pe_call G_parts_of (hr.mono (by decide)) rfl T.g_parts_of T.F_parts_of.kp T.b_parts_of .nil pass0 (pa_cons (pe_op opMultU pe_int (pv 4)) (pa_cons (pv 3) pa_nil))) rfl)
      (pss_one (ps_fld (pv 0) (pe_op (opAddU (K := K)) (pe_op opMultU pe_int (pe_fldK (K := K) (pv 0) rfl)) (pe_op opMultU (pv 1) (pv 2))) rfl))))))))))))))), ?_⟩
    try dsimp only [cxOf]
    obtain ⟨s1, s2, b1, b2, o1, fits⟩ := id hL
    fail "go"
    refine g_iteF (decide_eq_false (by omega)) ?_
    fail "go"
    refine g_iteF (decide_eq_false (by omega)) ?_
    fail "go"
    refine g_iteF (decide_eq_false (by omega)) ?_
    fail "go"
    refine g_iteF (decide_eq_false (by omega)) ?_
    fail "go"
    refine ⟨by fail "sz", ?_⟩
    fail "newR"
    rename_i t H1 R1 n1 g1 h1 r1
    fail "go"
    refine g_ninF (.inr (SqT.of (r1 _ _ h1))) rfl rfl ?_
    fail "go"
    rw [oct_in o1]
    fail "go"
    refine g_iteF (decide_eq_false (by have := fits; unfold Lay.lastId Lay.limit Lay.payload at this; omega)) ?_
    fail "go"
    rename_i H2 g2 h2 s2
    exact hq _ (g1.rr.trans s2) h2
end
def spLawLay (C : Addr) : Sp := fun vs H Q _ => ∃ (R : Hp) (b : Addr) (n : Int), vs = [.ref b] ∧ Same R H ∧ R b = none ∧ H b = some (.lst [.int n]) ∧ ∀ p H' L, Same R H' → R p = none → (∃ m, H' b = some (.lst [.int m])) → LayAt C H' p L → L ∈ lays → Q (.ref p) H'
section
variable {P : Program} {w : World} {K : PySem.W.Frag} {mg : Str → Option Value} {base : Heap}
theorem ok__law_layout (T : Txt P K mg) : FnOk P w K mg base CX0 4 T.f__law_layout T.fd__law_layout ["box"] (spLawLay T.C_Layout) := by
  have G__law_take := ok__law_take (P := P) (w := w) (base := base) T
  have G_Layout___init__ := ok_Layout___init__ (P := P) (w := w) (base := base) T
  refine T.F__law_layout.ok sc__law_layout (fun vs H Q E h => ?_) (fun cdv A outer s H vs Q E hr h => ?_)
  · obtain ⟨R, b, n, rfl, sR, Rb, hb, hq⟩ := h
    rfl
  · obtain ⟨R, b, n, rfl, sR, Rb, hb, hq⟩ := h
    refine ⟨_, (pss_cons (ps_set (i := 1) sc__law_layout.nd rfl (by first | exact Or.inl rfl | exact Or.inr rfl) (pe_ix (ixU (K := K)) (pe_lst (pa_cons (pe_tup (pa_cons pe_int (pa_cons pe_int (pa_cons pe_int pa_nil)))) (pa_cons (pe_tup (pa_cons pe_int (pa_cons pe_int (pa_cons pe_int pa_nil)))) (pa_cons (pe_tup (pa_cons pe_int (pa_cons pe_int (pa_cons pe_int pa_nil)))) (pa_cons (pe_tup (pa_cons pe_int (pa_cons pe_int (pa_cons pe_int pa_nil)))) (pa_cons (pe_tup (pa_cons pe_int (pa_cons pe_int (pa_cons pe_int pa_nil)))) (pa_cons (pe_tup (pa_cons pe_int (pa_cons pe_int (pa_cons pe_int pa_nil)))) pa_nil))))))) (pe_call G__law_take (hr.mono (by decide)) rfl T.g__law_take T.F__law_take.kp T.b__law_take .nil pass0 (pa_cons (pv 0) (pa_cons pe_int pa_nil))) (fun _ _ => rfl)))
      (pss_one (ps_ret (pe_make T.mk_Layout G_Layout___init__ (hr.mono (by decide)) rfl T.g_Layout T.b_Layout___init__ .nil pass0 (pa_cons (pe_ix (ixU (K := K)) (pv 1) pe_int (fun _ _ => rfl)) (pa_cons (pe_ix (ixU (K := K)) (pv 1) pe_int (fun _ _ => rfl)) (pa_cons (pe_ix (ixU (K := K)) (pv 1) pe_int (fun _ _ => rfl)) pa_nil))))))), ?_⟩
    try dsimp only [cxOf]
    fail "go"
    refine ⟨by fail "sz", ?_⟩
    fail "newM"
    rename_i t1 H1 n1 g1 m1 h1 s1
    fail "go"
    refine ⟨by fail "sz", ?_⟩
    fail "newM"
    rename_i t2 H2 n2 g2 m2 h2 s2
    fail "go"
    refine ⟨by fail "sz", ?_⟩
    fail "newM"
    rename_i t3 H3 n3 g3 m3 h3 s3
    fail "go"
    refine ⟨by fail "sz", ?_⟩
    fail "newM"
    rename_i t4 H4 n4 g4 m4 h4 s4
    fail "go"
    refine ⟨by fail "sz", ?_⟩
    fail "newM"
    rename_i t5 H5 n5 g5 m5 h5 s5
    fail "go"
    refine ⟨by fail "sz", ?_⟩
    fail "newM"
    rename_i t6 H6 n6 g6 m6 h6 s6
    fail "go"
    refine ⟨by fail "sz", ?_⟩
    fail "newM"
    rename_i l H7 n7 g7 m7 h7 s7
    fail "go"
    fail "mut"
    rename_i H8 g8 h8 s8
    have pick : ∃ (L : Lay) (t : Addr), L ∈ lays ∧ atI [V.ref t1, V.ref t2, V.ref t3, V.ref t4, V.ref t5, V.ref t6] (n % 6) = some (.ref t) ∧ SqT K H8 t [.int L.seg, .int L.blk, .int L.oct] := by
      have h0 := Int.emod_nonneg n (show (6 : Int) ≠ 0 by decide)
      have h1 := Int.emod_lt_of_pos n (show (0 : Int) < 6 by decide)
      have : n % 6 = 0 ∨ n % 6 = 1 ∨ n % 6 = 2 ∨ n % 6 = 3 ∨ n % 6 = 4 ∨ n % 6 = 5 := by omega
      rcases this with e | e | e | e | e | e <;> rw [e]
      · exact ⟨⟨4, 16, 64⟩, t1, by simp [lays], rfl, SqT.of (by fail "hp")⟩
      · exact ⟨⟨4, 16, 64⟩, t2, by simp [lays], rfl, SqT.of (by fail "hp")⟩
      · exact ⟨⟨5, 16, 64⟩, t3, by simp [lays], rfl, SqT.of (by fail "hp")⟩
      · exact ⟨⟨4, 16, 128⟩, t4, by simp [lays], rfl, SqT.of (by fail "hp")⟩
      · exact ⟨⟨4, 17, 64⟩, t5, by simp [lays], rfl, SqT.of (by fail "hp")⟩
      · exact ⟨⟨4, 16, 256⟩, t6, by simp [lays], rfl, SqT.of (by fail "hp")⟩
    obtain ⟨L, t, hL, hi, ht⟩ := pick
    refine g_ixL (SqL.of (by fail "hp")) hi ?_
    fail "go"
    intro p dx np ndx nex
    refine ⟨H8, p, dx, L, rfl, made_same np ndx, np, upd_same, lays_ok L hL, fun H9 s9 h9 => ⟨rfl, ?_⟩⟩
    fail "go"
    exact hq p H9 L (s8.trans s9) (s8.free np) ⟨_, s9 _ _ h8⟩ ⟨dx, h9⟩ hL
end
def spLawBlock (K : PySem.W.Frag) (C : Addr) : Sp := fun vs H Q _ => ∃ (R : Hp) (a b : Addr) (L : Lay) (n : Int), vs = [.ref a, .ref b] ∧ Same R H ∧ LayAt C R a L ∧ L ∈ lays ∧ R b = none ∧ H b = some (.lst [.int n]) ∧
  ∀ v R' H' k, Gr [b] R H R' H' → (∃ m, H' b = some (.lst [.int m])) → Dp K R' v k.d → BW L k → Q v H'
theorem pick2 {x y : Int} (c : Bool) : atI [V.int x, V.int y] (if c = true then 1 else 0) = some (V.int (if c = true then y else x)) := by cases c <;> rfl
def BodyFull (L : Lay) (k : Int) (l : List Int) : Prop := (k = 3 → (l.length : Int) = L.oct) ∧ (k ≠ 3 → 2 * (l.length : Int) = L.oct) ∧ (k ≠ 3 → ∀ n ∈ l, 0 ≤ n ∧ n < 65536)
def BodyB (k : Int) (l : List Int) : Prop := (k = 3 → ∀ n ∈ l, 0 ≤ n ∧ n < 256) ∧ (found k l).getD 0 0 ≠ 83
def LbMid (R Hc : Hp) (L : Lay) (a b : Addr) (k s f st : Int) (σ : St) (H : Hp) : Prop := ∃ (R' : Hp) (t : Addr) (l : List Int) (x : Option V), σ = [some (.ref a), some (.ref b), some (.int k), some (.int s), some (.int f), some (.int st), some (.ref t), x] ∧ Gr [] R Hc R' H ∧ R' t = some (.tup (l.map V.int)) ∧ BodyFull L k l ∧ BodyB k l
def col (f : Nat → Int) (j : Nat) : List Int := (List.range j).map f
@[simp] theorem col_len (f : Nat → Int) (j : Nat) : (col f j).length = j := by simp [col]
theorem col_succ (f : Nat → Int) (j : Nat) : col f (j + 1) = col f j ++ [f j] := by simp [col, List.range_succ]
theorem col_0 {f : Nat → Int} {j : Nat} (h : 0 < j) : (col f j).getD 0 0 = f 0 := by
  match j, h with
  | n + 1, _ => simp [col, List.range_succ_eq_map]
theorem pairs_0 : ∀ {l : List Int}, (pairs l).getD 0 0 = l.getD 0 0 % 256
  | [] => rfl
  | _ :: _ => rfl
def ColInv (R Hc : Hp) (D : Addr) (f : Nat → Int) (j : Nat) (H : Hp) : Prop := Same Hc H ∧ H D = some (.lst ((col f j).map V.int))
local macro_rules | `(tactic| fail "calls") => `(tactic| ((with_reducible show spTake _ _ _ _); refine ⟨_, _, _, rfl, by fail "hp", by fail "ar", by fail "ar", ?_⟩; fail "mut"))
section
variable {P : Program} {w : World} {K : PySem.W.Frag} {mg : Str → Option Value} {base : Heap}
theorem ok__law_block (T : Txt P K mg) : FnOk P w K mg base CX0 2 T.f__law_block T.fd__law_block ["layout", "box"] (spLawBlock K T.C_Layout) := by
  have cl_Layout := T.cl_Layout
  have a_Layout_block_size := T.a_Layout_block_size
  have a_Layout_fan := T.a_Layout_fan
  have G__law_take := ok__law_take (P := P) (w := w) (base := base) T
  refine T.F__law_block.ok sc__law_block (fun vs H Q E h => ?_) (fun cdv A outer s H vs Q E hr h => ?_)
  · obtain ⟨R, a, b, L, n, rfl, sR, ⟨dx, ha⟩, hL, Rb, hb, hq⟩ := h
    rfl
  · obtain ⟨R, a, b, L, n, rfl, sR, ⟨dx, ha⟩, hL, Rb, hb, hq⟩ := h
    refine ⟨_, (pss_cons (ps_set (i := 2) sc__law_block.nd rfl (by first | exact Or.inl rfl | exact Or.inr rfl) (pe_op (opAddU (K := K)) pe_int (pe_call G__law_take (hr.mono (by decide)) rfl T.g__law_take T.F__law_take.kp T.b__law_take .nil pass0 (pa_cons (pv 1) (pa_cons pe_int pa_nil)))))
      (pss_cons (ps_set (i := 3) sc__law_block.nd rfl (by first | exact Or.inl rfl | exact Or.inr rfl) (pe_ix (ixU (K := K)) (pe_lst (pa_cons (pe_op (opAddU (K := K)) pe_int (pe_call G__law_take (hr.mono (by decide)) rfl T.g__law_take T.F__law_take.kp T.b__law_take .nil pass0 (pa_cons (pv 1) (pa_cons pe_int pa_nil)))) (pa_cons (pe_op opSubU (pe_op opSubU (pe_op opPowU pe_int pe_int) pe_int) (pe_call G__law_take (hr.mono (by decide)) rfl T.g__law_take T.F__law_take.kp T.b__law_take .nil pass0 (pa_cons (pv 1) (pa_cons pe_int pa_nil)))) pa_nil))) (pe_callTy callIntU (by rfl) T.n_int (by decide +kernel) (pa_cons (pe_cmpR (opEqU (K := K) hr.units) (pe_call G__law_take (hr.mono (by decide)) rfl T.g__law_take T.F__law_take.kp T.b__law_take .nil pass0 (pa_cons (pv 1) (pa_cons pe_int pa_nil))) pe_int (nomark _)) pa_nil)) (fun _ _ => rfl)))
      (pss_cons (ps_set (i := 4) sc__law_block.nd rfl (by first | exact Or.inl rfl | exact Or.inr rfl) (pe_call G__law_take (hr.mono (by decide)) rfl T.g__law_take T.F__law_take.kp T.b__law_take .nil pass0 (pa_cons (pv 1) (pa_cons pe_int pa_nil))))
      (pss_cons (ps_set (i := 5) sc__law_block.nd rfl (by first | exact Or.inl rfl | exact Or.inr rfl) (pe_call G__law_take (hr.mono (by decide)) rfl T.g__law_take T.F__law_take.kp T.b__law_take .nil pass0 (pa_cons (pv 1) (pa_cons pe_int pa_nil))))
      (pss_cons (ps_if (pt_cmpR (opEqU (K := K) hr.units) (pv 2) pe_int (nomark _)) (pss_one (ps_set (i := 6) sc__law_block.nd rfl (by first | exact Or.inl rfl | exact Or.inr rfl) (pe_callTy (callTupU (K := K)) (by rfl) T.n_tuple (by decide +kernel) (pa_cons (pe_lc (own := [("k", 7)]) (g := gName 7) (tt := tYes) rfl sc__law_block.nd (pi_range1 rfl T.n_range (pa_cons (pe_fldK (K := K) (pv 0) rfl) pa_nil)) (blkOk_by (N := N__law_block) (sc := defScope s__law_block) (by decide +kernel)) (fun _ _ _ _ _ => (pg_name (i := 7) sc__law_block.nd rfl (by first | exact Or.inl rfl | exact Or.inr rfl))) (fun _ _ _ _ _ => pts_nil) (fun _ _ _ _ _ => (pe_op opModU (pe_callTy callIntU (by rfl) T.n_int (by decide +kernel) (pa_cons (pe_op (opAddU (K := K)) (pv 4) (pe_op opMultU (pv 7) (pv 5))) pa_nil)) pe_int))) pa_nil)))) (pss_one (ps_set (i := 6) sc__law_block.nd rfl (by first | exact Or.inl rfl | exact Or.inr rfl) (pe_callTy (callTupU (K := K)) (by rfl) T.n_tuple (by decide +kernel) (pa_cons (pe_lc (own := [("k", 7)]) (g := gName 7) (tt := tYes) rfl sc__law_block.nd (pi_range1 rfl T.n_range (pa_cons (pe_fldK (K := K) (pv 0) rfl) pa_nil)) (blkOk_by (N := N__law_block) (sc := defScope s__law_block) (by decide +kernel)) (fun _ _ _ _ _ => (pg_name (i := 7) sc__law_block.nd rfl (by first | exact Or.inl rfl | exact Or.inr rfl))) (fun _ _ _ _ _ => pts_nil) (fun _ _ _ _ _ => (pe_op opModU (pe_callTy callIntU (by rfl) T.n_int (by decide +kernel) (pa_cons (pe_op (opAddU (K := K)) (pv 4) (pe_op opMultU (pe_op opMultU (pv 7) (pv 5)) pe_int)) pa_nil)) pe_int))) pa_nil)))))
      (pss_one (ps_ret (pe_tup (pa_cons (pv 2) (pa_cons (pv 3) (pa_cons (pe_call G__law_take (hr.mono (by decide)) rfl T.g__law_take T.F__law_take.kp T.b__law_take .nil pass0 (pa_cons (pv 1) (pa_cons pe_int pa_nil))) (pa_cons (pv 6) pa_nil)))))))))))), ?_⟩
    try dsimp only [cxOf]
    have haH := sR _ _ ha
    have ok := lays_ok L hL
    fail "go"
    refine ⟨by fail "sz", ?_⟩
    fail "newM"
    rename_i p H1 n1 g1 m1 h1 s1
    fail "go"
    refine g_ixL (SqL.of (by fail "hp")) (pick2 _) ?_
    have e48 : (2 : Int) ^ Int.toNat 48 = 281474976710656 := by decide
    rw [e48]
    generalize hsq : (if decide (n / 3 / 300 / 9 % 8 = 0) = true then _ else _ : Int) = sq
    have sq0 : 0 ≤ sq ∧ sq < 281474976710656 := by
      rw [← hsq]
      have := Int.emod_nonneg (n / 3) (show (300 : Int) ≠ 0 by decide)
      have := Int.emod_lt_of_pos (n / 3) (show (0 : Int) < 300 by decide)
      have := Int.emod_nonneg (n / 3 / 300) (show (9 : Int) ≠ 0 by decide)
      have := Int.emod_lt_of_pos (n / 3 / 300) (show (0 : Int) < 9 by decide)
      split <;> omega
    clear hsq
    fail "gi"
    rename_i H2 g2 h2 s2
    have f0 := Int.emod_nonneg (n / 3 / 300 / 9 / 8) (show (70 : Int) ≠ 0 by decide)
    have f1 := Int.emod_lt_of_pos (n / 3 / 300 / 9 / 8) (show (0 : Int) < 70 by decide)
    generalize n / 3 / 300 / 9 / 8 % 70 = f at *
    generalize n / 3 / 300 / 9 / 8 / 70 % 251 = d at *
    have k0 := Int.emod_nonneg n (show (3 : Int) ≠ 0 by decide)
    have k9 := Int.emod_lt_of_pos n (show (0 : Int) < 3 by decide)
    refine g_seqIN (LbMid R H2 L a b (3 + n % 3) sq f d) ?_ (fun N rest => ?_)
    · rintro σ H3 ⟨R3, t, l, x, rfl, g3, h3, hl, hbo⟩
      have s3 := g3.rh
      have h3b := g3.same _ _ h2
      have r3b : R3 b = none := g3.fr _ _ h2 Rb
      fail "go"
      refine ⟨by fail "sz", ?_⟩
      fail "newR"
      rename_i p H5 R5 n5 g5 h5 s5
      refine hq _ R5 H5 ⟨3 + n % 3, sq, n / 3 / 300 / 9 / 8 / 70 / 251 % 32, l⟩ (by fail "gr") ⟨_, by fail "hp"⟩ ?_ ⟨⟨⟨by show 3 ≤ 3 + n % 3; omega, hl.1, hl.2.1, hl.2.2⟩, by show 3 + n % 3 ≤ 5; omega, sq0.1, sq0.2, Int.emod_nonneg _ (by decide), by have := Int.emod_lt_of_pos (n / 3 / 300 / 9 / 8 / 70 / 251) (show (0 : Int) < 32 by decide); show n / 3 / 300 / 9 / 8 / 70 / 251 % 32 < 65536; omega⟩, hbo.1, .inl hbo.2⟩
      exact .tup (SqT.of h5) (.cons (.int _) (.cons (.int _) (.cons (.int _) (.cons (.tup (SqT.of (by fail "rp")) (dpAll_ints l)) .nil))))
    · have o1 := ok.o1
      have hfan : L.fan = L.oct / 2 := rfl
      fail "go"
      refine g_ite (fun e => ?_) (fun e => ?_)
      · fail "go"
        refine g_R1W (n := (L.oct).toNat) (by omega) (by omega) ?_
        intro D nD
        refine lc_range (lo := 0) (n := (L.oct).toNat) (ColInv R H2 D fun k => (f + (0 + (k : Int)) * d) % 256) ⟨(Gr.newM (M := []) (Same.refl H2) nD).same, by rw [upd_same]; rfl⟩ ?_ ?_
        · rintro j H3 hj ⟨s3, h3⟩
          refine ⟨rfl, ?_⟩
          fail "go"
          refine ⟨_, h3, by rw [List.length_map, col_len]; fail "sz", fun c o q => by rw [upd_ne (ne_of_none q nD)]; exact s3 c o q, ?_⟩
          rw [upd_same, col_succ, List.map_append]; rfl
        rintro H3 ⟨s3, h3⟩
        have sR3 := s2.trans s3
        have gm := Mu.ofSame (M := []) s2 s3
        fail "go"
        refine g_tupL (SqL.of h3) ?_
        fail "newR"
        rename_i t H4 R4 n4 g4 h4 s4
        fail "go"
        refine rest _ _ ⟨R4, t, _, _, rfl, gm.g.trans g4, h4, ⟨?_, ?_, ?_⟩, ?_, ?_⟩
        · intro _; rw [col_len]; omega
        · intro z; exact absurd e z
        · intro z; exact absurd e z
        · intro _ n hn
          obtain ⟨k, _, rfl⟩ := List.mem_map.mp hn
          exact ⟨Int.emod_nonneg _ (by decide), Int.emod_lt_of_pos _ (by decide)⟩
        · rw [found, if_pos e, col_0 (by omega)]
          show (f + (0 + ((0 : Nat) : Int)) * d) % 256 ≠ 83
          rw [show ((0 : Int) + ((0 : Nat) : Int)) * d = 0 by simp]
          omega
      · fail "go"
        refine g_R1W (n := (L.fan).toNat) (by omega) (by omega) ?_
        intro D nD
        refine lc_range (lo := 0) (n := (L.fan).toNat) (ColInv R H2 D fun k => (f + (0 + (k : Int)) * d * 37) % 65536) ⟨(Gr.newM (M := []) (Same.refl H2) nD).same, by rw [upd_same]; rfl⟩ ?_ ?_
        · rintro j H3 hj ⟨s3, h3⟩
          refine ⟨rfl, ?_⟩
          fail "go"
          refine ⟨_, h3, by rw [List.length_map, col_len]; fail "sz", fun c o q => by rw [upd_ne (ne_of_none q nD)]; exact s3 c o q, ?_⟩
          rw [upd_same, col_succ, List.map_append]; rfl
        rintro H3 ⟨s3, h3⟩
        have sR3 := s2.trans s3
        have gm := Mu.ofSame (M := []) s2 s3
        fail "go"
        refine g_tupL (SqL.of h3) ?_
        fail "newR"
        rename_i t H4 R4 n4 g4 h4 s4
        fail "go"
        refine rest _ _ ⟨R4, t, _, _, rfl, gm.g.trans g4, h4, ⟨?_, ?_, ?_⟩, ?_, ?_⟩
        · intro z; exact absurd z e
        · intro _; rw [col_len]; rw [hfan]; omega
        · intro _ n hn
          obtain ⟨k, _, rfl⟩ := List.mem_map.mp hn
          exact ⟨Int.emod_nonneg _ (by decide), Int.emod_lt_of_pos _ (by decide)⟩
        · intro z; exact absurd z e
        · rw [found, if_neg e, pairs_0, col_0 (by omega)]
          show (f + (0 + ((0 : Nat) : Int)) * d * 37) % 65536 % 256 ≠ 83
          rw [show ((0 : Int) + ((0 : Nat) : Int)) * d * 37 = 0 by simp]
          omega
end
def spOctets : Sp := fun vs H Q _ => ∃ (n : Int) (k : Nat), vs = [.int n, .int (k : Int)] ∧ k ≤ 100 ∧ ∀ p H', Same H H' → H p = none → H' p = some (.lst ((lows n k).map V.int)) → Q (.ref p) H'
def LowInv (R : Hp) (n : Int) (k : Nat) (p : Addr) (i : Nat) (σ : St) (H : Hp) : Prop := ∃ x : Option V, σ = [some (.int (lowsRest n i)), some (.int (k : Int)), some (.ref p), x] ∧ Same R H ∧ H p = some (.lst ((lows n i).map V.int))
local macro_rules | `(tactic| fail "calls") => `(tactic| ((with_reducible show spOctets _ _ _ _); first | refine ⟨_, 6, rfl, by omega, ?_⟩ | refine ⟨_, 2, rfl, by omega, ?_⟩ | refine ⟨_, 3, rfl, by omega, ?_⟩))
section
variable {P : Program} {w : World} {K : PySem.W.Frag} {mg : Str → Option Value} {base : Heap}
theorem ok__law_low (T : Txt P K mg) : FnOk P w K mg base CX0 1 T.f__law_low T.fd__law_low ["number", "count"] (spOctets) := by
  refine T.F__law_low.ok sc__law_low (fun vs H Q E h => ?_) (fun cdv A outer s H vs Q E hr h => ?_)
  · obtain ⟨n, k, rfl, hk, hq⟩ := h
    rfl
  · obtain ⟨n, k, rfl, hk, hq⟩ := h
    refine ⟨_, (pss_cons (ps_set (i := 2) sc__law_low.nd rfl (by first | exact Or.inl rfl | exact Or.inr rfl) (pe_lst pa_nil))
      (pss_cons (ps_for PassesOwn.never rfl (pi_range1 rfl T.n_range (pa_cons (pv 1) pa_nil)) (pg_name (i := 3) sc__law_low.nd rfl (by first | exact Or.inl rfl | exact Or.inr rfl)) (pss_cons (ps_expr (pe_bm PySem.F.plainAttrs_list PySem.F.slot_list_append PySem.F.type_list_append mt_append (pv 2) (pa_cons (pe_op opModU (pe_callTy callIntU (by rfl) T.n_int (by decide +kernel) (pa_cons (pv 0) pa_nil)) pe_int) pa_nil)))
      (pss_one (ps_set (i := 0) sc__law_low.nd rfl (by first | exact Or.inl rfl | exact Or.inr rfl) (pe_op opFloorDivU (pv 0) pe_int)))))
      (pss_one (ps_ret (pv 2))))), ?_⟩
    try dsimp only [cxOf]
    have r0 := Same.refl H
    fail "go"
    refine ⟨by fail "sz", ?_⟩
    fail "newM"
    rename_i p H1 n1 g1 m1 h1 s1
    fail "go"
    refine g_R1W rfl (by omega) ?_
    refine for_range (lo := 0) (n := k) (LowInv H n k p) ⟨none, rfl, s1, h1⟩ ?_ ?_
    · rintro i σ H2 hi ⟨x0, rfl, s2, h2⟩
      fail "go"
      rename_i H3 g3 h3 s3
      fail "go"
      refine ⟨some (.int (0 + (i : Int))), ?_, s3, ?_⟩
      · rw [lowsRest_succ]; rfl
      · rw [lows_succ, List.map_append]; exact h3
    · rintro σ H2 ⟨x0, rfl, s2, h2⟩
      fail "go"
      exact hq _ _ s2 m1 h2
end
def spLawOcts (K : PySem.W.Frag) (C : Addr) : Sp := fun vs H Q _ => ∃ (a : Addr) (v : V) (L : Lay) (b : Option Blk), vs = [.ref a, v] ∧ LayAt C H a L ∧ L.Ok ∧ Dp K H v (optD b) ∧ FullO L b ∧
  ∀ p H', Same H H' → H p = none → H' p = some (.lst ((octs L b).map V.int)) → Q (.ref p) H'
def LoInv (R : Hp) (a t : Addr) (b : Blk) (i : Nat) (σ : St) (H : Hp) : Prop := ∃ (x : Option V) (p : Addr), σ = [some (.ref a), some (.ref t), some (.ref p), x] ∧ Same R H ∧ R p = none ∧ H p = some (.lst ((headOf b ++ pairs (b.body.take i)).map V.int))
section
variable {P : Program} {w : World} {K : PySem.W.Frag} {mg : Str → Option Value} {base : Heap}
theorem ok__law_octets (T : Txt P K mg) : FnOk P w K mg base CX0 2 T.f__law_octets T.fd__law_octets ["layout", "block"] (spLawOcts K T.C_Layout) := by
  have cl_Layout := T.cl_Layout
  have a_Layout_block_size := T.a_Layout_block_size
  have G__law_low := ok__law_low (P := P) (w := w) (base := base) T
  refine T.F__law_octets.ok sc__law_octets (fun vs H Q E h => ?_) (fun cdv A outer s H vs Q E hr h => ?_)
  · obtain ⟨a, v, L, b, rfl, ⟨dx, ha⟩, hL, hv, hb, hq⟩ := h
    rfl
  · obtain ⟨a, v, L, b, rfl, ⟨dx, ha⟩, hL, hv, hb, hq⟩ := h
    refine ⟨_, (pss_cons (ps_if (pt_cmpR opIsU (pv 1) pe_non (nomark _)) (pss_one (ps_ret (pe_op opMultU (pe_lst (pa_cons pe_int pa_nil)) (pe_op (opAddU (K := K)) pe_int (pe_fldK (K := K) (pv 0) rfl))))) pss_nil)
      (pss_cons (ps_set (i := 2) sc__law_octets.nd rfl (by first | exact Or.inl rfl | exact Or.inr rfl) (pe_op (opAddU (K := K)) (pe_op (opAddU (K := K)) (pe_op (opAddU (K := K)) (pe_lst (pa_cons (pe_ix (ixU (K := K)) (pv 1) pe_int (fun _ _ => rfl)) pa_nil)) (pe_call G__law_low (hr.mono (by decide)) rfl T.g__law_low T.F__law_low.kp T.b__law_low .nil pass0 (pa_cons (pe_ix (ixU (K := K)) (pv 1) pe_int (fun _ _ => rfl)) (pa_cons pe_int pa_nil)))) (pe_call G__law_low (hr.mono (by decide)) rfl T.g__law_low T.F__law_low.kp T.b__law_low .nil pass0 (pa_cons (pe_ix (ixU (K := K)) (pv 1) pe_int (fun _ _ => rfl)) (pa_cons pe_int pa_nil)))) (pe_op opMultU (pe_lst (pa_cons pe_int pa_nil)) pe_int)))
      (pss_cons (ps_if (pt_cmpR (opEqU (K := K) hr.units) (pe_ix (ixU (K := K)) (pv 1) pe_int (fun _ _ => rfl)) pe_int (nomark _)) (pss_one (ps_ret (pe_op (opAddU (K := K)) (pv 2) (pe_callTy (callListU (K := K)) (by rfl) T.n_list (by decide +kernel) (pa_cons (pe_ix (ixU (K := K)) (pv 1) pe_int (fun _ _ => rfl)) pa_nil))))) pss_nil)
      (pss_cons (ps_for PassesOwn.never rfl (pi_tupK (K := K) (pe_ix (ixU (K := K)) (pv 1) pe_int (fun _ _ => rfl))) (pg_name (i := 3) sc__law_octets.nd rfl (by first | exact Or.inl rfl | exact Or.inr rfl)) (pss_one (ps_set (i := 2) sc__law_octets.nd rfl (by first | exact Or.inl rfl | exact Or.inr rfl) (pe_op (opAddU (K := K)) (pv 2) (pe_call G__law_low (hr.mono (by decide)) rfl T.g__law_low T.F__law_low.kp T.b__law_low .nil pass0 (pa_cons (pv 3) (pa_cons pe_int pa_nil)))))))
      (pss_one (ps_ret (pv 2))))))), ?_⟩
    try dsimp only [cxOf]
    have r0 := Same.refl H
    have o1 := hL.o1
    cases b with
    | none =>
      obtain rfl := dp_non hv
      fail "go"
      refine ⟨by fail "sz", ?_⟩
      fail "newM"
      rename_i z H2 n2 g2 m2 h2 s2
      fail "go"
      refine g_repZ (by fail "hp") (by omega) (by omega) ?_
      fail "newM"
      rename_i y H3 n3 g3 m3 h3 s3
      exact hq _ _ s3 m3 h3
    | some b =>
      obtain ⟨t, u, rfl, ht, hu⟩ := dpBlk hv
      have hf : Full L b := hb
      rw [octs_full hf] at hq
      fail "go"
      refine ⟨by fail "sz", ?_⟩
      fail "newM"
      rename_i z H1 n1 g1 m1 h1 s1
      fail "go"
      fail "ret"
      rename_i p2 H2 h2 f2 g2 m2 s2
      refine g_catI (l := [b.kind]) (by fail "hp") h2 (by simp) ?_
      fail "newM"
      rename_i p3 H3 n3 g3 m3 h3 s3
      fail "go"
      fail "ret"
      rename_i p4 H4 h4 f4 g4 m4 s4
      refine g_catI (by fail "hp") h4 (by simp) ?_
      fail "newM"
      rename_i p5 H5 n5 g5 m5 h5 s5
      fail "go"
      refine ⟨by fail "sz", ?_⟩
      fail "newM"
      rename_i p6 H6 n6 g6 m6 h6 s6
      fail "go"
      refine g_repZ (by fail "hp") (by simp) (by simp) ?_
      fail "newM"
      rename_i p7 H7 n7 g7 m7 h7 s7
      refine g_catI (by fail "hp") h7 (by simp) ?_
      fail "newM"
      rename_i p8 H8 n8 g8 m8 h8 s8
      have h8' : H8 p8 = some (.lst ((headOf b).map V.int)) := h8
      clear h8
      fail "go"
      refine g_ite (fun e => ?_) (fun e => ?_)
      · have hd := hf.d e
        fail "go"
        refine g_listT (by fail "sq") ?_
        fail "newM"
        rename_i y H9 n9 g9 m9 h9 s9
        fail "go"
        refine g_catI (by fail "hp") h9 (by simp; omega) ?_
        fail "newM"
        rename_i w HA nA gA mA hA sA
        refine hq _ _ sA mA ?_
        rw [hA, found, if_pos e]
      · have hd := hf.p e
        have hr := hf.r e
        rw [found, if_neg e] at hq
        fail "go"
        refine g_TsW (by fail "sq") ?_
        refine for_tup (K := K) (xs := b.body.map V.int) (LoInv H a t b) ⟨none, p8, rfl, s8, m8, by rw [h8']; simp [pairs]⟩ (fun i σ H2 _ ⟨_, _, _, s2, _⟩ => sqT_mono s2 hu) ?_ ?_
        · rintro i x σ H9 hi ⟨x0, p, rfl, s9, m9, h9⟩
          obtain ⟨n, hn, rfl⟩ := map_get hi
          have hil : i < b.body.length := (List.getElem?_eq_some_iff.mp hn).1
          fail "go"
          fail "ret"
          rename_i pA HA hA fA gA mA sA
          refine g_catI (by fail "hp") hA (by simp; omega) ?_
          fail "newM"
          rename_i w HB nB gB mB hB sB
          fail "go"
          refine ⟨some (.int n), w, rfl, sB, mB, ?_⟩
          rw [hB, take_snoc hn, pairs_snoc, pair_low (hr n (List.mem_of_getElem? hn)), List.append_assoc]
        · rintro σ H9 ⟨x0, p, rfl, s9, m9, h9⟩
          rw [List.length_map, List.take_length] at h9
          fail "go"
          exact hq _ _ s9 m9 h9
end
def spLawCheck (K : PySem.W.Frag) (C : Addr) : Sp := fun vs H Q _ => ∃ (a : Addr) (v : V) (L : Lay) (n : Int) (b : Option Blk), vs = [.ref a, .int n, v] ∧ LayAt C H a L ∧ L.Ok ∧ Dp K H v (optD b) ∧ FullO L b ∧ ∀ H', Same H H' → Q (.int (chk L n b)) H'
def LChkInv (R : Hp) (a : Addr) (v : V) (n : Int) (os : List Int) (i : Nat) (σ : St) (H : Hp) : Prop := ∃ x : Option V, σ = [some (.ref a), some (.int n), some v, some (.int ((os.take i).foldl chkStep (n + 1))), x] ∧ Same R H
section
variable {P : Program} {w : World} {K : PySem.W.Frag} {mg : Str → Option Value} {base : Heap}
theorem ok__law_check (T : Txt P K mg) : FnOk P w K mg base CX0 3 T.f__law_check T.fd__law_check ["layout", "address", "block"] (spLawCheck K T.C_Layout) := by
  have G__law_octets := ok__law_octets (P := P) (w := w) (base := base) T
  refine T.F__law_check.ok sc__law_check (fun vs H Q E h => ?_) (fun cdv A outer s H vs Q E hr h => ?_)
  · obtain ⟨a, v, L, n, b, rfl, ha, hL, hv, hb, hq⟩ := h
    rfl
  · obtain ⟨a, v, L, n, b, rfl, ha, hL, hv, hb, hq⟩ := h
    refine ⟨_, (pss_cons (ps_set (i := 3) sc__law_check.nd rfl (by first | exact Or.inl rfl | exact Or.inr rfl) (pe_op (opAddU (K := K)) (pv 1) pe_int))
      (pss_cons (ps_for PassesOwn.never rfl (pi_listK (K := K) (pe_call G__law_octets (hr.mono (by decide)) rfl T.g__law_octets T.F__law_octets.kp T.b__law_octets .nil pass0 (pa_cons (pv 0) (pa_cons (pv 2) pa_nil)))) (pg_name (i := 4) sc__law_check.nd rfl (by first | exact Or.inl rfl | exact Or.inr rfl)) (pss_one (ps_set (i := 3) sc__law_check.nd rfl (by first | exact Or.inl rfl | exact Or.inr rfl) (pe_op opModU (pe_callTy callIntU (by rfl) T.n_int (by decide +kernel) (pa_cons (pe_op (opAddU (K := K)) (pe_op (opAddU (K := K)) (pe_op opMultU (pv 3) pe_int) (pv 4)) pe_int) pa_nil)) pe_int))))
      (pss_one (ps_ret (pv 3))))), ?_⟩
    try dsimp only [cxOf]
    have r0 := Same.refl H
    fail "go"
    refine ⟨a, v, L, b, rfl, ha, hL, hv, hb, ?_⟩
    fail "ret"
    rename_i p H1 h1 f1 g1 m1 s1
    refine g_LsW (SqL.of h1) ?_
    refine for_list (K := K) (xs := (octs L b).map V.int) (LChkInv H1 a v n (octs L b)) ⟨none, rfl, Same.refl H1⟩ (fun i σ H2 _ ⟨_, _, s2⟩ => SqL.of (s2 _ _ h1)) ?_ ?_
    · rintro i x σ H2 hi ⟨x0, rfl, s2⟩
      obtain ⟨o, ho, rfl⟩ := map_get hi
      fail "go"
      refine ⟨some (.int o), ?_, s2⟩
      rw [take_snoc ho, List.foldl_append]; rfl
    · rintro σ H2 ⟨x0, rfl, s2⟩
      rw [List.length_map, List.take_length]
      fail "go"
      exact hq _ (s1.trans s2)
end
def spLawSealed (K : PySem.W.Frag) (C : Addr) : Sp := fun vs H Q _ => ∃ (R : Hp) (a : Addr) (v : V) (L : Lay) (n : Int) (b : Option Blk), vs = [.ref a, .int n, v] ∧ Same R H ∧ LayAt C R a L ∧ L.Ok ∧ Dp K R v (optD b) ∧ FullO L b ∧ ∀ w R' H', Gr [] R H R' H' → Dp K R' w (cellD (sealOf L n b)) → Q w H'
section
variable {P : Program} {w : World} {K : PySem.W.Frag} {mg : Str → Option Value} {base : Heap}
theorem ok__law_sealed (T : Txt P K mg) : FnOk P w K mg base CX0 4 T.f__law_sealed T.fd__law_sealed ["layout", "address", "block"] (spLawSealed K T.C_Layout) := by
  have G__law_check := ok__law_check (P := P) (w := w) (base := base) T
  refine T.F__law_sealed.ok sc__law_sealed (fun vs H Q E h => ?_) (fun cdv A outer s H vs Q E hr h => ?_)
  · obtain ⟨R, a, v, L, n, b, rfl, sR, ⟨lx, haf⟩, hL, hv, hb, hq⟩ := h
    rfl
  · obtain ⟨R, a, v, L, n, b, rfl, sR, ⟨lx, haf⟩, hL, hv, hb, hq⟩ := h
    refine ⟨_, (pss_cons (ps_if (pt_cmpR opIsU (pv 2) pe_non (nomark _)) (pss_one (ps_ret pe_non)) pss_nil)
      (pss_one (ps_ret (pe_tup (pa_cons (pv 2) (pa_cons (pe_call G__law_check (hr.mono (by decide)) rfl T.g__law_check T.F__law_check.kp T.b__law_check .nil pass0 (pa_cons (pv 0) (pa_cons (pv 1) (pa_cons (pv 2) pa_nil)))) pa_nil)))))), ?_⟩
    try dsimp only [cxOf]
    rcases optV hv with ⟨rfl, rfl⟩ | ⟨c, t, rfl, rfl⟩
    · fail "go"
      exact hq _ R H (Gr.refl sR) .non
    · fail "go"
      refine ⟨a, _, L, n, some c, rfl, ⟨_, sR _ _ haf⟩, hL, dp_mono sR hv, hb, fun H1 s1 => ?_⟩
      have gA : Mu [] R H H1 := .ofSame sR s1
      have s01 := gA.g.rh
      clear sR
      fail "go"
      refine ⟨by fail "sz", ?_⟩
      fail "newR"
      rename_i p H2 R2 n2 g2 h2 s2
      exact hq _ R2 H2 (gA.g.trans g2) (.tup (SqT.of h2) (.cons (dp_mono g2.rr hv) (.cons (.int _) .nil)))
end
def spLawCell (K : PySem.W.Frag) (C : Addr) : Sp := fun vs H Q _ => ∃ (R : Hp) (a b : Addr) (L : Lay) (n z : Int), vs = [.ref a, .int n, .ref b] ∧ Same R H ∧ LayAt C R a L ∧ L ∈ lays ∧ R b = none ∧ H b = some (.lst [.int z]) ∧
  ∀ v R' H' c, Gr [b] R H R' H' → (∃ m, H' b = some (.lst [.int m])) → Dp K R' v (cellD c) → CW L c → Q v H'
section
variable {P : Program} {w : World} {K : PySem.W.Frag} {mg : Str → Option Value} {base : Heap}
theorem ok__law_cell (T : Txt P K mg) : FnOk P w K mg base CX0 5 T.f__law_cell T.fd__law_cell ["layout", "address", "box"] (spLawCell K T.C_Layout) := by
  have G__law_block := ok__law_block (P := P) (w := w) (base := base) T
  have G__law_take := ok__law_take (P := P) (w := w) (base := base) T
  have G__law_sealed := ok__law_sealed (P := P) (w := w) (base := base) T
  refine T.F__law_cell.ok sc__law_cell (fun vs H Q E h => ?_) (fun cdv A outer s H vs Q E hr h => ?_)
  · obtain ⟨R, a, b, L, n, z, rfl, sR, ha, hL, Rb, hb, hq⟩ := h
    rfl
  · obtain ⟨R, a, b, L, n, z, rfl, sR, ha, hL, Rb, hb, hq⟩ := h
    refine ⟨_, (pss_cons (ps_set (i := 3) sc__law_cell.nd rfl (by first | exact Or.inl rfl | exact Or.inr rfl) (pe_call G__law_block (hr.mono (by decide)) rfl T.g__law_block T.F__law_block.kp T.b__law_block .nil pass0 (pa_cons (pv 0) (pa_cons (pv 2) pa_nil))))
      (pss_cons (ps_set (i := 4) sc__law_cell.nd rfl (by first | exact Or.inl rfl | exact Or.inr rfl) (pe_call G__law_take (hr.mono (by decide)) rfl T.g__law_take T.F__law_take.kp T.b__law_take .nil pass0 (pa_cons (pv 2) (pa_cons pe_int pa_nil))))
      (pss_cons (ps_if (pt_cmpR (opEqU (K := K) hr.units) (pv 4) pe_int (nomark _)) (pss_one (ps_ret pe_non)) pss_nil)
      (pss_cons (ps_if (pt_cmpR (opEqU (K := K) hr.units) (pv 4) pe_int (nomark _)) (pss_one (ps_ret (pe_tup (pa_cons (pv 3) (pa_cons (pe_op (opAddU (K := K)) pe_int (pe_call G__law_take (hr.mono (by decide)) rfl T.g__law_take T.F__law_take.kp T.b__law_take .nil pass0 (pa_cons (pv 2) (pa_cons pe_int pa_nil)))) pa_nil))))) pss_nil)
      (pss_cons (ps_if (pt_cmpR (opEqU (K := K) hr.units) (pv 4) pe_int (nomark _)) (pss_one (ps_ret (pe_tup (pa_cons pe_non (pa_cons (pe_call G__law_take (hr.mono (by decide)) rfl T.g__law_take T.F__law_take.kp T.b__law_take .nil pass0 (pa_cons (pv 2) (pa_cons pe_int pa_nil))) pa_nil))))) pss_nil)
      (pss_one (ps_ret (pe_call G__law_sealed (hr.mono (by decide)) rfl T.g__law_sealed T.F__law_sealed.kp T.b__law_sealed .nil pass0 (pa_cons (pv 0) (pa_cons (pv 1) (pa_cons (pv 3) pa_nil))))))))))), ?_⟩
    try dsimp only [cxOf]
    have hOk := lays_ok L hL
    fail "go"
    refine ⟨R, a, b, L, z, rfl, sR, ha, hL, Rb, hb, ?_⟩
    rintro v R4 H4 k g4 ⟨m4, hb4⟩ dk bx
    have s4 := g4.rh
    have R4b : R4 b = none := g4.fr _ _ hb Rb
    have ha4 := ha.mono g4.rr
    clear sR hb
    fail "go"
    rename_i H5 g5 h5 s5
    have gD : Gr [b] R H R4 H5 := g4.trans g5.g
    clear g5 s4 hb4
    refine g_ite (fun e => ?_) (fun e => ?_)
    · fail "go"
      exact hq _ _ _ none gD ⟨_, h5⟩ .non trivial
    fail "go"
    refine g_ite (fun e => ?_) (fun e => ?_)
    · fail "go"
      rename_i H6 g6 h6 s6
      refine ⟨by fail "sz", ?_⟩
      fail "newR"
      rename_i p7 H7 R7 n7 g7 h7 s7
      exact hq _ R7 H7 (some (some k, _)) (gD.trans (g6.g.trans g7.nil)) ⟨_, g7.same _ _ h6⟩ (.tup (SqT.of h7) (.cons (dp_mono g7.rr dk) (.cons (.int _) .nil))) (fun x hx => by cases hx; exact bx)
    fail "go"
    refine g_ite (fun e => ?_) (fun e => ?_)
    · fail "go"
      rename_i H6 g6 h6 s6
      refine ⟨by fail "sz", ?_⟩
      fail "newR"
      rename_i p7 H7 R7 n7 g7 h7 s7
      exact hq _ R7 H7 (some (none, _)) (gD.trans (g6.g.trans g7.nil)) ⟨_, g7.same _ _ h6⟩ (.tup (SqT.of h7) (.cons .non (.cons (.int _) .nil))) (fun x hx => by cases hx)
    · fail "go"
      refine ⟨R4, a, v, L, n, some k, rfl, s5, ha4, hOk, dk, bx.x.full, fun w R6 H6 g6 dw => ?_⟩
      exact hq _ _ H6 _ (gD.trans g6.nil) ⟨_, g6.same _ _ h5⟩ dw (fun x hx => by cases hx; exact bx)
end
def spDevInit (K : PySem.W.Frag) (C : Addr) : Sp := fun vs H Q _ => ∃ (R : Hp) (x dx a c : Addr) (us : List V), vs = [.ref x, .ref a, .ref c] ∧ Same R H ∧ R x = none ∧ H x = some (.ins C dx []) ∧ SqL K H c us ∧
  ∀ H' l1 l2 l3, Gr [x] R H R H' → H l1 = none → H l2 = none → H l3 = none → l1 ≠ l2 → l1 ≠ l3 → l2 ≠ l3 → DevAt C H' x a l1 l2 l3 → H' l1 = some (.lst us) → H' l2 = some (.lst us) → H' l3 = some (.lst []) → Q .non H'
section
variable {P : Program} {w : World} {K : PySem.W.Frag} {mg : Str → Option Value} {base : Heap}
theorem ok_Device___init__ (T : Txt P K mg) : FnOk P w K mg base CX0 1 T.f_Device___init__ T.fd_Device___init__ ["self", "layout", "blocks"] (spDevInit K T.C_Device) := by
  have cl_Layout := T.cl_Layout
  have cl_Device := T.cl_Device
  have a_Layout_device_blocks := T.a_Layout_device_blocks
  have a_Device_layout := T.a_Device_layout
  have a_Device_sure := T.a_Device_sure
  have a_Device_seen := T.a_Device_seen
  have a_Device_waiting := T.a_Device_waiting
  have a_Device_fuse := T.a_Device_fuse
  have a_Device_dark := T.a_Device_dark
  refine T.F_Device___init__.ok sc_Device___init__ (fun vs H Q E h => ?_) (fun cdv A outer s H vs Q E hr h => ?_)
  · obtain ⟨R, x, dx, a, c, us, rfl, sR, Rx, hx, hc, hq⟩ := h
    rfl
  · obtain ⟨R, x, dx, a, c, us, rfl, sR, Rx, hx, hc, hq⟩ := h
    refine ⟨_, (pss_cons (ps_if (pt_cmpR opIsU (pv 2) pe_non (nomark _)) (pss_one (ps_set (i := 2) sc_Device___init__.nd rfl (by first | exact Or.inl rfl | exact Or.inr rfl) (pe_op opMultU (pe_lst (pa_cons pe_non pa_nil)) (pe_fldK (K := K) (pv 1) rfl)))) pss_nil)
      (pss_cons (ps_fld (pv 0) (pv 1) rfl)
      (pss_cons (ps_fld (pv 0) (pe_callTy (callListU (K := K)) (by rfl) T.n_list (by decide +kernel) (pa_cons (pv 2) pa_nil)) rfl)
      (pss_cons (ps_fld (pv 0) (pe_callTy (callListU (K := K)) (by rfl) T.n_list (by decide +kernel) (pa_cons (pv 2) pa_nil)) rfl)
      (pss_cons (ps_fld (pv 0) (pe_lst pa_nil) rfl)
      (pss_cons (ps_fld (pv 0) pe_non rfl)
      (pss_one (ps_fld (pv 0) pe_bl rfl)))))))), ?_⟩
    try dsimp only [cxOf]
    fail "go"
    rename_i H1 g1 h1 s1
    have hc1 := sqL_ins hc hx g1.g
    refine g_listL hc1 ?_
    fail "newM"
    rename_i l1 H2 n2 g2 m2 h2 s2
    have hc2 := sqL_mono g2.g.same hc1
    have hx2 := g2.g.same _ _ h1
    have gA : Mu [x] R H H2 := ⟨g1.g.trans g2.g.nil⟩
    have nl1 : H l1 = none := g1.g.free n2
    have xl1 : x ≠ l1 := ne_of_none h1 n2
    clear g1 g2 h1 s1 sR
    fail "go"
    rename_i H3 g3 h3 s3
    have hc3 := sqL_ins hc2 hx2 g3.g
    have hl1 := g3.g.hh _ _ (by simpa using xl1.symm) h2
    have gB : Mu [x] R H H3 := ⟨gA.g.trans g3.g⟩
    clear gA g3 h2 s2 hx2
    refine g_listL hc3 ?_
    fail "newM"
    rename_i l2 H4 n4 g4 m4 h4 s4
    have hx4 := g4.g.same _ _ h3
    have hl1' := hl1
    have hl1 := g4.g.same _ _ hl1
    have gC : Mu [x] R H H4 := ⟨gB.g.trans g4.g.nil⟩
    have nl2 : H l2 = none := gB.g.free n4
    have xl2 : x ≠ l2 := ne_of_none h3 n4
    have l12 : l1 ≠ l2 := by
      rintro rfl
      exact absurd hl1' (by rw [show H3 l1 = none from n4]; exact fun z => nomatch z)
    clear gB g4 h3 s3
    fail "go"
    rename_i H5 g5 h5 s5
    have hl1 := g5.g.hh _ _ (by simpa using xl1.symm) hl1
    have hl2 := g5.g.hh _ _ (by simpa using xl2.symm) h4
    have gD : Mu [x] R H H5 := ⟨gC.g.trans g5.g⟩
    clear gC g5 h4 s4 hl1' hx4
    refine ⟨by fail "sz", ?_⟩
    fail "newM"
    rename_i l3 H6 n6 g6 m6 h6 s6
    have hx6 := g6.g.same _ _ h5
    have l13 := ne_of_none hl1 n6
    have l23 := ne_of_none hl2 n6
    have xl3 : x ≠ l3 := ne_of_none h5 n6
    have nl3 : H l3 = none := gD.g.free n6
    have hl1 := g6.g.same _ _ hl1
    have hl2 := g6.g.same _ _ hl2
    have gE : Mu [x] R H H6 := ⟨gD.g.trans g6.g.nil⟩
    clear gD g6 h5 s5
    fail "go"
    rename_i H7 g7 h7 s7 H8 g8 h8 s8 H9 g9 h9 s9
    have gF : Gr [x] R H6 R H9 := g7.g.trans (g8.g.trans g9.g)
    have hn : ∀ l, x ≠ l → l ∉ [x] := fun l h z => h (List.mem_singleton.mp z).symm
    exact hq _ l1 l2 l3 (gE.g.trans gF) nl1 nl2 nl3 l12 l13 l23 ⟨_, h9⟩ (gF.hh _ _ (hn _ xl1) hl1) (gF.hh _ _ (hn _ xl2) hl2) (gF.hh _ _ (hn _ xl3) h6)
end
def spSideInit (K : PySem.W.Frag) (CL CS CD : Addr) : Sp := fun vs H Q _ => ∃ (R : Hp) (x dx a : Addr) (n : Int) (c : V) (us : List V) (L : Lay), vs = [.ref x, .ref a, .int n, c] ∧ Same R H ∧ R x = none ∧ H x = some (.ins CS dx []) ∧ LayAt CL R a L ∧ L.Ok ∧ (0 ≤ L.device ∧ L.device < 900) ∧ ((∃ p, c = .ref p ∧ SqL K H p us) ∨ (c = .non ∧ us = List.replicate (L.device + 2).toNat .non)) ∧
  ∀ H' d l1 l2 l3, Gr [x] R H R H' → H d = none → H l1 = none → H l2 = none → H l3 = none → l1 ≠ l2 → l1 ≠ l3 → l2 ≠ l3 → d ≠ x → SideIn CS H' x a n d → DevAt CD H' d a l1 l2 l3 → H' l1 = some (.lst us) → H' l2 = some (.lst us) → H' l3 = some (.lst []) → Q .non H'
section
variable {P : Program} {w : World} {K : PySem.W.Frag} {mg : Str → Option Value} {base : Heap}
theorem ok_Side___init__ (T : Txt P K mg) : FnOk P w K mg base CX0 3 T.f_Side___init__ T.fd_Side___init__ ["self", "layout", "seat", "cells"] (spSideInit K T.C_Layout T.C_Side T.C_Device) := by
  have cl_Layout := T.cl_Layout
  have cl_Side := T.cl_Side
  have a_Layout_device_blocks := T.a_Layout_device_blocks
  have a_Side_layout := T.a_Side_layout
  have a_Side_seat := T.a_Side_seat
  have a_Side_device := T.a_Side_device
  have G_Device___init__ := ok_Device___init__ (P := P) (w := w) (base := base) T
  refine T.F_Side___init__.ok sc_Side___init__ (fun vs H Q E h => ?_) (fun cdv A outer s H vs Q E hr h => ?_)
  · obtain ⟨R, x, dx, a, n, c, us, L, rfl, sR, Rx, hx, ha, hL, hdev, hc, hq⟩ := h
    rfl
  · obtain ⟨R, x, dx, a, n, c, us, L, rfl, sR, Rx, hx, ha, hL, hdev, hc, hq⟩ := h
    refine ⟨_, (pss_cons (ps_if (pt_cmpR opIsU (pv 3) pe_non (nomark _)) (pss_one (ps_set (i := 3) sc_Side___init__.nd rfl (by first | exact Or.inl rfl | exact Or.inr rfl) (pe_op opMultU (pe_lst (pa_cons pe_non pa_nil)) (pe_op (opAddU (K := K)) (pe_fldK (K := K) (pv 1) rfl) (pe_glob rfl T.g_LABELS T.r_LABELS))))) pss_nil)
      (pss_cons (ps_fld (pv 0) (pv 1) rfl)
      (pss_cons (ps_fld (pv 0) (pv 2) rfl)
      (pss_one (ps_fld (pv 0) (pe_make T.mk_Device G_Device___init__ (hr.mono (by decide)) rfl T.g_Device T.b_Device___init__ .nil pass0 (pa_cons (pv 1) (pa_cons (pv 3) pa_nil))) rfl))))), ?_⟩
    try dsimp only [cxOf]
    fail "gi"
    refine g_seqIN (fun σ H' => ∃ p, σ = [some (.ref x), some (.ref a), some (.int n), some (.ref p)] ∧ Mu [] R H H' ∧ H' x = some (.ins T.C_Side dx []) ∧ SqL K H' p us) ?_ (fun N rest => ?_)
    · clear hx hc
      rintro σ H1 ⟨p, rfl, g1, h1, hp⟩
      have s1 := g1.g.rh
      fail "go"
      rename_i H2 g2 h2 s2 H3 g3 h3 s3
      have hp3 := sqL_ins (sqL_ins hp h1 g2.g) h2 g3.g
      have gA : Mu [x] R H H3 := ⟨g1.g.nil.trans (g2.g.trans g3.g)⟩
      clear g1 g2 g3 h1 h2 hp s1 s2
      intro d ddx nd ndd nex
      have ms := made_same (C := T.C_Device) nd ndd
      have dx' : d ≠ x := (ne_of_none h3 nd).symm
      refine ⟨R, d, ddx, a, p, us, rfl, s3.trans ms, s3.free nd, upd_same, sqL_mono ms hp3, fun H4 l1 l2 l3 g4 n1 n2 n3 e12 e13 e23 hd hl1 hl2 hl3 => ⟨rfl, ?_⟩⟩
      have x1 : x ≠ l1 := ne_of_none (ms _ _ h3) n1
      have x2 : x ≠ l2 := ne_of_none (ms _ _ h3) n2
      have x3 : x ≠ l3 := ne_of_none (ms _ _ h3) n3
      have gB : Gr [] R H3 R H4 := ((Mu.ofSame s3 ms).g.nil.trans g4).forget (by intro y hy hn; rw [List.mem_singleton.mp hy]; exact nd)
      have h4 := gB.same _ _ h3
      have s4 := gB.rh
      have gC : Mu [x] R H H4 := ⟨gA.g.trans gB.nil⟩
      have f0 : ∀ l, upd (upd H3 ddx (.own d)) d (.ins T.C_Device ddx []) l = none → H l = none := fun l z => gA.g.free (ms.free z)
      have nd0 := gA.g.free nd
      clear gA gB s3 h3 g4 hp3
      fail "go"
      rename_i H5 g5 h5 s5
      have hn : ∀ l, x ≠ l → l ∉ [x] := fun l h z => h (List.mem_singleton.mp z).symm
      obtain ⟨ddx2, hd⟩ := hd
      exact hq H5 d l1 l2 l3 (gC.g.trans g5.g) nd0 (f0 _ n1) (f0 _ n2) (f0 _ n3) e12 e13 e23 dx' ⟨_, h5⟩ ⟨_, g5.g.hh _ _ (hn _ dx'.symm) hd⟩ (g5.g.hh _ _ (hn _ x1) hl1) (g5.g.hh _ _ (hn _ x2) hl2) (g5.g.hh _ _ (hn _ x3) hl3)
    · rcases hc with ⟨p, rfl, hp⟩ | ⟨rfl, rfl⟩
      · fail "go"
        exact rest _ _ ⟨p, rfl, ⟨Gr.refl sR⟩, hx, hp⟩
      · obtain ⟨lx, ha⟩ := ha
        have haH := sR _ _ ha
        fail "go"
        refine ⟨by fail "sz", ?_⟩
        fail "newM"
        rename_i p1 H1 n1 g1 m1 h1 s1
        fail "go"
        refine g_rep h1 (by omega) (by omega) (by simp only [List.length_cons, List.length_nil]; fail "sz") ?_
        fail "newM"
        rename_i p2 H2 n2 g2 m2 h2 s2
        fail "go"
        refine rest _ _ ⟨p2, rfl, ⟨g1.g.trans g2.g⟩, g2.g.same _ _ (g1.g.same _ _ hx), ?_⟩
        have e : (List.replicate (L.device + 2).toNat [V.non]).flatten = List.replicate (L.device + 2).toNat V.non := by simp
        rw [← e]
        exact SqL.of h2
end
def spCopy (K : PySem.W.Frag) : Sp := fun vs H Q _ => ∃ (R : Hp) (g : Addr) (n : Int) (m : Rows) (gs : List Addr), vs = [.ref g] ∧ Same R H ∧ ModOk K R H g n m gs ∧
  ∀ H' x xs, Gr [] R H R H' → (∀ y ∈ xs, H y = none) → ModOk K R H' x n m xs → Q (.ref x) H'
section
variable {P : Program} {w : World} {K : PySem.W.Frag} {mg : Str → Option Value} {base : Heap}
theorem ok__law_copy (T : Txt P K mg) : FnOk P w K mg base CX0 1 T.f__law_copy T.fd__law_copy ["model"] (spCopy K) := by
  refine T.F__law_copy.ok sc__law_copy (fun vs H Q E h => ?_) (fun cdv A outer s H vs Q E hr h => ?_)
  · obtain ⟨R, g, n, m, gs, rfl, sR, ⟨n1, n2, n3, rfl, md⟩, hq⟩ := h
    rfl
  · obtain ⟨R, g, n, m, gs, rfl, sR, ⟨n1, n2, n3, rfl, md⟩, hq⟩ := h
    refine ⟨_, (pss_one (ps_ret (pe_disp (pps_cons pe_str (pe_dget (hu_of hr) (pv 0) pe_str (fun _ _ => rfl)) (pps_cons pe_str (pe_callTy (callListU (K := K)) (by rfl) T.n_list (by decide +kernel) (pa_cons (pe_dget (hu_of hr) (pv 0) pe_str (fun _ _ => rfl)) pa_nil)) (pps_cons pe_str (pe_callTy (callListU (K := K)) (by rfl) T.n_list (by decide +kernel) (pa_cons (pe_dget (hu_of hr) (pv 0) pe_str (fun _ _ => rfl)) pa_nil)) (pps_cons pe_str (pe_callTy (callListU (K := K)) (by rfl) T.n_list (by decide +kernel) (pa_cons (pe_dget (hu_of hr) (pv 0) pe_str (fun _ _ => rfl)) pa_nil)) pps_nil)))) (by rfl) (by rfl) (by simp) (by decide)))), ?_⟩
    try dsimp only [cxOf]
    obtain ⟨hg, nd, non, u1, u2, u3, h1, h2, h3, d1, d2, d3⟩ := md
    fail "go"
    fail "newM"
    rename_i x H1 nx g1 mx hx1 s1
    have hg1 := g1.g.same _ _ hg
    have h11 := g1.g.same _ _ h1
    have h21 := g1.g.same _ _ h2
    have h31 := g1.g.same _ _ h3
    clear hg h1 h2 h3
    fail "go"
    refine g_listL (SqL.of h11) ?_
    fail "newM"
    rename_i p1 H2 np1 g2 mp1 hp1 s2
    have hg2 := g2.g.same _ _ hg1
    have hx2 := g2.g.same _ _ hx1
    have h22 := g2.g.same _ _ h21
    have h32 := g2.g.same _ _ h31
    have e01 := ne_of_none hx1 np1
    have fp1 := g1.g.free np1
    have gA : Mu [] R H H2 := ⟨g1.g.trans g2.g⟩
    clear hg1 hx1 h11 h21 h31 g1 g2 s1
    fail "go"
    refine g_listL (SqL.of h22) ?_
    fail "newM"
    rename_i p2 H3 np2 g3 mp2 hp2 s3
    have hg3 := g3.g.same _ _ hg2
    have hx3 := g3.g.same _ _ hx2
    have hp13 := g3.g.same _ _ hp1
    have h33 := g3.g.same _ _ h32
    have e02 := ne_of_none hx2 np2
    have e12 := ne_of_none hp1 np2
    have fp2 := gA.g.free np2
    have gB : Mu [] R H H3 := ⟨gA.g.trans g3.g⟩
    clear hg2 hx2 h22 h32 hp1 g3 gA s2
    fail "go"
    refine g_listL (SqL.of h33) ?_
    fail "newM"
    rename_i p3 H4 np3 g4 mp3 hp3 s4
    have hx4 := g4.g.same _ _ hx3
    have hp14 := g4.g.same _ _ hp13
    have hp24 := g4.g.same _ _ hp2
    have e03 := ne_of_none hx3 np3
    have e13 := ne_of_none hp13 np3
    have e23 := ne_of_none hp2 np3
    have fp3 := gB.g.free np3
    have gC : Mu [] R H H4 := ⟨gB.g.trans g4.g⟩
    clear hg3 hx3 hp13 hp2 h33 g4 gB s3
    fail "go"
    refine ⟨hx4, [(.inr "seat", .int n), (.inr "sure", .ref p1), (.inr "seen", .ref p2), (.inr "waiting", .ref p3)], rfl, by simp, ?_⟩
    fail "go"
    fail "mut"
    rename_i H5 g5 h5 s5
    have gg : Gr [] R H R H5 := (gC.g.nil.trans g5.g).forget (by intro y hy hn; rw [List.mem_singleton.mp hy]; exact nx)
    refine hq H5 x [x, p1, p2, p3] gg (fun y hy => ?_) ⟨p1, p2, p3, rfl, ⟨h5, mk_nod4 e01 e02 e03 e12 e13 e23, fun y hy => ?_, u1, u2, u3, g5.g.hh _ _ (nin1 e01.symm) hp14, g5.g.hh _ _ (nin1 e02.symm) hp24, g5.g.hh _ _ (nin1 e03.symm) hp3, d1, d2, d3⟩⟩
    · simp only [List.mem_cons, List.not_mem_nil, or_false] at hy
      rcases hy with rfl | rfl | rfl | rfl
      · exact nx
      · exact fp1
      · exact fp2
      · exact fp3
    · simp only [List.mem_cons, List.not_mem_nil, or_false] at hy
      rcases hy with rfl | rfl | rfl | rfl
      · exact mx
      · exact mp1
      · exact mp2
      · exact mp3
end
def spLeftM (K : PySem.W.Frag) : Sp := fun vs H Q _ => ∃ (R : Hp) (g k t : Addr) (n : Int) (m : Rows) (gs : List Addr) (kept torn : List Int), vs = [.ref g, .ref k, .ref t] ∧ Same R H ∧ ModOk K R H g n m gs ∧ SqL K H k (kept.map V.int) ∧ SqL K H t (torn.map V.int) ∧ (∀ q ∈ m.wait, q.1 < m.sure.length) ∧ m.wait.length ≤ 1000 ∧
  ∀ H' x xs, Gr [] R H R H' → (∀ y ∈ xs, H y = none) → ModOk K R H' x n (m.left kept torn) xs → Q (.ref x) H'
def LLInv (K : PySem.W.Frag) (R H1 : Hp) (g k t p : Addr) (m : Rows) (kept torn : List Int) (i : Nat) (σ : St) (H' : Hp) : Prop := ∃ (x y z : Option V) (v1 : List V), σ = [some (.ref g), some (.ref k), some (.ref t), some (.ref p), x, y, z] ∧ Mu [p] R H1 H' ∧ H' p = some (.lst v1) ∧ DpAll K R v1 ((leftTo m.sure m.wait kept torn i).map cellD)
section
variable {P : Program} {w : World} {K : PySem.W.Frag} {mg : Str → Option Value} {base : Heap}
theorem ok__law_left (T : Txt P K mg) : FnOk P w K mg base CX0 1 T.f__law_left T.fd__law_left ["model", "kept", "torn"] (spLeftM K) := by
  refine T.F__law_left.ok sc__law_left (fun vs H Q E h => ?_) (fun cdv A outer s H vs Q E hr h => ?_)
  · obtain ⟨R, g, k, t, n, m, gs, kept, torn, rfl, sR, ⟨l1, l2, l3, rfl, dv⟩, hk, ht, hw, hwl, hq⟩ := h
    rfl
  · obtain ⟨R, g, k, t, n, m, gs, kept, torn, rfl, sR, ⟨l1, l2, l3, rfl, dv⟩, hk, ht, hw, hwl, hq⟩ := h
    refine ⟨_, (pss_cons (ps_set (i := 3) sc__law_left.nd rfl (by first | exact Or.inl rfl | exact Or.inr rfl) (pe_callTy (callListU (K := K)) (by rfl) T.n_list (by decide +kernel) (pa_cons (pe_dget (hu_of hr) (pv 0) pe_str (fun _ _ => rfl)) pa_nil)))
      (pss_cons (ps_for PassesOwn.never rfl (pi_range1 rfl T.n_range (pa_cons (pe_callB (callLenU (K := K)) (by rfl) T.n_len (by decide +kernel) (pa_cons (pe_dget (hu_of hr) (pv 0) pe_str (fun _ _ => rfl)) pa_nil)) pa_nil)) (pg_name (i := 4) sc__law_left.nd rfl (by first | exact Or.inl rfl | exact Or.inr rfl)) (pss_cons (ps_asg (pe_ix (ixU (K := K)) (pe_dget (hu_of hr) (pv 0) pe_str (fun _ _ => rfl)) (pv 4) (fun _ _ => rfl)) (pg_tupK (K := K) rfl (pgs_cons (pg_name (i := 5) sc__law_left.nd rfl (by first | exact Or.inl rfl | exact Or.inr rfl)) (pgs_cons (pg_name (i := 6) sc__law_left.nd rfl (by first | exact Or.inl rfl | exact Or.inr rfl)) pgs_nil))))
      (pss_one (ps_if (pt_cmpR (opInF (K := K)) (pv 4) (pv 2) (by rfl)) (pss_one (ps_asg pe_non (pg_sub (pv 3) (pv 5) set_list))) (pss_one (ps_if (pt_cmpR (opInF (K := K)) (pv 4) (pv 1) (by rfl)) (pss_one (ps_asg (pv 6) (pg_sub (pv 3) (pv 5) set_list))) pss_nil))))))
      (pss_one (ps_ret (pe_disp (pps_cons pe_str (pe_dget (hu_of hr) (pv 0) pe_str (fun _ _ => rfl)) (pps_cons pe_str (pv 3) (pps_cons pe_str (pe_callTy (callListU (K := K)) (by rfl) T.n_list (by decide +kernel) (pa_cons (pv 3) pa_nil)) (pps_cons pe_str (pe_lst pa_nil) pps_nil)))) (by rfl) (by rfl) (by simp) (by decide)))))), ?_⟩
    try dsimp only [cxOf]
    obtain ⟨hd, nd, non, u1, u2, u3, h1, h2, h3, d1, d2, d3⟩ := dv
    have ul3 : u3.length = m.wait.length := by have := dpAll_len d3; simpa using this
    fail "go"
    refine g_listL (SqL.of h1) ?_
    fail "newM"
    rename_i p H1 n1 g1 m1 h1p s1
    have hd1 := g1.g.same _ _ hd
    have h31 := g1.g.same _ _ h3
    have d_p : g ≠ p := ne_of_none hd n1
    have l3p : l3 ≠ p := ne_of_none h3 n1
    have Hk : ∀ H2, Gr [p] R H1 R H2 → SqL K H2 k (kept.map V.int) := fun H2 g => sqL_new n1 g1.g h1p g hk
    have Ht : ∀ H2, Gr [p] R H1 R H2 → SqL K H2 t (torn.map V.int) := fun H2 g => sqL_new n1 g1.g h1p g ht
    clear h1 h2 hk ht hd h3
    fail "go"
    refine g_R1W (n := m.wait.length) (by rw [ul3]) (by omega) ?_
    refine for_range (lo := 0) (n := m.wait.length) (LLInv K R H1 g k t p m kept torn) ⟨none, none, none, u1, rfl, ⟨Gr.refl s1⟩, h1p, d1⟩ ?_ ?_
    · rintro i σ H2 hi ⟨x0, y0, z0, v1, rfl, g2, h2p, dv1⟩
      rw [Int.zero_add]
      have s2 := g2.g.rh
      obtain ⟨x, hx⟩ : ∃ x, u3[i]? = some x := ⟨u3[i], List.getElem?_eq_getElem (by omega)⟩
      obtain ⟨q, tq, v, hqi, rfl, htq, dq⟩ := wt_get d3 hx
      have vl : v1.length = m.sure.length := by have := dpAll_len dv1; rw [List.length_map, leftTo_len] at this; exact this
      have hq1 := hw q (List.mem_of_getElem? hqi)
      have htq3 := sqT_mono s2 htq
      have hk3 := Hk _ g2.g
      have ht3 := Ht _ g2.g
      have hd2 := g2.g.hh _ _ (nin1 d_p) hd1
      have h32 := g2.g.hh _ _ (nin1 l3p) h31
      clear hd1 h31 h1p sR s1 g1
      fail "go"
      refine g_ixL (SqL.of h32) (atI_nat hx) ?_
      fail "go"
      refine g_inF (.inl ht3) rfl (flat_ints _) ?_
      rw [inV_ints]
      fail "go"
      refine g_ite (fun e => ?_) (fun e => ?_)
      · fail "go"
        refine g_setL (j := q.1) h2p (ixN_nat (by omega)) ?_
        fail "mut"
        rename_i H4 g4 h4p s4
        refine ⟨_, _, _, _, rfl, ⟨g2.g.trans g4.g⟩, h4p, ?_⟩
        rw [leftTo_succ]
        unfold leftStep
        rw [hqi]
        simp only [e, if_true, List.map_set]
        exact dpAll_set _ dv1 .non
      · fail "go"
        refine g_inF (.inl hk3) rfl (flat_ints _) ?_
        rw [inV_ints]
        fail "go"
        refine g_ite (fun e2 => ?_) (fun e2 => ?_)
        · fail "go"
          refine g_setL (j := q.1) h2p (ixN_nat (by omega)) ?_
          fail "mut"
          rename_i H4 g4 h4p s4
          refine ⟨_, _, _, _, rfl, ⟨g2.g.trans g4.g⟩, h4p, ?_⟩
          rw [leftTo_succ]
          unfold leftStep
          rw [hqi]
          simp only [e, e2, if_true, if_false, List.map_set]
          exact dpAll_set _ dv1 dq
        · fail "go"
          refine ⟨_, _, _, _, rfl, g2, h2p, ?_⟩
          rw [leftTo_succ]
          unfold leftStep
          rw [hqi]
          simp only [e, e2, if_false]
          exact dv1
    · rintro σ H2 ⟨x0, y0, z0, v1, rfl, g2, h2p, dv1⟩
      have hd2 := g2.g.hh _ _ (nin1 d_p) hd1
      have s2 := g2.g.rh
      have gA : Mu [] R H H2 := ⟨(g1.g.nil.trans g2.g).forget (by intro y hy hn; rw [List.mem_singleton.mp hy]; exact n1)⟩
      clear hd1 h31 h1p g1 g2 s1 sR Hk Ht
      fail "go"
      fail "newM"
      rename_i x H3 nx g3 mx hx3 s3
      have hd3 := g3.g.same _ _ hd2
      have h3p := g3.g.same _ _ h2p
      have xp := (ne_of_none h2p nx).symm
      have fx := gA.g.free nx
      have gB : Mu [] R H H3 := ⟨gA.g.trans g3.g⟩
      clear hd2 h2p g3 gA s2
      fail "go"
      refine g_listL (SqL.of h3p) ?_
      fail "newM"
      rename_i p2 H4 np2 g4 mp2 hp2 s4
      have hx4 := g4.g.same _ _ hx3
      have h4p := g4.g.same _ _ h3p
      have xp2 := ne_of_none hx3 np2
      have pp2 := ne_of_none h3p np2
      have fp2 := gB.g.free np2
      have gC : Mu [] R H H4 := ⟨gB.g.trans g4.g⟩
      clear hd3 hx3 h3p g4 gB s3
      fail "go"
      refine ⟨by fail "sz", ?_⟩
      fail "newM"
      rename_i p3 H5 np3 g5 mp3 hp3 s5
      have hx5 := g5.g.same _ _ hx4
      have h5p := g5.g.same _ _ h4p
      have hp25 := g5.g.same _ _ hp2
      have xp3 := ne_of_none hx4 np3
      have pp3 := ne_of_none h4p np3
      have p2p3 := ne_of_none hp2 np3
      have fp3 := gC.g.free np3
      have gD : Mu [] R H H5 := ⟨gC.g.trans g5.g⟩
      clear hx4 h4p hp2 g5 gC s4
      fail "go"
      refine ⟨hx5, [(.inr "seat", .int n), (.inr "sure", .ref p), (.inr "seen", .ref p2), (.inr "waiting", .ref p3)], rfl, by simp, ?_⟩
      fail "go"
      fail "mut"
      rename_i H6 g6 h6 s6
      have gg : Gr [] R H R H6 := (gD.g.nil.trans g6.g).forget (by intro y hy hn; rw [List.mem_singleton.mp hy]; exact fx)
      refine hq H6 x [x, p, p2, p3] gg (fun y hy => ?_) ⟨p, p2, p3, rfl, ⟨h6, mk_nod4 xp xp2 xp3 pp2 pp3 p2p3, fun y hy => ?_, v1, v1, [], g6.g.hh _ _ (nin1 xp.symm) h5p, g6.g.hh _ _ (nin1 xp2.symm) hp25, g6.g.hh _ _ (nin1 xp3.symm) hp3, dv1, dv1, .nil⟩⟩
      · simp only [List.mem_cons, List.not_mem_nil, or_false] at hy
        rcases hy with rfl | rfl | rfl | rfl
        · exact fx
        · exact n1
        · exact fp2
        · exact fp3
      · simp only [List.mem_cons, List.not_mem_nil, or_false] at hy
        rcases hy with rfl | rfl | rfl | rfl
        · exact mx
        · exact m1
        · exact mp2
        · exact mp3
end
def spDevLeft (K : PySem.W.Frag) (CD : Addr) : Sp := fun vs H Q _ => ∃ (R : Hp) (d a k t : Addr) (m : Rows) (ds : List Addr) (kept torn : List Int), vs = [.ref d, .ref k, .ref t] ∧ Same R H ∧ DevOk K CD R H d a m ds ∧ SqL K H k (kept.map V.int) ∧ SqL K H t (torn.map V.int) ∧ (∀ q ∈ m.wait, q.1 < m.sure.length) ∧
  ∀ H' x xs, Gr [] R H R H' → (∀ y ∈ xs, H y = none) → DevOk K CD R H' x a (m.left kept torn) xs → Q (.ref x) H'
def LeftInv (K : PySem.W.Frag) (R H1 : Hp) (d k t p : Addr) (m : Rows) (kept torn : List Int) (i : Nat) (σ : St) (H' : Hp) : Prop := ∃ (x y z : Option V) (v1 : List V), σ = [some (.ref d), some (.ref k), some (.ref t), some (.ref p), x, y, z] ∧ Mu [p] R H1 H' ∧ H' p = some (.lst v1) ∧ DpAll K R v1 ((leftTo m.sure m.wait kept torn i).map cellD)
section
variable {P : Program} {w : World} {K : PySem.W.Frag} {mg : Str → Option Value} {base : Heap}
theorem ok_Device_left (T : Txt P K mg) : FnOk P w K mg base CX0 3 T.f_Device_left T.fd_Device_left ["self", "kept", "torn"] (spDevLeft K T.C_Device) := by
  have cl_Device := T.cl_Device
  have a_Device_sure := T.a_Device_sure
  have a_Device_waiting := T.a_Device_waiting
  have a_Device_layout := T.a_Device_layout
  have G_Device___init__ := ok_Device___init__ (P := P) (w := w) (base := base) T
  refine T.F_Device_left.ok sc_Device_left (fun vs H Q E h => ?_) (fun cdv A outer s H vs Q E hr h => ?_)
  · obtain ⟨R, d, a, k, t, m, ds, kept, torn, rfl, sR, ⟨l1, l2, l3, rfl, dv⟩, hk, ht, hw, hq⟩ := h
    rfl
  · obtain ⟨R, d, a, k, t, m, ds, kept, torn, rfl, sR, ⟨l1, l2, l3, rfl, dv⟩, hk, ht, hw, hq⟩ := h
    refine ⟨_, (pss_cons (ps_set (i := 3) sc_Device_left.nd rfl (by first | exact Or.inl rfl | exact Or.inr rfl) (pe_callTy (callListU (K := K)) (by rfl) T.n_list (by decide +kernel) (pa_cons (pe_fldK (K := K) (pv 0) rfl) pa_nil)))
      (pss_cons (ps_for PassesOwn.never rfl (pi_enum (by rfl) T.n_enumerate (pa_cons (pe_fldK (K := K) (pv 0) rfl) pa_nil)) (pg_tupK (K := K) rfl (pgs_cons (pg_name (i := 4) sc_Device_left.nd rfl (by first | exact Or.inl rfl | exact Or.inr rfl)) (pgs_cons (pg_tupK (K := K) rfl (pgs_cons (pg_name (i := 5) sc_Device_left.nd rfl (by first | exact Or.inl rfl | exact Or.inr rfl)) (pgs_cons (pg_name (i := 6) sc_Device_left.nd rfl (by first | exact Or.inl rfl | exact Or.inr rfl)) pgs_nil))) pgs_nil))) (pss_one (ps_if (pt_cmpR (opInF (K := K)) (pv 4) (pv 2) (by rfl)) (pss_one (ps_asg pe_non (pg_sub (pv 3) (pv 5) set_list))) (pss_one (ps_if (pt_cmpR (opInF (K := K)) (pv 4) (pv 1) (by rfl)) (pss_one (ps_asg (pv 6) (pg_sub (pv 3) (pv 5) set_list))) pss_nil)))))
      (pss_one (ps_ret (pe_make T.mk_Device G_Device___init__ (hr.mono (by decide)) rfl T.g_Device T.b_Device___init__ .nil pass0 (pa_cons (pe_fldK (K := K) (pv 0) rfl) (pa_cons (pv 3) pa_nil))))))), ?_⟩
    try dsimp only [cxOf]
    have has := dv.has
    obtain ⟨⟨dx, hd⟩, nd, non, u1, u2, u3, h1, h2, h3, d1, d2, d3⟩ := dv
    have ul3 : u3.length = m.wait.length := by have := dpAll_len d3; simpa using this
    fail "go"
    refine g_listL (SqL.of h1) ?_
    fail "newM"
    rename_i p H1 n1 g1 m1 h1p s1
    have hd1 := g1.g.same _ _ hd
    have h31 := g1.g.same _ _ h3
    have d_p : d ≠ p := ne_of_none hd n1
    have l3p : l3 ≠ p := ne_of_none h3 n1
    have Hk : ∀ H2, Gr [p] R H1 R H2 → SqL K H2 k (kept.map V.int) := fun H2 g => sqL_new n1 g1.g h1p g hk
    have Ht : ∀ H2, Gr [p] R H1 R H2 → SqL K H2 t (torn.map V.int) := fun H2 g => sqL_new n1 g1.g h1p g ht
    clear h1 h2 hk ht
    fail "go"
    refine g_EnW (SqL.of h31) ?_
    refine for_enum (K := K) (a := l3) (xs := u3) (LeftInv K R H1 d k t p m kept torn) ⟨none, none, none, u1, rfl, ⟨Gr.refl s1⟩, h1p, d1⟩ (fun i σ HX _ ⟨_, _, _, _, _, gX, _⟩ => SqL.of (gX.g.hh _ _ (nin1 l3p) h31)) ?_ ?_
    · rintro i x T0 σ H2 hx ⟨x0, y0, z0, v1, rfl, g2, h2p, dv1⟩ nT
      have s2 := g2.g.rh
      obtain ⟨q, tq, v, hqi, rfl, htq, dq⟩ := wt_get d3 hx
      have vl : v1.length = m.sure.length := by have := dpAll_len dv1; rw [List.length_map, leftTo_len] at this; exact this
      have hq1 := hw q (List.mem_of_getElem? hqi)
      have gT := (Gr.newM (M := []) (o := .tup [.int ((i : Nat) : Int), .ref tq]) s2 nT)
      have hT : upd H2 T0 (.tup [.int ((i : Nat) : Int), .ref tq]) T0 = some (.tup [.int ((i : Nat) : Int), .ref tq]) := upd_same
      have h3p := gT.same _ _ h2p
      have g3 : Mu [p] R H1 (upd H2 T0 (.tup [.int ((i : Nat) : Int), .ref tq])) := ⟨g2.g.trans gT.nil⟩
      have s3 := gT.rh
      generalize upd H2 T0 (.tup [.int ((i : Nat) : Int), .ref tq]) = H3 at hT h3p g3 s3 ⊢
      have htq3 := sqT_mono s3 htq
      have hk3 := Hk _ g3.g
      have ht3 := Ht _ g3.g
      clear gT h2p g2 s2 hd hd1 h3 h31 h1p sR s1 g1
      fail "go"
      refine g_inF (.inl ht3) rfl (flat_ints _) ?_
      rw [inV_ints]
      fail "go"
      refine g_ite (fun e => ?_) (fun e => ?_)
      · fail "go"
        refine g_setL (j := q.1) h3p (ixN_nat (by omega)) ?_
        fail "mut"
        rename_i H4 g4 h4p s4
        refine ⟨_, _, _, _, rfl, ⟨g3.g.trans g4.g⟩, h4p, ?_⟩
        rw [leftTo_succ]
        unfold leftStep
        rw [hqi]
        simp only [e, if_true, List.map_set]
        exact dpAll_set _ dv1 .non
      · fail "go"
        refine g_inF (.inl hk3) rfl (flat_ints _) ?_
        rw [inV_ints]
        fail "go"
        refine g_ite (fun e2 => ?_) (fun e2 => ?_)
        · fail "go"
          refine g_setL (j := q.1) h3p (ixN_nat (by omega)) ?_
          fail "mut"
          rename_i H4 g4 h4p s4
          refine ⟨_, _, _, _, rfl, ⟨g3.g.trans g4.g⟩, h4p, ?_⟩
          rw [leftTo_succ]
          unfold leftStep
          rw [hqi]
          simp only [e, e2, if_true, if_false, List.map_set]
          exact dpAll_set _ dv1 dq
        · fail "go"
          refine ⟨_, _, _, _, rfl, g3, h3p, ?_⟩
          rw [leftTo_succ]
          unfold leftStep
          rw [hqi]
          simp only [e, e2, if_false]
          exact dv1
    · rintro σ H2 ⟨x0, y0, z0, v1, rfl, g2, h2p, dv1⟩
      rw [ul3] at dv1
      have hd2 := g2.g.hh _ _ (nin1 d_p) hd1
      have s2 := g2.g.rh
      have gA : Gr [] R H R H2 := (g1.g.nil.trans g2.g).forget (by intro y hy hn; rw [List.mem_singleton.mp hy]; exact n1)
      clear hd hd1 h3 h31 h1p g1 g2 s1 sR Hk Ht
      fail "go"
      intro x dx2 nx ndx nex
      refine ⟨R, x, dx2, a, p, v1, rfl, s2.trans (made_same nx ndx), s2.free nx, upd_same, sqL_mono (made_same nx ndx) (SqL.of h2p), fun H4 m1' m2' m3' g4 n1' n2' n3' e12' e13' e23' hdv hl1 hl2 hl3 => ⟨rfl, ?_⟩⟩
      obtain ⟨gN, fN, dN⟩ := dev_new s2 nx ndx g4 n1' n2' n3' e12' e13' e23' hdv hl1 hl2 hl3 dv1
      exact hq H4 x _ (gA.trans gN) (fun y hy => gA.free (fN y hy)) dN
end
def spSideLeft (K : PySem.W.Frag) (CL CS CD : Addr) : Sp := fun vs H Q _ => ∃ (R : Hp) (s a k t : Addr) (L : Lay) (z : Int) (m : Rows) (ms : List Addr) (kept torn : List Int), vs = [.ref s, .ref k, .ref t] ∧ Same R H ∧ LayAt CL R a L ∧ L.Ok ∧ (0 ≤ L.device ∧ L.device < 900) ∧ SideOk K CS CD R H s a z m ms ∧ SqL K H k (kept.map V.int) ∧ SqL K H t (torn.map V.int) ∧ (∀ q ∈ m.wait, q.1 < m.sure.length) ∧
  ∀ H' x xs, Gr [] R H R H' → (∀ y ∈ xs, H y = none) → SideOk K CS CD R H' x a z (m.left kept torn) xs → Q (.ref x) H'
section
variable {P : Program} {w : World} {K : PySem.W.Frag} {mg : Str → Option Value} {base : Heap}
theorem ok_Side_left (T : Txt P K mg) : FnOk P w K mg base CX0 5 T.f_Side_left T.fd_Side_left ["self", "kept", "torn"] (spSideLeft K T.C_Layout T.C_Side T.C_Device) := by
  have cl_Side := T.cl_Side
  have a_Side_seat := T.a_Side_seat
  have a_Side_layout := T.a_Side_layout
  have a_Side_device := T.a_Side_device
  have G_Side___init__ := ok_Side___init__ (P := P) (w := w) (base := base) T
  have G_Device_left := ok_Device_left (P := P) (w := w) (base := base) T
  refine T.F_Side_left.ok sc_Side_left (fun vs H Q E h => ?_) (fun cdv A outer s H vs Q E hr h => ?_)
  · obtain ⟨R, s, a, k, t, L, z, m, ms, kept, torn, rfl, sR, ha, hL, hdev, hso, hk, ht, hw, hq⟩ := h
    rfl
  · obtain ⟨R, s, a, k, t, L, z, m, ms, kept, torn, rfl, sR, ha, hL, hdev, hso, hk, ht, hw, hq⟩ := h
    refine ⟨_, (pss_cons (ps_set (i := 3) sc_Side_left.nd rfl (by first | exact Or.inl rfl | exact Or.inr rfl) (pe_make T.mk_Side G_Side___init__ (hr.mono (by decide)) rfl T.g_Side T.b_Side___init___2 T.d_Side___init___2 pass0 (pa_cons (pe_fldK (K := K) (pv 0) rfl) (pa_cons (pe_fldK (K := K) (pv 0) rfl) pa_nil))))
      (pss_cons (ps_fld (pv 3) (pe_methN (pe_fldK (K := K) (pv 0) rfl) T.cl_Device T.m_Device_left G_Device_left (hr.mono (by decide)) T.kb_Device_left pass0 (pa_cons (pv 1) pa_nil) (pk_cons (pv 2) pk_nil)) rfl)
      (pss_one (ps_ret (pv 3))))), ?_⟩
    try dsimp only [cxOf]
    have hso0 := hso
    obtain ⟨d, ds, rfl, ⟨⟨sx, hs⟩, nin, non, dev⟩⟩ := hso
    obtain ⟨lx, haf⟩ := ha
    have sR0 := sR
    fail "go"
    intro x dx2 nx ndx nex
    have sm := made_same (C := T.C_Side) nx ndx
    refine ⟨R, x, dx2, a, z, .non, _, L, rfl, sR.trans sm, sR.free nx, upd_same, ⟨_, haf⟩, hL, hdev, .inr ⟨rfl, rfl⟩, fun H1 d' l1' l2' l3' g nd' n1 n2 n3 e12 e13 e23 edx hs' hd' e1 e2 e3 => ⟨rfl, ?_⟩⟩
    obtain ⟨gN0, fN, sN⟩ := side_new (cs := List.replicate (L.device + 2).toNat none) sR nx ndx g nd' n1 n2 n3 e12 e13 e23 hs' hd' e1 e2 e3 (dp_nones (K := K) _)
    have gN : Mu [] R H H1 := ⟨gN0⟩
    have dev1 := dev.frame gN0 (fun _ _ => List.not_mem_nil)
    have hs1 := gN0.same _ _ hs
    obtain ⟨d2, ds2, eds, ⟨⟨xx, hx1⟩, nn, Rx, devN⟩⟩ := sN
    clear devN
    have s1 := gN0.rh
    have hk1 := sqL_mono gN0.same hk
    have ht1 := sqL_mono gN0.same ht
    obtain ⟨dxx, k1, k2, k3, hd1⟩ := dev1.ins
    clear gN0 dev hs nd' n1 n2 n3 hs' hd' e1 e2 e3 g sm sR hk ht hso0
    fail "go"
    refine ⟨rfl, rfl, ?_⟩
    refine ⟨R, d, a, k, t, m, ds, kept, torn, rfl, s1, dev1, hk1, ht1, hw, fun H2 y ys g2 fy dy => ?_⟩
    have hx2 := g2.same _ _ hx1
    have s2 := g2.rh
    have xys : x ∉ ys := fun h => by have := fy x h; rw [hx1] at this; cases this
    have gA : Mu [] R H H2 := ⟨gN.g.trans g2⟩
    have fy0 : ∀ q ∈ ys, H q = none := fun q h => gN.g.free (fy q h)
    clear gN g2 s1 hx1 hd1 hs1 dev1
    fail "go"
    rename_i H3 g3 h3 s3
    have dy3 := dy.frame g3.g (fun q h hq => by rw [List.mem_singleton] at hq; subst hq; exact xys h)
    have gB : Gr [] R H R H3 := (gA.g.nil.trans g3.g).forget (by intro y hy hn; rw [List.mem_singleton.mp hy]; exact nx)
    fail "go"
    exact hq H3 x (x :: ys) gB (fun q h => by
      rcases List.mem_cons.mp h with rfl | h
      · exact nx
      · exact fy0 q h) ⟨y, ys, rfl, ⟨_, h3⟩, xys, Rx, dy3⟩
end
def spDevRead (K : PySem.W.Frag) (C : Addr) : Sp := fun vs H Q _ => ∃ (d a l1 l2 l3 : Addr) (us : List V) (v : V) (n : Nat), vs = [.ref d, .int (n : Int)] ∧ DevAt C H d a l1 l2 l3 ∧ SqL K H l2 us ∧ us[n]? = some v ∧ Q v H
section
variable {P : Program} {w : World} {K : PySem.W.Frag} {mg : Str → Option Value} {base : Heap}
theorem ok_Device_read (T : Txt P K mg) : FnOk P w K mg base CX0 1 T.f_Device_read T.fd_Device_read ["self", "address"] (spDevRead K T.C_Device) := by
  have cl_Device := T.cl_Device
  have a_Device_seen := T.a_Device_seen
  refine T.F_Device_read.ok sc_Device_read (fun vs H Q E h => ?_) (fun cdv A outer s H vs Q E hr h => ?_)
  · obtain ⟨d, a, l1, l2, l3, us, v, n, rfl, ⟨dx, hd⟩, hl, hv, hq⟩ := h
    rfl
  · obtain ⟨d, a, l1, l2, l3, us, v, n, rfl, ⟨dx, hd⟩, hl, hv, hq⟩ := h
    refine ⟨_, (pss_cons (ps_if (PW.pt (pw_or (pt_cmpR op_lt (pv 1) pe_int (nomark _)) (pw_or1 (pt_cmpR op_ge (pv 1) (pe_callB (callLenU (K := K)) (by rfl) T.n_len (by decide +kernel) (pa_cons (pe_fldK (K := K) (pv 0) rfl) pa_nil)) (nomark _))))) (pss_one (ps_ret pe_non)) pss_nil)
      (pss_one (ps_ret (pe_ix (ixU (K := K)) (pe_fldK (K := K) (pv 0) rfl) (pv 1) (fun _ _ => rfl))))), ?_⟩
    try dsimp only [cxOf]
    have r0 := Same.refl H
    have hn : n < us.length := (List.getElem?_eq_some_iff.mp hv).1
    fail "go"
    refine g_iteF (decide_eq_false (by omega)) ?_
    fail "go"
    refine g_ixL hl (atI_nat hv) ?_
    fail "go"
    exact hq
end
def spSettled (K : PySem.W.Frag) (CL CS CD : Addr) : Sp := fun vs H Q _ => ∃ (R : Hp) (s a : Addr) (L : Lay) (z : Int) (m : Rows) (ms : List Addr), vs = [.ref s] ∧ Same R H ∧ LayAt CL R a L ∧ L.Ok ∧ (0 ≤ L.device ∧ L.device < 900) ∧ SideOk K CS CD R H s a z m ms ∧ (m.seen.length : Int) = L.device + 2 ∧
  ∀ H' x xs, Gr [] R H R H' → (∀ y ∈ xs, H y = none) → SideOk K CS CD R H' x a z m.settle xs → Q (.ref x) H'
def SetInv (H : Hp) (p : Addr) (us : List V) (i : Nat) (H' : Hp) : Prop := Same H H' ∧ H' p = some (.lst (us.take i))
section
variable {P : Program} {w : World} {K : PySem.W.Frag} {mg : Str → Option Value} {base : Heap}
theorem ok_Side_settled (T : Txt P K mg) : FnOk P w K mg base CX0 5 T.f_Side_settled T.fd_Side_settled ["self"] (spSettled K T.C_Layout T.C_Side T.C_Device) := by
  have cl_Layout := T.cl_Layout
  have cl_Side := T.cl_Side
  have a_Layout_device_blocks := T.a_Layout_device_blocks
  have a_Side_layout := T.a_Side_layout
  have a_Side_device := T.a_Side_device
  have a_Side_seat := T.a_Side_seat
  have G_Device_read := ok_Device_read (P := P) (w := w) (base := base) T
  have G_Side___init__ := ok_Side___init__ (P := P) (w := w) (base := base) T
  refine T.F_Side_settled.ok sc_Side_settled (fun vs H Q E h => ?_) (fun cdv A outer s H vs Q E hr h => ?_)
  · obtain ⟨R, s, a, L, z, m, ms, rfl, sR, ha, hL, hdev, hso, hlen, hq⟩ := h
    rfl
  · obtain ⟨R, s, a, L, z, m, ms, rfl, sR, ha, hL, hdev, hso, hlen, hq⟩ := h
    refine ⟨_, (pss_cons (ps_setLc (i := 1) (own := [("address", 2)]) (g := gName 2) (tt := tYes) rfl sc_Side_settled.nd rfl rfl (sw_true rfl rfl rfl (by decide +kernel)) (pi_range1 rfl T.n_range (pa_cons (pe_op (opAddU (K := K)) (pe_fldK (K := K) (pe_fldK (K := K) (pv 0) rfl) rfl) (pe_glob rfl T.g_LABELS T.r_LABELS)) pa_nil)) (blkOk_by (N := N_Side_settled) (sc := defScope s_Side_settled) (by decide +kernel)) (fun _ _ _ _ _ => (pg_name (i := 2) sc_Side_settled.nd rfl (by first | exact Or.inl rfl | exact Or.inr rfl))) (fun _ _ _ _ _ => pts_nil) (fun _ _ _ _ _ => (pe_meth (pe_fldK (K := K) (pv 0) rfl) T.cl_Device T.m_Device_read G_Device_read (hr.mono (by decide)) T.b_Device_read .nil pass0 (pa_cons (pv 2) pa_nil))))
      (pss_one (ps_ret (pe_make T.mk_Side G_Side___init__ (hr.mono (by decide)) rfl T.g_Side T.b_Side___init__ .nil pass0 (pa_cons (pe_fldK (K := K) (pv 0) rfl) (pa_cons (pe_fldK (K := K) (pv 0) rfl) (pa_cons (pv 1) pa_nil))))))), ?_⟩
    try dsimp only [cxOf]
    obtain ⟨d, ds, rfl, ⟨⟨sx, hs⟩, nin, non, dev⟩⟩ := hso
    obtain ⟨l1, l2, l3, eds, ⟨dx, hd⟩, nd, non', u1, u2, u3, h1, h2, h3, d1, d2, d3⟩ := dev
    obtain ⟨lx, haf⟩ := ha
    have haH := sR _ _ haf
    have ul2 : u2.length = m.seen.length := by have := dpAll_len d2; simpa using this
    fail "go"
    refine g_R1W (n := m.seen.length) hlen.symm (by omega) fun D nD => ?_
    refine lc_range (lo := 0) (n := m.seen.length) (SetInv H D u2) ⟨(Gr.newM (M := []) sR nD).same, upd_same⟩ ?_ ?_
    · rintro i H1 hi ⟨s1, hD1⟩
      rw [Int.zero_add]
      have hs1 := s1 _ _ hs
      have hd1 := s1 _ _ hd
      have h21 := s1 _ _ h2
      obtain ⟨v, hv⟩ : ∃ v, u2[i]? = some v := ⟨u2[i], List.getElem?_eq_getElem (by omega)⟩
      clear sR haH hs hd h1 h2 h3
      refine ⟨rfl, ?_⟩
      fail "go"
      refine ⟨d, a, l1, l2, l3, u2, v, i, rfl, ⟨_, hd1⟩, SqL.of h21, hv, ?_⟩
      refine ⟨_, hD1, by rw [List.length_take]; exact Nat.lt_of_le_of_lt (show _ ≤ 1000 by omega) (by decide), fun b o e => ?_, ?_⟩
      · rw [upd_ne (ne_of_none e nD)]; exact s1 _ _ e
      · rw [upd_same, List.take_add_one, hv]; rfl
    · rintro H1 ⟨s1, hD1⟩
      rw [← ul2, List.take_length] at hD1
      have sR1 := sR.trans s1
      have hs1 := s1 _ _ hs
      have ha1 := s1 _ _ haH
      have gA : Gr [] R H R H1 := (Mu.ofSame sR s1).g
      clear sR haH hs hd h1 h2 h3
      fail "go"
      intro x dx2 nx ndx nex
      have sm := made_same (C := T.C_Side) nx ndx
      refine ⟨R, x, dx2, a, z, .ref D, u2, L, rfl, sR1.trans sm, sR1.free nx, upd_same, ⟨_, haf⟩, hL, hdev, .inl ⟨D, rfl, SqL.of (sm _ _ hD1)⟩, fun H4 d' l1' l2' l3' g nd' n1 n2 n3 e12 e13 e23 edx hs' hd' e1 e2 e3 => ⟨rfl, ?_⟩⟩
      obtain ⟨gN, fN, sN⟩ := side_new (cs := m.seen) sR1 nx ndx g nd' n1 n2 n3 e12 e13 e23 hs' hd' e1 e2 e3 d2
      exact hq H4 x _ (gA.trans gN) (fun y hy => gA.free (fN y hy)) sN
end
def spDevFork (K : PySem.W.Frag) (CD : Addr) : Sp := fun vs H Q _ => ∃ (R : Hp) (d a : Addr) (m : Rows) (ds : List Addr), vs = [.ref d] ∧ Same R H ∧ DevOk K CD R H d a m ds ∧
  ∀ H' x xs, Gr [] R H R H' → (∀ y ∈ xs, H y = none) → DevOk K CD R H' x a m xs → Q (.ref x) H'
section
variable {P : Program} {w : World} {K : PySem.W.Frag} {mg : Str → Option Value} {base : Heap}
theorem ok_Device_fork (T : Txt P K mg) : FnOk P w K mg base CX0 3 T.f_Device_fork T.fd_Device_fork ["self"] (spDevFork K T.C_Device) := by
  have cl_Device := T.cl_Device
  have a_Device_seen := T.a_Device_seen
  have a_Device_layout := T.a_Device_layout
  have a_Device_sure := T.a_Device_sure
  have a_Device_waiting := T.a_Device_waiting
  have a_Device_fuse := T.a_Device_fuse
  have a_Device_dark := T.a_Device_dark
  have G_Device___init__ := ok_Device___init__ (P := P) (w := w) (base := base) T
  refine T.F_Device_fork.ok sc_Device_fork (fun vs H Q E h => ?_) (fun cdv A outer s H vs Q E hr h => ?_)
  · obtain ⟨R, d, a, m, ds, rfl, sR, ⟨l1, l2, l3, rfl, dv⟩, hq⟩ := h
    rfl
  · obtain ⟨R, d, a, m, ds, rfl, sR, ⟨l1, l2, l3, rfl, dv⟩, hq⟩ := h
    refine ⟨_, (pss_cons (ps_set (i := 1) sc_Device_fork.nd rfl (by first | exact Or.inl rfl | exact Or.inr rfl) (pe_make T.mk_Device G_Device___init__ (hr.mono (by decide)) rfl T.g_Device T.b_Device___init__ .nil pass0 (pa_cons (pe_fldK (K := K) (pv 0) rfl) (pa_cons (pe_fldK (K := K) (pv 0) rfl) pa_nil))))
      (pss_cons (ps_fld (pv 1) (pe_callTy (callListU (K := K)) (by rfl) T.n_list (by decide +kernel) (pa_cons (pe_fldK (K := K) (pv 0) rfl) pa_nil)) rfl)
      (pss_cons (ps_fld (pv 1) (pe_callTy (callListU (K := K)) (by rfl) T.n_list (by decide +kernel) (pa_cons (pe_fldK (K := K) (pv 0) rfl) pa_nil)) rfl)
      (pss_cons (ps_fld (pv 1) (pe_fldK (K := K) (pv 0) rfl) rfl)
      (pss_cons (ps_fld (pv 1) (pe_fldK (K := K) (pv 0) rfl) rfl)
      (pss_one (ps_ret (pv 1)))))))), ?_⟩
    try dsimp only [cxOf]
    have has := dv.has
    obtain ⟨⟨dx, hd⟩, nd, non, u1, u2, u3, h1, h2, h3, d1, d2, d3⟩ := dv
    fail "go"
    intro x dx2 nx ndx nex
    have sm := made_same (C := T.C_Device) nx ndx
    refine ⟨R, x, dx2, a, l2, u2, rfl, sR.trans sm, sR.free nx, upd_same, SqL.of (sm _ _ h2), fun H1 p1 p2 p3 g1 n1 n2 n3 e12 e13 e23 hdv hl1 hl2 hl3 => ⟨rfl, ?_⟩⟩
    obtain ⟨gN0, fN, dN⟩ := dev_new (cs := m.seen) sR nx ndx g1 n1 n2 n3 e12 e13 e23 hdv hl1 hl2 hl3 d2
    have gN : Mu [] R H H1 := ⟨gN0⟩
    clear gN0
    obtain ⟨_, _, _, eq, hx1, ndN, nonN, _⟩ := dN
    cases eq
    obtain ⟨xx, hx1⟩ := hx1
    obtain ⟨f01, f02, f03, f12, f13, f23⟩ := nod4 ndN
    have Rx := nonN x (by simp)
    have hd1 := gN.g.same _ _ hd
    have h11 := gN.g.same _ _ h1
    have h31 := gN.g.same _ _ h3
    have s1 := gN.g.rh
    have xd : x ≠ d := (ne_of_none hd nx).symm
    have xl1 : x ≠ l1 := (ne_of_none h1 nx).symm
    have xl3 : x ≠ l3 := (ne_of_none h3 nx).symm
    clear h1 h2 h3 hd g1 n1 n2 n3 hdv sm sR
    fail "go"
    refine g_listL (SqL.of h11) ?_
    fail "newM"
    rename_i q1 H2 n2 g2 m2 hq2 s2
    have hx2 := g2.g.same _ _ hx1
    have hd2 := g2.g.same _ _ hd1
    have h32 := g2.g.same _ _ h31
    have hl22 := g2.g.same _ _ hl2
    have xq1 : x ≠ q1 := ne_of_none hx1 n2
    have q1p2 : q1 ≠ p2 := (ne_of_none hl2 n2).symm
    have q1n := gN.g.free n2
    have gA : Mu [] R H H2 := ⟨gN.g.trans g2.g⟩
    clear gN g2 hx1 hd1 h31 h11 s1 hl1 hl2 hl3
    fail "go"
    rename_i H3 g3 h3' s3
    have hd3 := g3.g.hh _ _ (nin1 xd.symm) hd2
    have h33 := g3.g.hh _ _ (nin1 xl3.symm) h32
    have hq3 := g3.g.hh _ _ (nin1 xq1.symm) hq2
    have hl23 := g3.g.hh _ _ (nin1 f02.symm) hl22
    have gB : Mu [x] R H H3 := ⟨gA.g.nil.trans g3.g⟩
    clear gA g3 hd2 h32 hx2 s2 hq2 hl22
    refine g_listL (SqL.of h33) ?_
    fail "newM"
    rename_i q3 H4 n4 g4 m4 h4 s4
    have hx4 := g4.g.same _ _ h3'
    have hd4 := g4.g.same _ _ hd3
    have hq4 := g4.g.same _ _ hq3
    have hl24 := g4.g.same _ _ hl23
    have xq3 : x ≠ q3 := ne_of_none h3' n4
    have q1q3 : q1 ≠ q3 := ne_of_none hq3 n4
    have p2q3 : p2 ≠ q3 := ne_of_none hl23 n4
    have q3n := gB.g.free n4
    have gC : Mu [x] R H H4 := ⟨gB.g.trans g4.g.nil⟩
    clear gB g4 h3' hd3 hq3 s3 hl23 h33
    fail "go"
    rename_i H5 g5 h5 s5 H6 g6 h6 s6 H7 g7 h7 s7
    have gg : Gr [x] R H4 R H7 := g5.g.trans (g6.g.trans g7.g)
    have hq7 := gg.hh _ _ (nin1 xq1.symm) hq4
    have hl27 := gg.hh _ _ (nin1 f02.symm) hl24
    have hq37 := gg.hh _ _ (nin1 xq3.symm) h4
    have gF : Mu [x] R H H7 := ⟨gC.g.trans gg⟩
    have gG : Gr [] R H R H7 := gF.g.forget (by intro y hy hn; rw [List.mem_singleton.mp hy]; exact nx)
    refine hq H7 x [x, q1, p2, q3] gG (fun y hy => ?_) ⟨q1, p2, q3, rfl, ⟨xx, h7⟩, mk_nod4 xq1 f02 xq3 q1p2 q1q3 p2q3, fun y hy => ?_, u1, u2, u3, hq7, hl27, hq37, d1, d2, d3⟩
    · simp only [List.mem_cons, List.not_mem_nil, or_false] at hy
      rcases hy with rfl | rfl | rfl | rfl
      · exact nx
      · exact q1n
      · exact fN _ (by simp)
      · exact q3n
    · simp only [List.mem_cons, List.not_mem_nil, or_false] at hy
      rcases hy with rfl | rfl | rfl | rfl
      · exact Rx
      · exact m2
      · exact nonN _ (by simp)
      · exact m4
end
def spSideFork (K : PySem.W.Frag) (CL CS CD : Addr) : Sp := fun vs H Q _ => ∃ (R : Hp) (s a : Addr) (L : Lay) (z : Int) (m : Rows) (ms : List Addr), vs = [.ref s] ∧ Same R H ∧ LayAt CL R a L ∧ L.Ok ∧ (0 ≤ L.device ∧ L.device < 900) ∧ SideOk K CS CD R H s a z m ms ∧
  ∀ H' x xs, Gr [] R H R H' → (∀ y ∈ xs, H y = none) → SideOk K CS CD R H' x a z m xs → Q (.ref x) H'
section
variable {P : Program} {w : World} {K : PySem.W.Frag} {mg : Str → Option Value} {base : Heap}
theorem ok_Side_fork (T : Txt P K mg) : FnOk P w K mg base CX0 5 T.f_Side_fork T.fd_Side_fork ["self"] (spSideFork K T.C_Layout T.C_Side T.C_Device) := by
  have cl_Side := T.cl_Side
  have a_Side_seat := T.a_Side_seat
  have a_Side_layout := T.a_Side_layout
  have a_Side_device := T.a_Side_device
  have G_Side___init__ := ok_Side___init__ (P := P) (w := w) (base := base) T
  have G_Device_fork := ok_Device_fork (P := P) (w := w) (base := base) T
  refine T.F_Side_fork.ok sc_Side_fork (fun vs H Q E h => ?_) (fun cdv A outer s H vs Q E hr h => ?_)
  · obtain ⟨R, s, a, L, z, m, ms, rfl, sR, ha, hL, hdev, hso, hq⟩ := h
    rfl
  · obtain ⟨R, s, a, L, z, m, ms, rfl, sR, ha, hL, hdev, hso, hq⟩ := h
    refine ⟨_, (pss_cons (ps_set (i := 1) sc_Side_fork.nd rfl (by first | exact Or.inl rfl | exact Or.inr rfl) (pe_make T.mk_Side G_Side___init__ (hr.mono (by decide)) rfl T.g_Side T.b_Side___init___2 T.d_Side___init___2 pass0 (pa_cons (pe_fldK (K := K) (pv 0) rfl) (pa_cons (pe_fldK (K := K) (pv 0) rfl) pa_nil))))
      (pss_cons (ps_fld (pv 1) (pe_meth0 (pe_fldK (K := K) (pv 0) rfl) T.cl_Device T.m_Device_fork G_Device_fork (hr.mono (by decide)) T.b_Device_fork .nil pass0) rfl)
      (pss_one (ps_ret (pv 1))))), ?_⟩
    try dsimp only [cxOf]
    have hso0 := hso
    obtain ⟨d, ds, rfl, ⟨⟨sx, hs⟩, nin, non, dev⟩⟩ := hso
    obtain ⟨lx, haf⟩ := ha
    have sR0 := sR
    fail "go"
    intro x dx2 nx ndx nex
    have sm := made_same (C := T.C_Side) nx ndx
    refine ⟨R, x, dx2, a, z, .non, _, L, rfl, sR.trans sm, sR.free nx, upd_same, ⟨_, haf⟩, hL, hdev, .inr ⟨rfl, rfl⟩, fun H1 d' l1' l2' l3' g nd' n1 n2 n3 e12 e13 e23 edx hs' hd' e1 e2 e3 => ⟨rfl, ?_⟩⟩
    obtain ⟨gN0, fN, sN⟩ := side_new (cs := List.replicate (L.device + 2).toNat none) sR nx ndx g nd' n1 n2 n3 e12 e13 e23 hs' hd' e1 e2 e3 (dp_nones (K := K) _)
    have gN : Mu [] R H H1 := ⟨gN0⟩
    have dev1 := dev.frame gN0 (fun _ _ => List.not_mem_nil)
    have hs1 := gN0.same _ _ hs
    obtain ⟨d2, ds2, eds, ⟨⟨xx, hx1⟩, nn, Rx, devN⟩⟩ := sN
    clear devN
    have s1 := gN0.rh
    obtain ⟨dxx, k1, k2, k3, hd1⟩ := dev1.ins
    clear gN0 dev hs nd' n1 n2 n3 hs' hd' e1 e2 e3 g sm sR hso0
    fail "go"
    refine ⟨R, d, a, m, ds, rfl, s1, dev1, fun H2 y ys g2 fy dy => ?_⟩
    have hx2 := g2.same _ _ hx1
    have s2 := g2.rh
    have xys : x ∉ ys := fun h => by have := fy x h; rw [hx1] at this; cases this
    have gA : Mu [] R H H2 := ⟨gN.g.trans g2⟩
    have fy0 : ∀ q ∈ ys, H q = none := fun q h => gN.g.free (fy q h)
    clear gN g2 s1 hx1 hd1 hs1 dev1
    fail "go"
    rename_i H3 g3 h3 s3
    have dy3 := dy.frame g3.g (fun q h hq => by rw [List.mem_singleton] at hq; subst hq; exact xys h)
    have gB : Gr [] R H R H3 := (gA.g.nil.trans g3.g).forget (by intro y hy hn; rw [List.mem_singleton.mp hy]; exact nx)
    fail "go"
    exact hq H3 x (x :: ys) gB (fun q h => by
      rcases List.mem_cons.mp h with rfl | h
      · exact nx
      · exact fy0 q h) ⟨y, ys, rfl, ⟨_, h3⟩, xys, Rx, dy3⟩
end
def spNext (K : PySem.W.Frag) (CL CS CD : Addr) : Sp := fun vs H Q _ => ∃ (R : Hp) (s g a b : Addr) (L : Lay) (z : Int) (m : Rows) (ms gs : List Addr) (n : Int), vs = [.ref s, .ref g, .ref b] ∧ Same R H ∧ LayAt CL R a L ∧ L.Ok ∧ (0 ≤ L.device ∧ L.device < 900) ∧ SideOk K CS CD R H s a z m ms ∧ ModOk K R H g z m gs ∧ RsW L 100 m ∧ R b = none ∧ H b = some (.lst [.int n]) ∧ b ∉ ms ∧ b ∉ gs ∧
  ∀ H' p x y m' xs ys, Gr [b] R H R H' → (∃ n', H' b = some (.lst [.int n'])) → H' p = some (.lst [.ref x, .ref y]) → SideOk K CS CD R H' x a z m' xs → ModOk K R H' y z m' ys → RsW L 0 m' ∨ m' = m → (∀ q ∈ xs, H q = none) → (∀ q ∈ ys, H q = none) → Dj xs ys → p ∉ xs → p ∉ ys → H p = none → Q (.ref p) H'
local macro_rules | `(tactic| fail "calls") => `(tactic| ((with_reducible show spTake _ _ _ _); refine ⟨_, _, _, rfl, by fail "hp", by fail "ar", by fail "ar", ?_⟩; fail "mut"))
section
variable {P : Program} {w : World} {K : PySem.W.Frag} {mg : Str → Option Value} {base : Heap}
theorem ok__law_next (T : Txt P K mg) : FnOk P w K mg base CX0 6 T.f__law_next T.fd__law_next ["side", "model", "box"] (spNext K T.C_Layout T.C_Side T.C_Device) := by
  have G__law_take := ok__law_take (P := P) (w := w) (base := base) T
  have G__law_left := ok__law_left (P := P) (w := w) (base := base) T
  have G_Side_left := ok_Side_left (P := P) (w := w) (base := base) T
  have G_Side_settled := ok_Side_settled (P := P) (w := w) (base := base) T
  have G__law_copy := ok__law_copy (P := P) (w := w) (base := base) T
  have G_Side_fork := ok_Side_fork (P := P) (w := w) (base := base) T
  refine T.F__law_next.ok sc__law_next (fun vs H Q E h => ?_) (fun cdv A outer s H vs Q E hr h => ?_)
  · obtain ⟨R, s, g, a, b, L, z, m, ms, gs, n, rfl, sR, ha, hL, hdev, hso, hmo, mw, Rb, hb, bms, bgs, hq⟩ := h
    rfl
  · obtain ⟨R, s, g, a, b, L, z, m, ms, gs, n, rfl, sR, ha, hL, hdev, hso, hmo, mw, Rb, hb, bms, bgs, hq⟩ := h
    refine ⟨_, (pss_cons (ps_set (i := 3) sc__law_next.nd rfl (by first | exact Or.inl rfl | exact Or.inr rfl) (pe_call G__law_take (hr.mono (by decide)) rfl T.g__law_take T.F__law_take.kp T.b__law_take .nil pass0 (pa_cons (pv 2) (pa_cons pe_int pa_nil))))
      (pss_cons (ps_if (pt_cmpR (opEqU (K := K) hr.units) (pv 3) pe_int (nomark _)) (pss_cons (ps_setLc (i := 4) (own := [("k", 6)]) (g := gName 6) (tt := _) rfl sc__law_next.nd rfl rfl (sw_true rfl rfl rfl (by decide +kernel)) (pi_range1 rfl T.n_range (pa_cons pe_int pa_nil)) (blkOk_by (N := N__law_next) (sc := defScope s__law_next) (by decide +kernel)) (fun _ _ _ _ _ => (pg_name (i := 6) sc__law_next.nd rfl (by first | exact Or.inl rfl | exact Or.inr rfl))) (fun _ _ _ _ _ => pts_one (pt_cmpR (opEqU (K := K) hr.units) (pe_call G__law_take (hr.mono (by decide)) rfl T.g__law_take T.F__law_take.kp T.b__law_take .nil pass0 (pa_cons (pv 2) (pa_cons pe_int pa_nil))) pe_int (nomark _))) (fun _ _ _ _ _ => (pv 6)))
      (pss_cons (ps_setLc (i := 5) (own := [("k", 6)]) (g := gName 6) (tt := _) rfl sc__law_next.nd rfl rfl (sw_true rfl rfl rfl (by decide +kernel)) (pi_range1 rfl T.n_range (pa_cons pe_int pa_nil)) (blkOk_by (N := N__law_next) (sc := defScope s__law_next) (by decide +kernel)) (fun _ _ _ _ _ => (pg_name (i := 6) sc__law_next.nd rfl (by first | exact Or.inl rfl | exact Or.inr rfl))) (fun _ _ _ _ _ => pts_one (pt_cmpR (opEqU (K := K) hr.units) (pe_call G__law_take (hr.mono (by decide)) rfl T.g__law_take T.F__law_take.kp T.b__law_take .nil pass0 (pa_cons (pv 2) (pa_cons pe_int pa_nil))) pe_int (nomark _))) (fun _ _ _ _ _ => (pv 6)))
      (pss_one (ps_ret (pe_lst (pa_cons (pe_methN (pv 0) T.cl_Side T.m_Side_left G_Side_left (hr.mono (by decide)) T.kb_Side_left pass0 (pa_cons (pv 4) pa_nil) (pk_cons (pv 5) pk_nil)) (pa_cons (pe_call G__law_left (hr.mono (by decide)) rfl T.g__law_left T.F__law_left.kp T.b__law_left .nil pass0 (pa_cons (pv 1) (pa_cons (pv 4) (pa_cons (pv 5) pa_nil)))) pa_nil))))))) pss_nil)
      (pss_cons (ps_if (pt_cmpR (opEqU (K := K) hr.units) (pv 3) pe_int (nomark _)) (pss_one (ps_ret (pe_lst (pa_cons (pe_meth0 (pv 0) T.cl_Side T.m_Side_settled G_Side_settled (hr.mono (by decide)) T.b_Side_settled .nil pass0) (pa_cons (pe_disp (pps_cons pe_str (pe_dget (hu_of hr) (pv 1) pe_str (fun _ _ => rfl)) (pps_cons pe_str (pe_callTy (callListU (K := K)) (by rfl) T.n_list (by decide +kernel) (pa_cons (pe_dget (hu_of hr) (pv 1) pe_str (fun _ _ => rfl)) pa_nil)) (pps_cons pe_str (pe_callTy (callListU (K := K)) (by rfl) T.n_list (by decide +kernel) (pa_cons (pe_dget (hu_of hr) (pv 1) pe_str (fun _ _ => rfl)) pa_nil)) (pps_cons pe_str (pe_lst pa_nil) pps_nil)))) (by rfl) (by rfl) (by simp) (by decide)) pa_nil))))) pss_nil)
      (pss_one (ps_ret (pe_lst (pa_cons (pe_meth0 (pv 0) T.cl_Side T.m_Side_fork G_Side_fork (hr.mono (by decide)) T.b_Side_fork .nil pass0) (pa_cons (pe_call G__law_copy (hr.mono (by decide)) rfl T.g__law_copy T.F__law_copy.kp T.b__law_copy .nil pass0 (pa_cons (pv 1) pa_nil)) pa_nil)))))))), ?_⟩
    try dsimp only [cxOf]
    fail "go"
    rename_i H1 g1 h1 s1
    have so1 := hso.frame g1.g (fun x hx e => bms (by rw [← List.mem_singleton.mp e]; exact hx))
    have mo1 := hmo.frame g1.g (fun x hx e => bgs (by rw [← List.mem_singleton.mp e]; exact hx))
    have k3 := mod_rng n (show (0 : Int) < 3 by decide)
    have hbx : ∀ q, H q = none → q ≠ b := fun q hq e => by rw [← e, hq] at hb; cases hb
    clear hb sR hso hmo
    generalize n % 3 = kd at k3
    generalize n / 3 = n1 at h1
    refine g_ite (fun e => ?_) (fun e => ?_)
    · fail "go"
      refine g_R1W (n := 9) rfl (by decide) fun D nD => ?_
      have RD := s1.free nD
      have DbD : b ≠ D := ne_of_none h1 nD
      refine lc_range (lo := 0) (n := 9) (DrawInv R (upd H1 D (.lst [])) b D) (draw_0 s1 h1 nD) ?_ ?_
      · rintro j H2 hj ⟨q, us, g2, h2, hD, ul⟩
        have s2 := g2.g.rh
        generalize upd H1 D (.lst []) = H0 at g2 ⊢
        clear h1 s1 so1 mo1 g1
        refine ⟨rfl, ?_⟩
        fail "go"
        rename_i H3 g3 h3 s3
        have h3D : H3 D = some (.lst (us.map V.int)) := g3.g.hh _ _ (nin1 (Ne.symm DbD)) hD
        have gX : Mu [b, D] R H0 H3 := ⟨g2.g.trans (g3.g.mono (by simp))⟩
        refine g_ite (fun e => ?_) (fun e => ?_)
        · fail "go"
          refine ⟨_, h3D, by rw [List.length_map]; fail "sz", _, us ++ [0 + (j : Int)], ⟨Gr.app gX.g RD h3D (by simp)⟩, by rw [upd_ne DbD]; exact h3, by rw [upd_same, List.map_append]; rfl, by rw [List.length_append, List.length_singleton]; omega⟩
        · exact ⟨_, us, gX, h3, h3D, by omega⟩
      rintro H2 dr
      obtain ⟨q2, kept, g2, h2, hD2, kl⟩ := draw_end s1 nD dr
      have gA : Mu [b] R H H2 := ⟨g1.g.trans g2.g⟩
      have s2 := g2.g.rh
      have so2 := so1.frame g2.g (fun x hx e => bms (by rw [← List.mem_singleton.mp e]; exact hx))
      have mo2 := mo1.frame g2.g (fun x hx e => bgs (by rw [← List.mem_singleton.mp e]; exact hx))
      clear g1 g2 h1 s1 so1 mo1 dr
      fail "go"
      refine g_R1W (n := 9) rfl (by decide) fun E nE => ?_
      have RE := s2.free nE
      have DbE : b ≠ E := ne_of_none h2 nE
      refine lc_range (lo := 0) (n := 9) (DrawInv R (upd H2 E (.lst [])) b E) (draw_0 s2 h2 nE) ?_ ?_
      · rintro j H3 hj ⟨q, us, g3, h3, hE, ul⟩
        have s3 := g3.g.rh
        generalize upd H2 E (.lst []) = H0 at g3 ⊢
        clear h2 s2 so2 mo2 gA hD2
        refine ⟨rfl, ?_⟩
        fail "go"
        rename_i H4 g4 h4 s4
        have h4E : H4 E = some (.lst (us.map V.int)) := g4.g.hh _ _ (nin1 (Ne.symm DbE)) hE
        have gX : Mu [b, E] R H0 H4 := ⟨g3.g.trans (g4.g.mono (by simp))⟩
        refine g_ite (fun e => ?_) (fun e => ?_)
        · fail "go"
          refine ⟨_, h4E, by rw [List.length_map]; fail "sz", _, us ++ [0 + (j : Int)], ⟨Gr.app gX.g RE h4E (by simp)⟩, by rw [upd_ne DbE]; exact h4, by rw [upd_same, List.map_append]; rfl, by rw [List.length_append, List.length_singleton]; omega⟩
        · exact ⟨_, us, gX, h4, h4E, by omega⟩
      rintro H3 dr
      obtain ⟨q3, torn, g3, h3, hE3, tl⟩ := draw_end s2 nE dr
      have gB : Mu [b] R H H3 := ⟨gA.g.trans g3.g⟩
      have s3 := g3.g.rh
      have so3 := so2.frame g3.g (fun x hx e => bms (by rw [← List.mem_singleton.mp e]; exact hx))
      have mo3 := mo2.frame g3.g (fun x hx e => bgs (by rw [← List.mem_singleton.mp e]; exact hx))
      have hD3 := g3.g.hh _ _ (nin1 (Ne.symm DbD)) hD2
      obtain ⟨d, ds, _, ⟨⟨sx, hs3⟩, _, _, _⟩⟩ := id so3
      clear g3 h2 s2 so2 mo2 dr gA hD2
      fail "go"
      refine ⟨rfl, rfl, ?_⟩
      refine ⟨R, s, a, D, E, L, z, m, ms, kept, torn, rfl, s3, ha, hL, hdev, so3, SqL.of hD3, SqL.of hE3, mw.wi, fun H4 x xs g4 fx so4 => ?_⟩
      have mo4 := mo3.frame g4 (fun _ _ => List.not_mem_nil)
      have hD4 := g4.same _ _ hD3
      have hE4 := g4.same _ _ hE3
      have h4 := g4.same _ _ h3
      have s4 := g4.rh
      have gC : Mu [b] R H H4 := ⟨gB.g.trans g4.nil⟩
      have fx0 : ∀ q ∈ xs, H q = none := fun q hq => gB.g.free (fx q hq)
      clear g4 gB so3 mo3 hD3 hE3 h3 s3 hs3
      fail "go"
      refine ⟨R, g, D, E, z, m, gs, kept, torn, rfl, s4, mo4, SqL.of hD4, SqL.of hE4, mw.wi, by have := mw.lw; omega, fun H5 y ys g5 fy mo5 => ?_⟩
      have so5 := so4.frame g5 (fun _ _ => List.not_mem_nil)
      have h5 := g5.same _ _ h4
      have s5 := g5.rh
      have gD : Mu [b] R H H5 := ⟨gC.g.trans g5.nil⟩
      have fy0 : ∀ q ∈ ys, H q = none := fun q hq => gC.g.free (fy q hq)
      have djxy : Dj xs ys := (Dj.new fy so4.has).symm
      clear so4 mo4 h4 s4 gC g5 hD4 hE4
      fail "go"
      refine ⟨by fail "sz", ?_⟩
      fail "newM"
      rename_i p H6 np g6 mp hp s6
      exact hq H6 p x y _ xs ys (gD.g.trans g6.g.nil) ⟨_, g6.g.same _ _ h5⟩ hp (so5.frame g6.g (fun _ _ => List.not_mem_nil)) (mo5.frame g6.g (fun _ _ => List.not_mem_nil)) (.inl (mw.left kept torn)) fx0 fy0 djxy (fun h => by obtain ⟨o, ho⟩ := so5.has p h; rw [show H5 p = none from np] at ho; cases ho) (fun h => by obtain ⟨o, ho⟩ := mo5.has p h; rw [show H5 p = none from np] at ho; cases ho) (gD.g.free np)
    · fail "go"
      refine g_ite (fun e => ?_) (fun e => ?_)
      · obtain ⟨d, ds, _, ⟨⟨sx, hs1⟩, _, _, _⟩⟩ := id so1
        fail "go"
        refine ⟨R, s, a, L, z, m, ms, rfl, s1, ha, hL, hdev, so1, mw.ln, fun H2 x xs g2 fx so2 => ?_⟩
        have mo2 := mo1.frame g2 (fun _ _ => List.not_mem_nil)
        have h2 := g2.same _ _ h1
        have s2 := g2.rh
        have gA : Mu [b] R H H2 := ⟨g1.g.trans g2.nil⟩
        have fx0 : ∀ q ∈ xs, H q = none := fun q hq => g1.g.free (fx q hq)
        clear g1 g2 so1 mo1 h1 s1 hs1
        obtain ⟨n1', n2', n3', egs, hg, nd, non, u1, u2, u3, l1, l2, l3, d1, d2, d3⟩ := mo2
        fail "go"
        fail "newM"
        rename_i y H3 ny g3 my hy s3
        have hg3 := g3.g.same _ _ hg
        have l23 := g3.g.same _ _ l2
        have so3 := so2.frame g3.g (fun _ _ => List.not_mem_nil)
        have h3 := g3.g.same _ _ h2
        have fy : H y = none := gA.g.free ny
        have yxs : y ∉ xs := fun h => by obtain ⟨o, ho⟩ := so2.has y h; rw [show H2 y = none from ny] at ho; cases ho
        have gB : Mu [b] R H H3 := ⟨gA.g.trans g3.g.nil⟩
        clear hg l1 l2 l3 so2 h2 s2 gA g3
        fail "go"
        refine g_listL (SqL.of l23) ?_
        fail "newM"
        rename_i p1 H4 np1 g4 mp1 hp1 s4
        have hg4 := g4.g.same _ _ hg3
        have l24 := g4.g.same _ _ l23
        have hy4 := g4.g.same _ _ hy
        have so4 := so3.frame g4.g (fun _ _ => List.not_mem_nil)
        have h4 := g4.g.same _ _ h3
        have yp1 := ne_of_none hy np1
        have fp1 : H p1 = none := gB.g.free np1
        have p1xs : p1 ∉ xs := fun h => by obtain ⟨o, ho⟩ := so3.has p1 h; rw [show H3 p1 = none from np1] at ho; cases ho
        have gC : Mu [b] R H H4 := ⟨gB.g.trans g4.g.nil⟩
        clear hg3 l23 hy so3 h3 s3 gB g4
        fail "go"
        refine g_listL (SqL.of l24) ?_
        fail "newM"
        rename_i p2 H5 np2 g5 mp2 hp2 s5
        have hp15 := g5.g.same _ _ hp1
        have hy5 := g5.g.same _ _ hy4
        have so5 := so4.frame g5.g (fun _ _ => List.not_mem_nil)
        have h5 := g5.g.same _ _ h4
        have yp2 := ne_of_none hy4 np2
        have p12 := ne_of_none hp1 np2
        have fp2 : H p2 = none := gC.g.free np2
        have p2xs : p2 ∉ xs := fun h => by obtain ⟨o, ho⟩ := so4.has p2 h; rw [show H4 p2 = none from np2] at ho; cases ho
        have gD : Mu [b] R H H5 := ⟨gC.g.trans g5.g.nil⟩
        clear hg4 l24 hy4 so4 h4 s4 gC g5 hp1
        fail "go"
        refine ⟨by fail "sz", ?_⟩
        fail "newM"
        rename_i p3 H6 np3 g6 mp3 hp3 s6
        have hp16 := g6.g.same _ _ hp15
        have hp26 := g6.g.same _ _ hp2
        have hy6 := g6.g.same _ _ hy5
        have so6 := so5.frame g6.g (fun _ _ => List.not_mem_nil)
        have h6 := g6.g.same _ _ h5
        have yp3 := ne_of_none hy5 np3
        have p13 := ne_of_none hp15 np3
        have p23 := ne_of_none hp2 np3
        have fp3 : H p3 = none := gD.g.free np3
        have p3xs : p3 ∉ xs := fun h => by obtain ⟨o, ho⟩ := so5.has p3 h; rw [show H5 p3 = none from np3] at ho; cases ho
        have gE : Mu [b] R H H6 := ⟨gD.g.trans g6.g.nil⟩
        clear hy5 so5 h5 s5 gD g6 hp15 hp2
        fail "go"
        refine ⟨hy6, [(.inr "seat", .int z), (.inr "sure", .ref p1), (.inr "seen", .ref p2), (.inr "waiting", .ref p3)], rfl, by simp, ?_⟩
        fail "go"
        fail "mut"
        rename_i H7 g7 h7 s7
        have by_ := hbx y fy
        have gF : Mu [b] R H H7 := ⟨((gE.g.mono (M' := [b, y]) (by simp)).trans (g7.g.mono (by simp))).forget (by intro q hq hn; simp at hq hn; rcases hq with rfl | rfl; exact absurd rfl hn; exact fy)⟩
        have so7 := so6.frame g7.g (fun q hq hn => yxs (by rw [← List.mem_singleton.mp hn]; exact hq))
        have h7b := g7.g.hh _ _ (nin1 by_.symm) h6
        have mo7 : ModOk K R H7 y z m.settle [y, p1, p2, p3] := ⟨p1, p2, p3, rfl, ⟨h7, mk_nod4 yp1 yp2 yp3 p12 p13 p23, fun q hq => by
          simp only [List.mem_cons, List.not_mem_nil, or_false] at hq
          rcases hq with rfl | rfl | rfl | rfl
          · exact my
          · exact mp1
          · exact mp2
          · exact mp3, u2, u2, [], g7.g.hh _ _ (nin1 yp1.symm) hp16, g7.g.hh _ _ (nin1 yp2.symm) hp26, g7.g.hh _ _ (nin1 yp3.symm) hp3, d2, d2, .nil⟩⟩
        refine ⟨by fail "sz", ?_⟩
        clear so6 h6 s6 gE g7 hp16 hp26 hp3 hy6 h7
        fail "newM"
        rename_i p H8 np g8 mp hp s8
        exact hq H8 p x y _ xs _ (gF.g.trans g8.g.nil) ⟨_, g8.g.same _ _ h7b⟩ hp (so7.frame g8.g (fun _ _ => List.not_mem_nil)) (mo7.frame g8.g (fun _ _ => List.not_mem_nil)) (.inl mw.settle) fx0 (fun q hq => by
          simp only [List.mem_cons, List.not_mem_nil, or_false] at hq
          rcases hq with rfl | rfl | rfl | rfl
          · exact fy
          · exact fp1
          · exact fp2
          · exact fp3) (fun q hx hq => by
          simp only [List.mem_cons, List.not_mem_nil, or_false] at hq
          rcases hq with rfl | rfl | rfl | rfl
          · exact yxs hx
          · exact p1xs hx
          · exact p2xs hx
          · exact p3xs hx) (fun h => by obtain ⟨o, ho⟩ := so7.has p h; rw [show H7 p = none from np] at ho; cases ho) (fun h => by obtain ⟨o, ho⟩ := mo7.has p h; rw [show H7 p = none from np] at ho; cases ho) (gF.g.free np)
      · obtain ⟨d, ds, _, ⟨⟨sx, hs1⟩, _, _, _⟩⟩ := id so1
        fail "go"
        refine ⟨R, s, a, L, z, m, ms, rfl, s1, ha, hL, hdev, so1, fun H2 x xs g2 fx so2 => ?_⟩
        have mo2 := mo1.frame g2 (fun _ _ => List.not_mem_nil)
        have h2 := g2.same _ _ h1
        have s2 := g2.rh
        have gA : Mu [b] R H H2 := ⟨g1.g.trans g2.nil⟩
        have fx0 : ∀ q ∈ xs, H q = none := fun q hq => g1.g.free (fx q hq)
        clear g1 g2 so1 mo1 h1 s1 hs1
        fail "go"
        refine ⟨R, g, z, m, gs, rfl, s2, mo2, fun H3 y ys g3 fy mo3 => ?_⟩
        have so3 := so2.frame g3 (fun _ _ => List.not_mem_nil)
        have h3 := g3.same _ _ h2
        have s3 := g3.rh
        have gD : Mu [b] R H H3 := ⟨gA.g.trans g3.nil⟩
        have fy0 : ∀ q ∈ ys, H q = none := fun q hq => gA.g.free (fy q hq)
        have djxy : Dj xs ys := (Dj.new fy so2.has).symm
        clear so2 mo2 h2 s2 gA g3
        fail "go"
        refine ⟨by fail "sz", ?_⟩
        fail "newM"
        rename_i p H6 np g6 mp hp s6
        exact hq H6 p x y _ xs ys (gD.g.trans g6.g.nil) ⟨_, g6.g.same _ _ h3⟩ hp (so3.frame g6.g (fun _ _ => List.not_mem_nil)) (mo3.frame g6.g (fun _ _ => List.not_mem_nil)) (.inr rfl) fx0 fy0 djxy (fun h => by obtain ⟨o, ho⟩ := so3.has p h; rw [show H3 p = none from np] at ho; cases ho) (fun h => by obtain ⟨o, ho⟩ := mo3.has p h; rw [show H3 p = none from np] at ho; cases ho) (gD.g.free np)
end
def spCount (C : Addr) : Sp := fun vs H Q _ => ∃ (d a l1 l2 l3 : Addr), vs = [.ref d] ∧ DevAt C H d a l1 l2 l3 ∧ Q .non H
section
variable {P : Program} {w : World} {K : PySem.W.Frag} {mg : Str → Option Value} {base : Heap}
theorem ok_Device__count_command (T : Txt P K mg) : FnOk P w K mg base CX0 1 T.f_Device__count_command T.fd_Device__count_command ["self"] (spCount T.C_Device) := by
  have cl_Device := T.cl_Device
  have a_Device_dark := T.a_Device_dark
  have a_Device_fuse := T.a_Device_fuse
  refine T.F_Device__count_command.ok sc_Device__count_command (fun vs H Q E h => ?_) (fun cdv A outer s H vs Q E hr h => ?_)
  · obtain ⟨d, a, l1, l2, l3, rfl, ⟨dx, hd⟩, hq⟩ := h
    rfl
  · obtain ⟨d, a, l1, l2, l3, rfl, ⟨dx, hd⟩, hq⟩ := h
    refine ⟨_, (pss_cons (ps_if (PW.pt (pw_or (pt_cmpR opIsU (pe_fldK (K := K) (pv 0) rfl) pe_non (nomark _)) (pw_or1 (pt_truthK (K := K) (pe_fldK (K := K) (pv 0) rfl) (by intro _; rfl))))) (pss_one ps_retN) pss_nil)
      (pss_one (ps_if (pt_cmpR (opEqU (K := K) hr.units) (pe_fldK (K := K) (pv 0) rfl) pe_int (nomark _)) (pss_one (ps_fld (pv 0) pe_bl rfl)) (pss_one (ps_fld (pv 0) (pe_op opSubU (pe_fldK (K := K) (pv 0) rfl) pe_int) rfl))))), ?_⟩
    try dsimp only [cxOf]
    have r0 := Same.refl H
    fail "go"
    exact hq
end
def spDevWrite (K : PySem.W.Frag) (CD : Addr) : Sp := fun vs H Q _ => ∃ (R : Hp) (d a : Addr) (m : Rows) (ds : List Addr) (v : V) (n : Nat) (c : Cell), vs = [.ref d, .int (n : Int), v] ∧ Same R H ∧ DevOk K CD R H d a m ds ∧ n < m.seen.length ∧ m.wait.length ≤ 100 ∧ Dp K R v (cellD c) ∧
  ∀ R' H', Gr ds R H R' H' → DevOk K CD R' H' d a (m.put n c) ds → Q .non H'
section
variable {P : Program} {w : World} {K : PySem.W.Frag} {mg : Str → Option Value} {base : Heap}
theorem ok_Device_write (T : Txt P K mg) : FnOk P w K mg base CX0 2 T.f_Device_write T.fd_Device_write ["self", "address", "block"] (spDevWrite K T.C_Device) := by
  have cl_Device := T.cl_Device
  have a_Device_seen := T.a_Device_seen
  have a_Device_dark := T.a_Device_dark
  have a_Device_waiting := T.a_Device_waiting
  have G_Device__count_command := ok_Device__count_command (P := P) (w := w) (base := base) T
  refine T.F_Device_write.ok sc_Device_write (fun vs H Q E h => ?_) (fun cdv A outer s H vs Q E hr h => ?_)
  · obtain ⟨R, d, a, m, ds, v, n, c, rfl, sR, ⟨l1, l2, l3, rfl, dv⟩, hn, hw, dc, hq⟩ := h
    rfl
  · obtain ⟨R, d, a, m, ds, v, n, c, rfl, sR, ⟨l1, l2, l3, rfl, dv⟩, hn, hw, dc, hq⟩ := h
    refine ⟨_, (pss_cons (ps_expr (pe_meth0 (pv 0) T.cl_Device T.m_Device__count_command G_Device__count_command (hr.mono (by decide)) T.b_Device__count_command .nil pass0))
      (pss_cons (ps_asg (pv 2) (pg_sub (pe_fldK (K := K) (pv 0) rfl) (pv 1) set_list))
      (pss_one (ps_if (pt_not (pt_truthK (K := K) (pe_fldK (K := K) (pv 0) rfl) (by intro _; rfl))) (pss_one (ps_expr (pe_bm PySem.F.plainAttrs_list PySem.F.slot_list_append PySem.F.type_list_append mt_append (pe_fldK (K := K) (pv 0) rfl) (pa_cons (pe_tup (pa_cons (pv 1) (pa_cons (pv 2) pa_nil))) pa_nil)))) pss_nil)))), ?_⟩
    try dsimp only [cxOf]
    have has := dv.has
    obtain ⟨⟨dx, hd⟩, nd, non, u1, u2, u3, h1, h2, h3, d1, d2, d3⟩ := dv
    obtain ⟨e01, e02, e03, e12, e13, e23⟩ := nod4 nd
    have R2 := non l2 (by simp)
    have R3 := non l3 (by simp)
    have ul2 : u2.length = m.seen.length := by have := dpAll_len d2; simpa using this
    have ul3 : u3.length = m.wait.length := by have := dpAll_len d3; simpa using this
    fail "go"
    refine ⟨d, a, l1, l2, l3, rfl, ⟨_, hd⟩, ?_⟩
    fail "go"
    refine g_setL (j := n) h2 (ixN_nat (by omega)) ?_
    fail "mut"
    rename_i H1 g1 h12 s1
    have hd1 := g1.g.hh _ _ (nin1 e02) hd
    have h31 := g1.g.hh _ _ (nin1 e23.symm) h3
    have h11 := g1.g.hh _ _ (nin1 e12) h1
    clear hd h1 h2 h3
    fail "go"
    refine ⟨false, rfl, ?_⟩
    fail "go"
    refine ⟨by fail "sz", ?_⟩
    fail "newR"
    rename_i p H2 R' f2 g2 h2' s2
    have h32 := g2.same _ _ h31
    have h22 := g2.same _ _ h12
    have hd2 := g2.same _ _ hd1
    have h13 := g2.same _ _ h11
    have gA : Gr [l2] R H R' H2 := g1.g.trans g2.nil
    have R3' : R' l3 = none := gA.fr _ _ (has l3 (by simp)).choose_spec R3
    have d1' := dpAll_mono g2.rr d1
    have d2' := dpAll_mono g2.rr d2
    have d3' := dpAll_mono g2.rr d3
    have dc' := dp_mono g2.rr dc
    clear g1 g2 h12 h31 hd1 h11 s1 sR d1 d2 d3 dc
    fail "go"
    rename_i H3 g3 h3' s3
    have gB : Gr [d, l1, l2, l3] R H R' H3 := (gA.mono (by simp)).trans (g3.g.mono (by simp))
    refine hq R' H3 gB ⟨l1, l2, l3, rfl, ⟨⟨dx, g3.g.hh _ _ (nin1 e03) hd2⟩, nd, non_of has non gB, u1, u2.set n v, u3 ++ [.ref p], g3.g.hh _ _ (nin1 e13) h13, g3.g.hh _ _ (nin1 e23) h22, h3', d1', ?_, ?_⟩⟩
    · show DpAll K R' _ ((m.seen.set n c).map cellD)
      rw [List.map_set]
      exact dpAll_set n d2' dc'
    · show DpAll K R' _ ((m.wait ++ [(n, c)]).map wtD)
      rw [List.map_append]
      exact dpAll_app d3' (.cons (.tup (SqT.of h2') (.cons (.int _) (.cons dc' .nil))) .nil)
end
def OctInv (R : Hp) (n : Int) (k : Nat) (p : Addr) (i : Nat) (σ : St) (H : Hp) : Prop := ∃ x : Option V, σ = [some (.int (lowsRest n i)), some (.int (k : Int)), some (.ref p), x] ∧ Same R H ∧ H p = some (.lst ((lows n i).map V.int))
section
variable {P : Program} {w : World} {K : PySem.W.Frag} {mg : Str → Option Value} {base : Heap}
theorem ok_number_octets (T : Txt P K mg) : FnOk P w K mg base CX0 1 T.f_number_octets T.fd_number_octets ["number", "count"] (spOctets) := by
  refine T.F_number_octets.ok sc_number_octets (fun vs H Q E h => ?_) (fun cdv A outer s H vs Q E hr h => ?_)
  · obtain ⟨n, k, rfl, hk, hq⟩ := h
    rfl
  · obtain ⟨n, k, rfl, hk, hq⟩ := h
    refine ⟨_, (pss_cons (ps_set (i := 2) sc_number_octets.nd rfl (by first | exact Or.inl rfl | exact Or.inr rfl) (pe_lst pa_nil))
      (pss_cons (ps_for PassesOwn.never rfl (pi_range1 rfl T.n_range (pa_cons (pv 1) pa_nil)) (pg_name (i := 3) sc_number_octets.nd rfl (by first | exact Or.inl rfl | exact Or.inr rfl)) (pss_cons (ps_expr (pe_bm PySem.F.plainAttrs_list PySem.F.slot_list_append PySem.F.type_list_append mt_append (pv 2) (pa_cons (pe_op opModU (pv 0) pe_int) pa_nil)))
      (pss_one (ps_set (i := 0) sc_number_octets.nd rfl (by first | exact Or.inl rfl | exact Or.inr rfl) (pe_op opFloorDivU (pv 0) pe_int)))))
      (pss_one (ps_ret (pv 2))))), ?_⟩
    try dsimp only [cxOf]
    have r0 := Same.refl H
    fail "go"
    refine ⟨by fail "sz", ?_⟩
    fail "newM"
    rename_i p H1 n1 g1 m1 h1 s1
    fail "go"
    refine g_R1W rfl (by omega) ?_
    refine for_range (lo := 0) (n := k) (OctInv H n k p) ⟨none, rfl, s1, h1⟩ ?_ ?_
    · rintro i σ H2 hi ⟨x0, rfl, s2, h2⟩
      fail "go"
      rename_i H3 g3 h3 s3
      refine ⟨some (.int (0 + (i : Int))), ?_, s3, ?_⟩
      · rw [lowsRest_succ]; rfl
      · rw [lows_succ, List.map_append]; exact h3
    · rintro σ H2 ⟨x0, rfl, s2, h2⟩
      fail "go"
      exact hq _ _ s2 m1 h2
end
def spPairs (K : PySem.W.Frag) : Sp := fun vs H Q _ => ∃ (a : Addr) (ns : List Int), vs = [.ref a] ∧ SqT K H a (ns.map V.int) ∧ ns.length ≤ 300 ∧ ∀ p H', Same H H' → H p = none → H' p = some (.lst ((pairs ns).map V.int)) → Q (.ref p) H'
def PairInv (R : Hp) (a : Addr) (ns : List Int) (p : Addr) (i : Nat) (σ : St) (H : Hp) : Prop := ∃ x : Option V, σ = [some (.ref a), some (.ref p), x] ∧ Same R H ∧ H p = some (.lst ((pairs (ns.take i)).map V.int))
section
variable {P : Program} {w : World} {K : PySem.W.Frag} {mg : Str → Option Value} {base : Heap}
theorem ok_pairs_of (T : Txt P K mg) : FnOk P w K mg base CX0 1 T.f_pairs_of T.fd_pairs_of ["numbers"] (spPairs K) := by
  refine T.F_pairs_of.ok sc_pairs_of (fun vs H Q E h => ?_) (fun cdv A outer s H vs Q E hr h => ?_)
  · obtain ⟨a, ns, rfl, ha, hk, hq⟩ := h
    rfl
  · obtain ⟨a, ns, rfl, ha, hk, hq⟩ := h
    refine ⟨_, (pss_cons (ps_set (i := 1) sc_pairs_of.nd rfl (by first | exact Or.inl rfl | exact Or.inr rfl) (pe_lst pa_nil))
      (pss_cons (ps_for PassesOwn.never rfl (pi_tupK (K := K) (pv 0)) (pg_name (i := 2) sc_pairs_of.nd rfl (by first | exact Or.inl rfl | exact Or.inr rfl)) (pss_cons (ps_expr (pe_bm PySem.F.plainAttrs_list PySem.F.slot_list_append PySem.F.type_list_append mt_append (pv 1) (pa_cons (pe_op opModU (pv 2) pe_int) pa_nil)))
      (pss_one (ps_expr (pe_bm PySem.F.plainAttrs_list PySem.F.slot_list_append PySem.F.type_list_append mt_append (pv 1) (pa_cons (pe_op opFloorDivU (pv 2) pe_int) pa_nil))))))
      (pss_one (ps_ret (pv 1))))), ?_⟩
    try dsimp only [cxOf]
    have r0 := Same.refl H
    fail "go"
    refine ⟨by fail "sz", ?_⟩
    fail "newM"
    rename_i p H1 n1 g1 m1 h1 s1
    fail "go"
    refine g_TsW (by fail "sq") ?_
    refine for_tup (K := K) (xs := ns.map V.int) (PairInv H a ns p) ⟨none, rfl, s1, h1⟩ (fun i σ H2 _ ⟨_, _, s2, _⟩ => sqT_mono s2 ha) ?_ ?_
    · rintro i x σ H2 hi ⟨x0, rfl, s2, h2⟩
      obtain ⟨n, hn, rfl⟩ := map_get hi
      have hil : i < ns.length := (List.getElem?_eq_some_iff.mp hn).1
      have htl : (ns.take i).length = i := by rw [List.length_take]; omega
      fail "go"
      rename_i H3 g3 h3 s3
      refine ⟨_, rfl, s3, ?_⟩
      rw [take_snoc hn, pairs_snoc, List.map_append]
      rw [h3, List.append_assoc]; rfl
    · rintro σ H2 ⟨x0, rfl, s2, h2⟩
      rw [List.length_map, List.take_length] at h2
      fail "go"
      exact hq _ _ s2 m1 h2
end
def spSummary (K : PySem.W.Frag) (C : Addr) : Sp := fun vs H Q _ => ∃ (a t : Addr) (L : Lay) (ns : List Int) (mk act : Int), vs = [.ref a, .int mk, .ref t, .int act] ∧ LayAt C H a L ∧ L.Ok ∧ SqT K H t (ns.map V.int) ∧ (ns.length : Int) ≤ L.payload ∧
  ∀ p H' l, Same H H' → H p = none → H' p = some (.lst ((l : List Int).map V.int)) → l.getD 0 0 = 83 → l.getD 3 0 = 83 → l.length ≤ 400 → Q (.ref p) H'
section
variable {P : Program} {w : World} {K : PySem.W.Frag} {mg : Str → Option Value} {base : Heap}
theorem ok_summary_octets (T : Txt P K mg) : FnOk P w K mg base CX0 2 T.f_summary_octets T.fd_summary_octets ["layout", "mark", "numbers", "action"] (spSummary K T.C_Layout) := by
  have cl_Layout := T.cl_Layout
  have a_Layout_payload := T.a_Layout_payload
  have G_number_octets := ok_number_octets (P := P) (w := w) (base := base) T
  have G_pairs_of := ok_pairs_of (P := P) (w := w) (base := base) T
  refine T.F_summary_octets.ok sc_summary_octets (fun vs H Q E h => ?_) (fun cdv A outer s H vs Q E hr h => ?_)
  · obtain ⟨a, t, L, ns, mk, act, rfl, ⟨dx, ha⟩, hL, ht, hn, hq⟩ := h
    rfl
  · obtain ⟨a, t, L, ns, mk, act, rfl, ⟨dx, ha⟩, hL, ht, hn, hq⟩ := h
    refine ⟨_, (pss_cons (ps_set (i := 4) sc_summary_octets.nd rfl (by first | exact Or.inl rfl | exact Or.inr rfl) (pe_op (opAddU (K := K)) (pe_op (opAddU (K := K)) (pe_op (opAddU (K := K)) (pe_callTy (callListU (K := K)) (by rfl) T.n_list (by decide +kernel) (pa_cons (pe_glob rfl T.g_LETTERS_bodies T.r_LETTERS_bodies) pa_nil)) (pe_lst (pa_cons (pv 1) pa_nil))) (pe_call G_number_octets (hr.mono (by decide)) rfl T.g_number_octets T.F_number_octets.kp T.b_number_octets .nil pass0 (pa_cons (pe_callB (callLenU (K := K)) (by rfl) T.n_len (by decide +kernel) (pa_cons (pv 2) pa_nil)) (pa_cons pe_int pa_nil)))) (pe_lst (pa_cons (pv 3) pa_nil))))
      (pss_cons (ps_set (i := 4) sc_summary_octets.nd rfl (by first | exact Or.inl rfl | exact Or.inr rfl) (pe_op (opAddU (K := K)) (pv 4) (pe_op opMultU (pe_lst (pa_cons pe_int pa_nil)) (pe_op opSubU (pe_glob rfl T.g_HEADER T.r_HEADER) (pe_callB (callLenU (K := K)) (by rfl) T.n_len (by decide +kernel) (pa_cons (pv 4) pa_nil))))))
      (pss_one (ps_ret (pe_op (opAddU (K := K)) (pe_op (opAddU (K := K)) (pv 4) (pe_call G_pairs_of (hr.mono (by decide)) rfl T.g_pairs_of T.F_pairs_of.kp T.b_pairs_of .nil pass0 (pa_cons (pv 2) pa_nil))) (pe_op opMultU (pe_lst (pa_cons pe_int pa_nil)) (pe_op opMultU pe_int (pe_op opSubU (pe_fldK (K := K) (pv 0) rfl) (pe_callB (callLenU (K := K)) (by rfl) T.n_len (by decide +kernel) (pa_cons (pv 2) pa_nil)))))))))), ?_⟩
    try dsimp only [cxOf]
    have r0 := Same.refl H
    have b2 := hL.b2
    have pl : L.payload = L.blk - 1 := rfl
    fail "go"
    refine g_listT (T.q_LETTERS_bodies _) ?_
    fail "newM"
    rename_i p1 H1 n1 g1 m1 h1 s1
    fail "go"
    refine ⟨by fail "sz", ?_⟩
    fail "newM"
    rename_i p2 H2 n2 g2 m2 h2 s2
    refine g_catI (l := [83, 71, 70, 83]) (m := [mk]) (g2.g.same _ _ h1) h2 (by simp) ?_
    fail "newM"
    rename_i p3 H3 n3 g3 m3 h3 s3
    clear h1 h2 g1 g2 g3
    have ht3 := sqT_mono s3 ht
    fail "go"
    fail "ret"
    rename_i p4 H4 h4 f4 g4 m4 s4
    refine g_catI (g4.g.same _ _ h3) h4 (by simp) ?_
    fail "newM"
    rename_i p5 H5 n5 g5 m5 h5 s5
    fail "go"
    refine ⟨by fail "sz", ?_⟩
    fail "newM"
    rename_i p6 H6 n6 g6 m6 h6 s6
    refine g_catI (m := [act]) (g6.g.same _ _ h5) h6 (by simp) ?_
    fail "newM"
    rename_i p7 H7 n7 g7 m7 h7 s7
    clear h3 h4 h5 h6 g4 g5 g6 s3 s4 s5 s6 g7
    fail "go"
    refine ⟨by fail "sz", ?_⟩
    fail "newM"
    rename_i p8 H8 n8 g8 m8 h8 s8
    have h78 := g8.g.same _ _ h7
    fail "go"
    rw [List.length_map]
    refine g_repZ h8 (by simp) (by simp) ?_
    fail "newM"
    rename_i p9 H9 n9 g9 m9 h9 s9
    refine g_catI (g9.g.same _ _ h78) h9 (by simp) ?_
    fail "newM"
    rename_i pA HA nA gA mA hA sA
    clear h7 h78 h8 h9 g8 g9 gA s8 s9 s7
    have htA := sqT_mono sA ht
    have haA := sA _ _ ha
    fail "go"
    refine ⟨t, ns, rfl, htA, by omega, ?_⟩
    fail "ret"
    rename_i pB HB hB fB gB mB sB
    generalize hZ : (List.replicate _ (0 : Int)) = Z at hA
    have zl : Z.length ≤ 16 := by rw [← hZ]; simp
    refine g_catI (gB.g.same _ _ hA) hB (by simp; omega) ?_
    fail "newM"
    rename_i pC HC nC gC mC hC sC
    have htC := sqT_mono sC ht
    have haC := sC _ _ ha
    clear hA hB gB sB htA haA sA gC
    fail "go"
    refine ⟨by fail "sz", ?_⟩
    fail "newM"
    rename_i pD HD nD gD mD hD sD
    have hCD := gD.g.same _ _ hC
    have htD := sqT_mono sD ht
    have haD := sD _ _ ha
    fail "go"
    rw [List.length_map]
    refine g_repZ hD (by omega) (by omega) ?_
    fail "newM"
    rename_i pE HE nE gE mE hE sE
    refine g_catI (gE.g.same _ _ hCD) hE (by simp; omega) ?_
    fail "newM"
    rename_i pF HF nF gF mF hF sF
    exact hq _ _ _ sF mF hF (by simp) (by simp) (by simp; omega)
end
def spBitsOf (K : PySem.W.Frag) : Sp := fun vs H Q _ => ∃ (u : Addr) (us : List Int) (n : Int), vs = [.ref u, .int n] ∧ SqT K H u (us.map V.int) ∧ 0 ≤ n ∧ n ≤ 1000 ∧ (∀ x ∈ us, 1 ≤ x ∧ x ≤ n) ∧ ∀ p H' l, Same H H' → H p = none → H' p = some (.lst ((l : List Int).map V.int)) → l.length ≤ 200 → Q (.ref p) H'
def BitsInv (H : Hp) (u p : Addr) (n : Int) (z : Nat) (σ : St) (H' : Hp) : Prop := ∃ (x : Option V) (l : List Int), σ = [some (.ref u), some (.int n), some (.ref p), x] ∧ Same H H' ∧ H' p = some (.lst (l.map V.int)) ∧ l.length = z
def bitW (j : Int) : Int := [1, 2, 4, 8, 16, 32, 64, 128].getD j.toNat 0
theorem bit_at {j : Int} (h0 : 0 ≤ j) (h1 : j < 8) : atI ([.int 1, .int 2, .int 4, .int 8, .int 16, .int 32, .int 64, .int 128] : List V) j = some (.int (bitW j)) ∧ 0 < bitW j ∧ bitW j ≤ 128 := by
  have : j = 0 ∨ j = 1 ∨ j = 2 ∨ j = 3 ∨ j = 4 ∨ j = 5 ∨ j = 6 ∨ j = 7 := by omega
  rcases this with rfl | rfl | rfl | rfl | rfl | rfl | rfl | rfl <;> exact ⟨rfl, by decide, by decide⟩
section
variable {P : Program} {w : World} {K : PySem.W.Frag} {mg : Str → Option Value} {base : Heap}
theorem ok_bits_of (T : Txt P K mg) : FnOk P w K mg base CX0 2 T.f_bits_of T.fd_bits_of ["used", "last_id"] (spBitsOf K) := by
  have G_parts_of := ok_parts_of (P := P) (w := w) (base := base) T
  refine T.F_bits_of.ok sc_bits_of (fun vs H Q E h => ?_) (fun cdv A outer s H vs Q E hr h => ?_)
  · obtain ⟨u, us, n, rfl, hu, n0, n1, hx, hq⟩ := h
    rfl
  · obtain ⟨u, us, n, rfl, hu, n0, n1, hx, hq⟩ := h
    refine ⟨_, (pss_cons (ps_set (i := 2) sc_bits_of.nd rfl (by first | exact Or.inl rfl | exact Or.inr rfl) (pe_op opMultU (pe_lst (pa_cons pe_int pa_nil)) (pe_call G_parts_of (hr.mono (by decide)) rfl T.g_parts_of T.F_parts_of.kp T.b_parts_of .nil pass0 (pa_cons (pv 1) (pa_cons pe_int pa_nil)))))
      (pss_cons (ps_for PassesOwn.never rfl (pi_tupK (K := K) (pv 0)) (pg_name (i := 3) sc_bits_of.nd rfl (by first | exact Or.inl rfl | exact Or.inr rfl)) (pss_one (ps_augS (pv 2) (pe_op opFloorDivU (pe_op opSubU (pv 3) pe_int) pe_int) (pgetLK (K := K)) (pe_ix (ixU (K := K)) (pe_glob rfl T.g_BITS T.r_BITS) (pe_op opModU (pe_op opSubU (pv 3) pe_int) pe_int) (fun _ _ => rfl)) ip_add set_list)))
      (pss_one (ps_ret (pv 2))))), ?_⟩
    try dsimp only [cxOf]
    have r0 := Same.refl H
    fail "go"
    refine ⟨by fail "sz", ?_⟩
    fail "newM"
    rename_i p1 H1 n1' g1 m1 h1 s1
    fail "go"
    have pn : partsOf n 8 = (n + 7) / 8 := by unfold partsOf; congr 1; omega
    refine g_repZ h1 (by omega) (by omega) ?_
    fail "newM"
    rename_i p H2 n2 g2 m2 h2 s2
    fail "go"
    refine g_TsW (sqT_mono s2 hu) ?_
    refine for_tup (K := K) (xs := us.map V.int) (fun _ => BitsInv H u p n (partsOf n 8).toNat) ⟨none, _, rfl, s2, h2, by simp⟩ (fun i σ HX _ ⟨_, _, _, sX, _⟩ => sqT_mono sX hu) ?_ ?_
    · clear h1 h2 s1 s2 g1 g2 r0
      rintro i x σ H3 hi ⟨x0, l, rfl, s3, h3, hl⟩
      obtain ⟨o, ho, rfl⟩ := map_get hi
      obtain ⟨o1, o2⟩ := hx o (List.mem_of_getElem? ho)
      obtain ⟨j, hj⟩ := Int.eq_ofNat_of_zero_le (show 0 ≤ (o - 1) / 8 by omega)
      have jl : j < l.length := by omega
      obtain ⟨b1, b2, b3⟩ := bit_at (j := (o - 1) % 8) (by omega) (by omega)
      fail "go"
      refine g_getL (j := j) (SqL.of h3) hj (by rw [List.getElem?_map, List.getElem?_eq_getElem jl]; rfl) ?_
      fail "go"
      refine g_ixT (T.q_BITS _) b1 ?_
      fail "go"
      rw [hj]
      refine g_setL (j := j) h3 (ixN_nat (by rw [List.length_map]; exact jl)) ?_
      fail "mut"
      rename_i H4 g4 h4 s4
      refine ⟨_, l.set j (l[j] + bitW ((o - 1) % 8)), rfl, s4, ?_, by rw [List.length_set]; exact hl⟩
      rw [h4, List.map_set]
    · rintro σ H3 ⟨x0, l, rfl, s3, h3, hl⟩
      fail "go"
      exact hq _ _ l s3 m2 h3 (by omega)
end
/-- the body of a COMMIT or a MOVE -/
def SumB (K : PySem.W.Frag) (H : Hp) (L : Lay) (k : Int) (v : V) : Prop := ∃ (p : Addr) (ns : List Int), SqT K H p (ns.map V.int) ∧ (ns.length : Int) ≤ L.payload ∧
  ((k = 2 ∧ v = .ref p) ∨ (k = 1 ∧ ∃ (q u : Addr) (us : List Int) (act : Int), v = .ref q ∧ SqT K H q [.ref p, .ref u, .int act] ∧ SqT K H u (us.map V.int) ∧ (∀ x ∈ us, 1 ≤ x ∧ x ≤ L.lastId)))
theorem SumB.mono {K : PySem.W.Frag} {H H' : Hp} {L : Lay} {k : Int} {v : V} (s : Same H H') (h : SumB K H L k v) : SumB K H' L k v := by
  obtain ⟨p, ns, hp, hl, h⟩ := h
  refine ⟨p, ns, sqT_mono s hp, hl, ?_⟩
  rcases h with h | ⟨h, q, u, us, act, e, hq, hu, hx⟩
  · exact .inl h
  · exact .inr ⟨h, q, u, us, act, e, sqT_mono s hq, sqT_mono s hu, hx⟩
theorem last_big {L : Lay} (h : L.Ok) : 0 ≤ L.lastId ∧ L.lastId ≤ 1000 := by
  have := h.fits; have := h.o1; have := h.s1; have := h.s2; have := h.b1; have := h.b2
  unfold partsOf at *
  have e : L.payload = L.blk - 1 := rfl
  have e2 : L.lastId = (L.seg - 2) * L.payload + L.payload := rfl
  have h1 : 0 ≤ (L.seg - 2) * L.payload := Int.mul_nonneg (by omega) (by omega)
  have h2 : (L.seg - 2) * L.payload ≤ 14 * L.payload := Int.mul_le_mul_of_nonneg_right (by omega) (by omega)
  omega
def spBody (K : PySem.W.Frag) (C : Addr) : Sp := fun vs H Q _ => ∃ (a t : Addr) (L : Lay) (k : Int), vs = [.ref a, .int k, .ref t] ∧ LayAt C H a L ∧ L.Ok ∧ ((∃ ns : List Int, 3 ≤ k ∧ SqT K H t (ns.map V.int) ∧ ns.length ≤ 300 ∧
  ∀ p H', Same H H' → H p = none → H' p = some (.lst ((bodyOf L k ns).map V.int)) → Q (.ref p) H') ∨ (SumB K H L k (.ref t) ∧ ∀ p H' l, Same H H' → H p = none → H' p = some (.lst ((l : List Int).map V.int)) → l.getD 0 0 = 83 → l.getD 3 0 = 83 → l.length ≤ 2000 → Q (.ref p) H'))
def BodyMid (R : Hp) (a t : Addr) (k : Int) (ns : List Int) (σ : St) (H : Hp) : Prop := ∃ p, σ = [some (.ref a), some (.int k), some (.ref t), some (.ref p)] ∧ Same R H ∧ R p = none ∧ H p = some (.lst ((found k ns).map V.int))
def BodySum (R : Hp) (a t : Addr) (k : Int) (σ : St) (H : Hp) : Prop := ∃ p l, σ = [some (.ref a), some (.int k), some (.ref t), some (.ref p)] ∧ Same R H ∧ R p = none ∧ H p = some (.lst ((l : List Int).map V.int)) ∧ l.getD 0 0 = 83 ∧ l.getD 3 0 = 83 ∧ l.length ≤ 1000 ∧ 4 ≤ l.length
theorem getD_app {l m : List Int} {i : Nat} (h : i < l.length) : (l ++ m).getD i 0 = l.getD i 0 := by
  rw [List.getD_eq_getElem?_getD, List.getD_eq_getElem?_getD, List.getElem?_append_left h]
theorem len4_of {l : List Int} (h : l.getD 3 0 = 83) : 4 ≤ l.length := by
  apply Classical.byContradiction
  intro z
  rw [List.getD_eq_getElem?_getD, List.getElem?_eq_none (by omega)] at h
  simp at h
local macro_rules | `(tactic| fail "calls") => `(tactic| ((with_reducible show spPairs _ _ _ _ _); refine ⟨_, _, rfl, by fail "sq", by fail "ar", ?_⟩))
section
variable {P : Program} {w : World} {K : PySem.W.Frag} {mg : Str → Option Value} {base : Heap}
theorem ok_body_octets (T : Txt P K mg) : FnOk P w K mg base CX0 3 T.f_body_octets T.fd_body_octets ["layout", "kind", "body"] (spBody K T.C_Layout) := by
  have cl_Layout := T.cl_Layout
  have a_Layout_last_id := T.a_Layout_last_id
  have a_Layout_block_size := T.a_Layout_block_size
  have G_summary_octets := ok_summary_octets (P := P) (w := w) (base := base) T
  have G_bits_of := ok_bits_of (P := P) (w := w) (base := base) T
  have G_pairs_of := ok_pairs_of (P := P) (w := w) (base := base) T
  refine T.F_body_octets.ok sc_body_octets (fun vs H Q E h => ?_) (fun cdv A outer s H vs Q E hr h => ?_)
  · obtain ⟨a, t, L, k, rfl, ⟨dx, ha⟩, hL, hcase⟩ := h
    rfl
  · obtain ⟨a, t, L, k, rfl, ⟨dx, ha⟩, hL, hcase⟩ := h
    refine ⟨_, (pss_cons (ps_if (pt_cmpR (opEqU (K := K) hr.units) (pv 1) (pe_glob rfl T.g_COMMIT T.r_COMMIT) (nomark _)) (pss_one (ps_set (i := 3) sc_body_octets.nd rfl (by first | exact Or.inl rfl | exact Or.inr rfl) (pe_op (opAddU (K := K)) (pe_call G_summary_octets (hr.mono (by decide)) rfl T.g_summary_octets T.F_summary_octets.kp T.b_summary_octets .nil pass0 (pa_cons (pv 0) (pa_cons pe_int (pa_cons (pe_ix (ixU (K := K)) (pv 2) pe_int (fun _ _ => rfl)) (pa_cons (pe_ix (ixU (K := K)) (pv 2) pe_int (fun _ _ => rfl)) pa_nil))))) (pe_call G_bits_of (hr.mono (by decide)) rfl T.g_bits_of T.F_bits_of.kp T.b_bits_of .nil pass0 (pa_cons (pe_ix (ixU (K := K)) (pv 2) pe_int (fun _ _ => rfl)) (pa_cons (pe_fldK (K := K) (pv 0) rfl) pa_nil)))))) (pss_one (ps_if (pt_cmpR (opEqU (K := K) hr.units) (pv 1) (pe_glob rfl T.g_MOVE T.r_MOVE) (nomark _)) (pss_one (ps_set (i := 3) sc_body_octets.nd rfl (by first | exact Or.inl rfl | exact Or.inr rfl) (pe_call G_summary_octets (hr.mono (by decide)) rfl T.g_summary_octets T.F_summary_octets.kp T.b_summary_octets .nil pass0 (pa_cons (pv 0) (pa_cons pe_int (pa_cons (pv 2) (pa_cons pe_int pa_nil))))))) (pss_one (ps_if (pt_cmpR (opEqU (K := K) hr.units) (pv 1) (pe_glob rfl T.g_DATA T.r_DATA) (nomark _)) (pss_one (ps_set (i := 3) sc_body_octets.nd rfl (by first | exact Or.inl rfl | exact Or.inr rfl) (pe_callTy (callListU (K := K)) (by rfl) T.n_list (by decide +kernel) (pa_cons (pv 2) pa_nil)))) (pss_one (ps_set (i := 3) sc_body_octets.nd rfl (by first | exact Or.inl rfl | exact Or.inr rfl) (pe_call G_pairs_of (hr.mono (by decide)) rfl T.g_pairs_of T.F_pairs_of.kp T.b_pairs_of .nil pass0 (pa_cons (pv 2) pa_nil)))))))))
      (pss_one (ps_ret (pe_op (opAddU (K := K)) (pv 3) (pe_op opMultU (pe_lst (pa_cons pe_int pa_nil)) (pe_op opSubU (pe_fldK (K := K) (pv 0) rfl) (pe_callB (callLenU (K := K)) (by rfl) T.n_len (by decide +kernel) (pa_cons (pv 3) pa_nil)))))))), ?_⟩
    try dsimp only [cxOf]
    have r0 := Same.refl H
    rcases hcase with ⟨ns, hk, ht, hl, hq⟩ | ⟨hsum, hq⟩
    · refine g_seqIN (BodyMid H a t k ns) ?_ (fun N rest => ?_)
      · rintro σ H1 ⟨p, rfl, s1, m1, h1⟩
        fail "go"
        refine ⟨by fail "sz", ?_⟩
        fail "newM"
        rename_i z H2 n2 g2 m2 h2 s2
        fail "go"
        have f1 := found_len (k := k) (l := ns)
        have o1 := hL.o1
        rw [List.length_map]
        refine g_repZ (by fail "hp") (by omega) (by omega) ?_
        fail "newM"
        rename_i y H3 n3 g3 m3 h3 s3
        fail "go"
        refine g_catI (l := found k ns) (by fail "hp") h3 (by rw [List.length_replicate]; omega) ?_
        fail "newM"
        rename_i w H4 n4 g4 m4 h4 s4
        exact hq _ _ s4 m4 h4
      · fail "go"
        refine g_iteF (decide_eq_false (by omega)) ?_
        fail "go"
        refine g_iteF (decide_eq_false (by omega)) ?_
        fail "go"
        refine g_ite (fun e => ?_) (fun e => ?_)
        · fail "go"
          refine g_listT (by fail "sq") ?_
          fail "newM"
          rename_i p H1 n1 g1 m1 h1 s1
          fail "go"
          refine rest _ _ ⟨p, rfl, s1, m1, ?_⟩
          rw [found, if_pos e]; exact h1
        · fail "go"
          intro p H1 s1 n1 h1
          fail "go"
          refine rest _ _ ⟨p, rfl, s1, n1, ?_⟩
          rw [found, if_neg e]; exact h1
    · refine g_seqIN (BodySum H a t k) ?_ (fun N rest => ?_)
      · rintro σ H1 ⟨p, l, rfl, s1, m1, h1, l0, l3, ll, l4⟩
        have o1 := hL.o1
        fail "go"
        refine ⟨by fail "sz", ?_⟩
        fail "newM"
        rename_i z H2 n2 g2 m2 h2 s2
        have h12 := g2.g.same _ _ h1
        have ha2 := s2 _ _ ha
        fail "go"
        rw [List.length_map]
        refine g_repZ h2 (by omega) (by omega) ?_
        fail "newM"
        rename_i y H3 n3 g3 m3 h3 s3
        refine g_catI (l := l) (g3.g.same _ _ h12) h3 (by rw [List.length_replicate]; omega) ?_
        fail "newM"
        rename_i w H4 n4 g4 m4 h4 s4
        exact hq _ _ _ s4 m4 h4 ((getD_app (by omega)).trans l0) ((getD_app (by omega)).trans l3) (by rw [List.length_append, List.length_replicate]; omega)
      · obtain ⟨p, ns, hp, hn, ⟨rfl, ev⟩ | ⟨rfl, q, u, us, act, ev, hqt, hu, hx⟩⟩ := hsum
        · cases ev
          fail "go"
          refine ⟨a, t, L, ns, 2, 0, rfl, ⟨dx, ha⟩, hL, hp, hn, fun p1 H1 l s1 n1 h1 l0 l3 ll => ?_⟩
          fail "go"
          exact rest _ _ ⟨p1, l, rfl, s1, n1, h1, l0, l3, by omega, len4_of l3⟩
        · cases ev
          obtain ⟨lb0, lb1⟩ := last_big hL
          fail "go"
          refine ⟨a, p, L, ns, 1, act, rfl, ⟨dx, ha⟩, hL, hp, hn, fun p1 H1 l s1 n1 h1 l0 l3 ll => ?_⟩
          have hq1 := sqT_mono s1 hqt
          have hu1 := sqT_mono s1 hu
          have ha1 := s1 _ _ ha
          fail "go"
          refine ⟨u, us, L.lastId, rfl, hu1, lb0, lb1, hx, fun p2 H2 l2 s2 n2 h2 ll2 => ?_⟩
          refine g_catI (s2 _ _ h1) h2 (by omega) ?_
          intro p3 n3
          have gg := Gr.newM (M := []) (o := .lst ((l ++ l2).map V.int)) (Same.refl H2) n3
          have s3 := s1.trans (s2.trans gg.same)
          fail "go"
          exact rest _ _ ⟨p3, l ++ l2, rfl, s3, (s1.trans s2).free n3, upd_same, (getD_app (by have := len4_of l3; omega)).trans l0, (getD_app (by have := len4_of l3; omega)).trans l3, by rw [List.length_append]; omega, by rw [List.length_append]; have := len4_of l3; omega⟩
end
local macro_rules | `(tactic| fail "calls") => `(tactic| ((with_reducible show spOctets _ _ _ _); first | refine ⟨_, 6, rfl, by omega, ?_⟩ | refine ⟨_, 2, rfl, by omega, ?_⟩ | refine ⟨_, 3, rfl, by omega, ?_⟩))
def spBlock (K : PySem.W.Frag) (C : Addr) : Sp := fun vs H Q _ => ∃ (a : Addr) (v : V) (L : Lay), vs = [.ref a, v] ∧ LayAt C H a L ∧ L.Ok ∧ ((∃ b : Option Blk, Dp K H v (optD b) ∧ BlkOk b ∧
  ∀ p H', Same H H' → H p = none → H' p = some (.lst ((octs L b).map V.int)) → Q (.ref p) H') ∨
  (∃ (t q : Addr) (k s z : Int), v = .ref t ∧ SqT K H t [.int k, .int s, .int z, .ref q] ∧ SumB K H L k (.ref q) ∧
  ∀ p H' l, Same H H' → H p = none → H' p = some (.lst ((l : List Int).map V.int)) → l.getD 16 0 = 83 → l.getD 19 0 = 83 → l.length ≤ 3000 → Q (.ref p) H'))
theorem getD_appR {l m : List Int} {n : Nat} (h : l.length = n) (i : Nat) : (l ++ m).getD (n + i) 0 = m.getD i 0 := by
  rw [List.getD_eq_getElem?_getD, List.getD_eq_getElem?_getD, List.getElem?_append_right (by omega), h, Nat.add_sub_cancel_left]
section
variable {P : Program} {w : World} {K : PySem.W.Frag} {mg : Str → Option Value} {base : Heap}
theorem ok_block_octets (T : Txt P K mg) : FnOk P w K mg base CX0 4 T.f_block_octets T.fd_block_octets ["layout", "block"] (spBlock K T.C_Layout) := by
  have cl_Layout := T.cl_Layout
  have a_Layout_block_size := T.a_Layout_block_size
  have G_number_octets := ok_number_octets (P := P) (w := w) (base := base) T
  have G_body_octets := ok_body_octets (P := P) (w := w) (base := base) T
  refine T.F_block_octets.ok sc_block_octets (fun vs H Q E h => ?_) (fun cdv A outer s H vs Q E hr h => ?_)
  · obtain ⟨a, v, L, rfl, ⟨dx, ha⟩, hL, hcase⟩ := h
    rfl
  · obtain ⟨a, v, L, rfl, ⟨dx, ha⟩, hL, hcase⟩ := h
    refine ⟨_, (pss_cons (ps_if (pt_cmpR opIsU (pv 1) pe_non (nomark _)) (pss_one (ps_ret (pe_op opMultU (pe_lst (pa_cons pe_int pa_nil)) (pe_op (opAddU (K := K)) (pe_glob rfl T.g_SPARE T.r_SPARE) (pe_fldK (K := K) (pv 0) rfl))))) pss_nil)
      (pss_cons (ps_asg (pv 1) (pg_tupK (K := K) rfl (pgs_cons (pg_name (i := 2) sc_block_octets.nd rfl (by first | exact Or.inl rfl | exact Or.inr rfl)) (pgs_cons (pg_name (i := 3) sc_block_octets.nd rfl (by first | exact Or.inl rfl | exact Or.inr rfl)) (pgs_cons (pg_name (i := 4) sc_block_octets.nd rfl (by first | exact Or.inl rfl | exact Or.inr rfl)) (pgs_cons (pg_name (i := 5) sc_block_octets.nd rfl (by first | exact Or.inl rfl | exact Or.inr rfl)) pgs_nil))))))
      (pss_cons (ps_set (i := 6) sc_block_octets.nd rfl (by first | exact Or.inl rfl | exact Or.inr rfl) (pe_op (opAddU (K := K)) (pe_op (opAddU (K := K)) (pe_lst (pa_cons (pv 2) pa_nil)) (pe_call G_number_octets (hr.mono (by decide)) rfl T.g_number_octets T.F_number_octets.kp T.b_number_octets .nil pass0 (pa_cons (pv 3) (pa_cons pe_int pa_nil)))) (pe_call G_number_octets (hr.mono (by decide)) rfl T.g_number_octets T.F_number_octets.kp T.b_number_octets .nil pass0 (pa_cons (pv 4) (pa_cons pe_int pa_nil)))))
      (pss_one (ps_ret (pe_op (opAddU (K := K)) (pe_op (opAddU (K := K)) (pv 6) (pe_op opMultU (pe_lst (pa_cons pe_int pa_nil)) (pe_op opSubU (pe_glob rfl T.g_SPARE T.r_SPARE) (pe_callB (callLenU (K := K)) (by rfl) T.n_len (by decide +kernel) (pa_cons (pv 6) pa_nil))))) (pe_call G_body_octets (hr.mono (by decide)) rfl T.g_body_octets T.F_body_octets.kp T.b_body_octets .nil pass0 (pa_cons (pv 0) (pa_cons (pv 2) (pa_cons (pv 5) pa_nil)))))))))), ?_⟩
    try dsimp only [cxOf]
    have r0 := Same.refl H
    have o1 := hL.o1
    rcases hcase with ⟨b, hv, hb, hq⟩ | ⟨t, q, k, s, z, rfl, ht, hsum, hq⟩
    · cases b with
      | none =>
        obtain rfl := dp_non hv
        fail "go"
        refine ⟨by fail "sz", ?_⟩
        fail "newM"
        rename_i z H2 n2 g2 m2 h2 s2
        fail "go"
        refine g_repZ (by fail "hp") (by omega) (by omega) ?_
        fail "newM"
        rename_i y H3 n3 g3 m3 h3 s3
        exact hq _ _ s3 m3 h3
      | some b =>
        obtain ⟨t, u, rfl, ht, hu⟩ := dpBlk hv
        obtain ⟨b1, b2⟩ := hb
        have bl := bodyOf_len (k := b.kind) hL b2
        fail "go"
        refine ⟨by fail "sz", ?_⟩
        fail "newM"
        rename_i z H1 n1 g1 m1 h1 s1
        fail "go"
        fail "ret"
        rename_i p2 H2 h2 f2 g2 m2 s2
        refine g_catI (l := [b.kind]) (by fail "hp") h2 (by simp) ?_
        fail "newM"
        rename_i p3 H3 n3 g3 m3 h3 s3
        fail "go"
        fail "ret"
        rename_i p4 H4 h4 f4 g4 m4 s4
        refine g_catI (by fail "hp") h4 (by simp) ?_
        fail "newM"
        rename_i p5 H5 n5 g5 m5 h5 s5
        fail "go"
        refine ⟨by fail "sz", ?_⟩
        fail "newM"
        rename_i p6 H6 n6 g6 m6 h6 s6
        fail "go"
        rw [List.length_map]
        refine g_repZ (by fail "hp") (by simp) (by simp) ?_
        fail "newM"
        rename_i p7 H7 n7 g7 m7 h7 s7
        refine g_catI (by fail "hp") h7 (by simp) ?_
        fail "newM"
        rename_i p8 H8 n8 g8 m8 h8 s8
        fail "go"
        refine ⟨a, u, L, _, rfl, ⟨dx, by fail "hp"⟩, hL, .inl ⟨_, b1, by fail "sq", b2, ?_⟩⟩
        fail "ret"
        rename_i p9 H9 h9 f9 g9 m9 s9
        fail "go"
        refine g_catI (by fail "hp") h9 (by simp; omega) ?_
        fail "newM"
        rename_i pA HA nA gA mA hA sA
        refine hq _ _ sA mA ?_
        rw [hA]
        have e7 : ((16 : Int) - (([b.kind] ++ lows b.seq 6 ++ lows b.place 2).length : Int)).toNat = 7 := by simp
        rw [e7]
        rfl
    · fail "go"
      refine ⟨by fail "sz", ?_⟩
      fail "newM"
      rename_i y H1 n1 g1 m1 h1 s1
      fail "go"
      fail "ret"
      rename_i p2 H2 h2 f2 g2 m2 s2
      refine g_catI (l := [k]) (by fail "hp") h2 (by simp) ?_
      fail "newM"
      rename_i p3 H3 n3 g3 m3 h3 s3
      fail "go"
      fail "ret"
      rename_i p4 H4 h4 f4 g4 m4 s4
      refine g_catI (by fail "hp") h4 (by simp) ?_
      fail "newM"
      rename_i p5 H5 n5 g5 m5 h5 s5
      fail "go"
      refine ⟨by fail "sz", ?_⟩
      fail "newM"
      rename_i p6 H6 n6 g6 m6 h6 s6
      fail "go"
      rw [List.length_map]
      refine g_repZ (by fail "hp") (by simp) (by simp) ?_
      fail "newM"
      rename_i p7 H7 n7 g7 m7 h7 s7
      refine g_catI (by fail "hp") h7 (by simp) ?_
      fail "newM"
      rename_i p8 H8 n8 g8 m8 h8 s8
      have hsum8 := hsum.mono s8
      fail "go"
      refine ⟨a, q, L, _, rfl, ⟨dx, by fail "hp"⟩, hL, .inr ⟨hsum8, ?_⟩⟩
      intro p9 H9 l s9 n9 h9 l0 l3 ll
      have h89 := s9 _ _ h8
      have s89 := s8.trans s9
      clear g1 g2 g3 g4 g5 g6 g7 g8 h1 h2 h3 h4 h5 h6 h7 h8 hsum8
      fail "go"
      have e7 : ((16 : Int) - (([k] ++ lows s 6 ++ lows z 2).length : Int)).toNat = 7 := by simp
      rw [e7] at h89
      have hl16 : (([k] ++ lows s 6 ++ lows z 2) ++ List.replicate 7 (0 : Int)).length = 16 := by simp
      refine g_catI h89 h9 (by rw [hl16]; omega) ?_
      intro pA nA
      have gA := Gr.newM (M := []) (o := .lst (((([k] ++ lows s 6 ++ lows z 2) ++ List.replicate 7 (0 : Int)) ++ l).map V.int)) s89 nA
      refine hq _ _ _ gA.rh (s89.free nA) upd_same ?_ ?_ ?_
      · exact (getD_appR hl16 0).trans l0
      · exact (getD_appR hl16 3).trans l3
      · rw [List.length_append, hl16]; omega
end
def spCheck (K : PySem.W.Frag) (C : Addr) : Sp := fun vs H Q _ => ∃ (a : Addr) (v : V) (L : Lay) (n : Int) (b : Option Blk), vs = [.ref a, .int n, v] ∧ LayAt C H a L ∧ L.Ok ∧ Dp K H v (optD b) ∧ BlkOk b ∧ ∀ H', Same H H' → Q (.int (chk L n b)) H'
def ChkInv (R : Hp) (a : Addr) (v : V) (n : Int) (os : List Int) (i : Nat) (σ : St) (H : Hp) : Prop := ∃ x : Option V, σ = [some (.ref a), some (.int n), some v, some (.int ((os.take i).foldl chkStep (n + 1))), x] ∧ Same R H
section
variable {P : Program} {w : World} {K : PySem.W.Frag} {mg : Str → Option Value} {base : Heap}
theorem ok_check_of (T : Txt P K mg) : FnOk P w K mg base CX0 5 T.f_check_of T.fd_check_of ["layout", "address", "block"] (spCheck K T.C_Layout) := by
  have G_block_octets := ok_block_octets (P := P) (w := w) (base := base) T
  refine T.F_check_of.ok sc_check_of (fun vs H Q E h => ?_) (fun cdv A outer s H vs Q E hr h => ?_)
  · obtain ⟨a, v, L, n, b, rfl, ha, hL, hv, hb, hq⟩ := h
    rfl
  · obtain ⟨a, v, L, n, b, rfl, ha, hL, hv, hb, hq⟩ := h
    refine ⟨_, (pss_cons (ps_set (i := 3) sc_check_of.nd rfl (by first | exact Or.inl rfl | exact Or.inr rfl) (pe_op (opAddU (K := K)) (pv 1) pe_int))
      (pss_cons (ps_for PassesOwn.never rfl (pi_listK (K := K) (pe_call G_block_octets (hr.mono (by decide)) rfl T.g_block_octets T.F_block_octets.kp T.b_block_octets .nil pass0 (pa_cons (pv 0) (pa_cons (pv 2) pa_nil)))) (pg_name (i := 4) sc_check_of.nd rfl (by first | exact Or.inl rfl | exact Or.inr rfl)) (pss_one (ps_set (i := 3) sc_check_of.nd rfl (by first | exact Or.inl rfl | exact Or.inr rfl) (pe_op opModU (pe_op (opAddU (K := K)) (pe_op (opAddU (K := K)) (pe_op opMultU (pv 3) (pe_glob rfl T.g_FACTOR T.r_FACTOR)) (pv 4)) pe_int) (pe_glob rfl T.g_PRIME T.r_PRIME)))))
      (pss_one (ps_ret (pv 3))))), ?_⟩
    try dsimp only [cxOf]
    have r0 := Same.refl H
    fail "go"
    refine ⟨a, v, L, rfl, ha, hL, .inl ⟨b, hv, hb, ?_⟩⟩
    fail "ret"
    rename_i p H1 h1 f1 g1 m1 s1
    refine g_LsW (SqL.of h1) ?_
    refine for_list (K := K) (xs := (octs L b).map V.int) (ChkInv H1 a v n (octs L b)) ⟨none, rfl, Same.refl H1⟩ (fun i σ H2 _ ⟨_, _, s2⟩ => SqL.of (s2 _ _ h1)) ?_ ?_
    · rintro i x σ H2 hi ⟨x0, rfl, s2⟩
      obtain ⟨o, ho, rfl⟩ := map_get hi
      fail "go"
      refine ⟨some (.int o), ?_, s2⟩
      rw [take_snoc ho, List.foldl_append]; rfl
    · rintro σ H2 ⟨x0, rfl, s2⟩
      rw [List.length_map, List.take_length]
      fail "go"
      exact hq _ (s1.trans s2)
end
def spSealed (K : PySem.W.Frag) (C : Addr) : Sp := fun vs H Q _ => ∃ (R : Hp) (a : Addr) (v : V) (L : Lay) (n : Int) (b : Option Blk), vs = [.ref a, .int n, v] ∧ Same R H ∧ LayAt C R a L ∧ L.Ok ∧ Dp K R v (optD b) ∧ BlkOk b ∧ ∀ w R' H', Gr [] R H R' H' → Dp K R' w (cellD (sealOf L n b)) → Q w H'
section
variable {P : Program} {w : World} {K : PySem.W.Frag} {mg : Str → Option Value} {base : Heap}
theorem ok_sealed (T : Txt P K mg) : FnOk P w K mg base CX0 6 T.f_sealed T.fd_sealed ["layout", "address", "block"] (spSealed K T.C_Layout) := by
  have G_check_of := ok_check_of (P := P) (w := w) (base := base) T
  refine T.F_sealed.ok sc_sealed (fun vs H Q E h => ?_) (fun cdv A outer s H vs Q E hr h => ?_)
  · obtain ⟨R, a, v, L, n, b, rfl, sR, ha, hL, hv, hb, hq⟩ := h
    rfl
  · obtain ⟨R, a, v, L, n, b, rfl, sR, ha, hL, hv, hb, hq⟩ := h
    refine ⟨_, (pss_cons (ps_if (pt_cmpR opIsU (pv 2) pe_non (nomark _)) (pss_one (ps_ret pe_non)) pss_nil)
      (pss_one (ps_ret (pe_tup (pa_cons (pv 2) (pa_cons (pe_call G_check_of (hr.mono (by decide)) rfl T.g_check_of T.F_check_of.kp T.b_check_of .nil pass0 (pa_cons (pv 0) (pa_cons (pv 1) (pa_cons (pv 2) pa_nil)))) pa_nil)))))), ?_⟩
    try dsimp only [cxOf]
    obtain ⟨rfl, rfl⟩ | ⟨c, t, rfl, rfl⟩ := optV hv
    · fail "go"
      exact hq _ _ _ (Gr.refl sR) .non
    · fail "go"
      refine ⟨a, .ref t, L, n, some c, rfl, ha.mono sR, hL, dp_mono sR hv, hb, fun H1 s1 => ?_⟩
      have s1R := sR.trans s1
      fail "go"
      refine ⟨by fail "sz", ?_⟩
      fail "newR"
      rename_i p H2 R2 f2 g2 h2 s2
      have gA : Gr [] R H R2 H2 := (Mu.ofSame sR s1).g.trans g2
      fail "go"
      exact hq _ _ _ gA (.tup (SqT.of h2) (.cons (dp_mono g2.rr hv) (.cons (.int _) .nil)))
end
def spSideWrite (K : PySem.W.Frag) (CL CS CD : Addr) : Sp := fun vs H Q _ => ∃ (R : Hp) (s a : Addr) (L : Lay) (z : Int) (m : Rows) (ms : List Addr) (v : V) (n : Nat) (b : Option Blk), vs = [.ref s, .int (n : Int), v] ∧ Same R H ∧ LayAt CL R a L ∧ L.Ok ∧ SideOk K CS CD R H s a z m ms ∧ n < m.seen.length ∧ m.wait.length ≤ 100 ∧ Dp K R v (optD b) ∧ BlkOk b ∧
  ∀ R' H', Gr ms R H R' H' → SideOk K CS CD R' H' s a z (m.put n (sealOf L n b)) ms → Q .non H'
section
variable {P : Program} {w : World} {K : PySem.W.Frag} {mg : Str → Option Value} {base : Heap}
theorem ok_Side_write (T : Txt P K mg) : FnOk P w K mg base CX0 7 T.f_Side_write T.fd_Side_write ["self", "address", "block"] (spSideWrite K T.C_Layout T.C_Side T.C_Device) := by
  have cl_Side := T.cl_Side
  have a_Side_device := T.a_Side_device
  have a_Side_layout := T.a_Side_layout
  have G_Device_write := ok_Device_write (P := P) (w := w) (base := base) T
  have G_sealed := ok_sealed (P := P) (w := w) (base := base) T
  refine T.F_Side_write.ok sc_Side_write (fun vs H Q E h => ?_) (fun cdv A outer s H vs Q E hr h => ?_)
  · obtain ⟨R, s, a, L, z, m, ms, v, n, b, rfl, sR, ha, hL, hso, hn, hw, dv, okb, hq⟩ := h
    rfl
  · obtain ⟨R, s, a, L, z, m, ms, v, n, b, rfl, sR, ha, hL, hso, hn, hw, dv, okb, hq⟩ := h
    refine ⟨_, (pss_one (ps_expr (pe_meth (pe_fldK (K := K) (pv 0) rfl) T.cl_Device T.m_Device_write G_Device_write (hr.mono (by decide)) T.b_Device_write .nil pass0 (pa_cons (pv 1) (pa_cons (pe_call G_sealed (hr.mono (by decide)) rfl T.g_sealed T.F_sealed.kp T.b_sealed .nil pass0 (pa_cons (pe_fldK (K := K) (pv 0) rfl) (pa_cons (pv 1) (pa_cons (pv 2) pa_nil)))) pa_nil))))), ?_⟩
    try dsimp only [cxOf]
    obtain ⟨d, ds, rfl, ⟨⟨sx, hs⟩, nin, non, dev⟩⟩ := hso
    have hd0 : ∃ dx l1 l2 l3, H d = some (.ins T.C_Device dx [("layout", .ref a), ("sure", .ref l1), ("seen", .ref l2), ("waiting", .ref l3), ("fuse", .non), ("dark", .bl false)]) := by
      obtain ⟨l1, l2, l3, eds, dst⟩ := dev
      obtain ⟨dx, hd⟩ := dst.dev
      exact ⟨dx, l1, l2, l3, hd⟩
    obtain ⟨dx, k1, k2, k3, hd0⟩ := hd0
    fail "go"
    refine ⟨R, a, v, L, n, b, rfl, sR, ha, hL, dv, okb, fun c R1 H1 g1 dc => ?_⟩
    have hs1 := g1.same _ _ hs
    have s1 := g1.rh
    have dev1 := dev.frame g1 (fun _ _ => List.not_mem_nil)
    have gA : Gr (s :: ds) R H R1 H1 := g1.nil
    have ha1 := ha.mono g1.rr
    have s1n := g1.fr _ _ hs non
    clear g1 hs dev sR
    fail "go"
    refine ⟨R1, d, a, m, ds, c, n, _, rfl, s1, dev1, hn, hw, dc, fun R2 H2 g2 d2 => ?_⟩
    have sds : ∀ x ∈ ds, x ∈ s :: ds := fun x hx => List.mem_cons_of_mem _ hx
    have hs2 := g2.hh _ _ nin hs1
    have s2n := g2.fr _ _ hs1 s1n
    fail "go"
    exact hq R2 H2 (gA.trans (g2.mono sds)) ⟨d, ds, rfl, ⟨⟨sx, hs2⟩, nin, s2n, d2⟩⟩
end
def spPut (K : PySem.W.Frag) : Sp := fun vs H Q _ => ∃ (R : Hp) (g : Addr) (z : Int) (m : Rows) (gs : List Addr) (v : V) (n : Nat) (c : Cell), vs = [.ref g, .int (n : Int), v] ∧ Same R H ∧ ModOk K R H g z m gs ∧ n < m.seen.length ∧ m.wait.length ≤ 100 ∧ Dp K R v (cellD c) ∧
  ∀ R' H', Gr gs R H R' H' → ModOk K R' H' g z (m.put n c) gs → Q .non H'
section
variable {P : Program} {w : World} {K : PySem.W.Frag} {mg : Str → Option Value} {base : Heap}
theorem ok__law_put (T : Txt P K mg) : FnOk P w K mg base CX0 1 T.f__law_put T.fd__law_put ["model", "address", "cell"] (spPut K) := by
  refine T.F__law_put.ok sc__law_put (fun vs H Q E h => ?_) (fun cdv A outer s H vs Q E hr h => ?_)
  · obtain ⟨R, g, z, m, gs, v, n, c, rfl, sR, ⟨l1, l2, l3, rfl, dv⟩, hn, hw, dc, hq⟩ := h
    rfl
  · obtain ⟨R, g, z, m, gs, v, n, c, rfl, sR, ⟨l1, l2, l3, rfl, dv⟩, hn, hw, dc, hq⟩ := h
    refine ⟨_, (pss_cons (ps_set (i := 3) sc__law_put.nd rfl (by first | exact Or.inl rfl | exact Or.inr rfl) (pe_dget (hu_of hr) (pv 0) pe_str (fun _ _ => rfl)))
      (pss_cons (ps_asg (pv 2) (pg_sub (pv 3) (pv 1) set_list))
      (pss_one (ps_expr (pe_bm PySem.F.plainAttrs_list PySem.F.slot_list_append PySem.F.type_list_append mt_append (pe_dget (hu_of hr) (pv 0) pe_str (fun _ _ => rfl)) (pa_cons (pe_tup (pa_cons (pv 1) (pa_cons (pv 2) pa_nil))) pa_nil)))))), ?_⟩
    try dsimp only [cxOf]
    have has := dv.has
    obtain ⟨hd, nd, non, u1, u2, u3, h1, h2, h3, d1, d2, d3⟩ := dv
    obtain ⟨e01, e02, e03, e12, e13, e23⟩ := nod4 nd
    have R2 := non l2 (by simp)
    have R3 := non l3 (by simp)
    have ul2 : u2.length = m.seen.length := by have := dpAll_len d2; simpa using this
    have ul3 : u3.length = m.wait.length := by have := dpAll_len d3; simpa using this
    fail "go"
    refine g_setL (j := n) h2 (ixN_nat (by omega)) ?_
    fail "mut"
    rename_i H1 g1 h12 s1
    have hd1 := g1.g.hh _ _ (nin1 e02) hd
    have h31 := g1.g.hh _ _ (nin1 e23.symm) h3
    have h11 := g1.g.hh _ _ (nin1 e12) h1
    clear hd h1 h2 h3
    fail "go"
    refine ⟨by fail "sz", ?_⟩
    fail "newR"
    rename_i p H2 R' f2 g2 h2' s2
    have h32 := g2.same _ _ h31
    have h22 := g2.same _ _ h12
    have hd2 := g2.same _ _ hd1
    have h13 := g2.same _ _ h11
    have gA : Gr [l2] R H R' H2 := g1.g.trans g2.nil
    have R3' : R' l3 = none := gA.fr _ _ (has l3 (by simp)).choose_spec R3
    have d1' := dpAll_mono g2.rr d1
    have d2' := dpAll_mono g2.rr d2
    have d3' := dpAll_mono g2.rr d3
    have dc' := dp_mono g2.rr dc
    clear g1 g2 h12 h31 hd1 h11 s1 sR d1 d2 d3 dc
    fail "go"
    rename_i H3 g3 h3' s3
    have gB : Gr [g, l1, l2, l3] R H R' H3 := (gA.mono (by simp)).trans (g3.g.mono (by simp))
    refine hq R' H3 gB ⟨l1, l2, l3, rfl, ⟨g3.g.hh _ _ (nin1 e03) hd2, nd, non_of has non gB, u1, u2.set n v, u3 ++ [.ref p], g3.g.hh _ _ (nin1 e13) h13, g3.g.hh _ _ (nin1 e23) h22, h3', d1', ?_, ?_⟩⟩
    · show DpAll K R' _ ((m.seen.set n c).map cellD)
      rw [List.map_set]
      exact dpAll_set n d2' dc'
    · show DpAll K R' _ ((m.wait ++ [(n, c)]).map wtD)
      rw [List.map_append]
      exact dpAll_app d3' (.cons (.tup (SqT.of h2') (.cons (.int _) (.cons dc' .nil))) .nil)
end
def spDevBar (K : PySem.W.Frag) (CD : Addr) : Sp := fun vs H Q _ => ∃ (R : Hp) (d a : Addr) (m : Rows) (ds : List Addr), vs = [.ref d] ∧ Same R H ∧ DevOk K CD R H d a m ds ∧ (∀ q ∈ m.wait, q.1 < m.sure.length) ∧
  ∀ H' ds', Gr ds R H R H' → Nw H ds ds' → DevOk K CD R H' d a m.bar ds' → Q .non H'
def BarInv (K : PySem.W.Frag) (R H : Hp) (d l1 : Addr) (m : Rows) (i : Nat) (σ : St) (H' : Hp) : Prop := ∃ (x y : Option V) (v1 : List V), σ = [some (.ref d), x, y] ∧ Mu [l1] R H H' ∧ H' l1 = some (.lst v1) ∧ DpAll K R v1 ((barL m.sure (m.wait.take i)).map cellD)
section
variable {P : Program} {w : World} {K : PySem.W.Frag} {mg : Str → Option Value} {base : Heap}
theorem ok_Device_barrier (T : Txt P K mg) : FnOk P w K mg base CX0 2 T.f_Device_barrier T.fd_Device_barrier ["self"] (spDevBar K T.C_Device) := by
  have cl_Device := T.cl_Device
  have a_Device_dark := T.a_Device_dark
  have a_Device_waiting := T.a_Device_waiting
  have a_Device_sure := T.a_Device_sure
  have G_Device__count_command := ok_Device__count_command (P := P) (w := w) (base := base) T
  refine T.F_Device_barrier.ok sc_Device_barrier (fun vs H Q E h => ?_) (fun cdv A outer s H vs Q E hr h => ?_)
  · obtain ⟨R, d, a, m, ds, rfl, sR, ⟨l1, l2, l3, rfl, dv⟩, hw, hq⟩ := h
    rfl
  · obtain ⟨R, d, a, m, ds, rfl, sR, ⟨l1, l2, l3, rfl, dv⟩, hw, hq⟩ := h
    refine ⟨_, (pss_cons (ps_expr (pe_meth0 (pv 0) T.cl_Device T.m_Device__count_command G_Device__count_command (hr.mono (by decide)) T.b_Device__count_command .nil pass0))
      (pss_one (ps_if (pt_not (pt_truthK (K := K) (pe_fldK (K := K) (pv 0) rfl) (by intro _; rfl))) (pss_cons (ps_for PassesOwn.never rfl (pi_listK (K := K) (pe_fldK (K := K) (pv 0) rfl)) (pg_tupK (K := K) rfl (pgs_cons (pg_name (i := 1) sc_Device_barrier.nd rfl (by first | exact Or.inl rfl | exact Or.inr rfl)) (pgs_cons (pg_name (i := 2) sc_Device_barrier.nd rfl (by first | exact Or.inl rfl | exact Or.inr rfl)) pgs_nil))) (pss_one (ps_asg (pv 2) (pg_sub (pe_fldK (K := K) (pv 0) rfl) (pv 1) set_list))))
      (pss_one (ps_fld (pv 0) (pe_lst pa_nil) rfl))) pss_nil))), ?_⟩
    try dsimp only [cxOf]
    have has := dv.has
    obtain ⟨⟨dx, hd⟩, nd, non, u1, u2, u3, h1, h2, h3, d1, d2, d3⟩ := dv
    obtain ⟨e01, e02, e03, e12, e13, e23⟩ := nod4 nd
    have R0 := non d (by simp)
    have R1 := non l1 (by simp)
    have ul3 : u3.length = m.wait.length := by have := dpAll_len d3; simpa using this
    fail "go"
    refine ⟨d, a, l1, l2, l3, rfl, ⟨_, hd⟩, ?_⟩
    fail "go"
    refine ⟨false, rfl, ?_⟩
    fail "go"
    refine g_LsW (SqL.of h3) ?_
    refine for_list (K := K) (xs := u3) (BarInv K R H d l1 m) ⟨none, none, u1, rfl, ⟨Gr.refl sR⟩, h1, d1⟩ (fun i σ HX _ ⟨_, _, _, _, gX, _⟩ => SqL.of (gX.g.hh _ _ (nin1 e13.symm) h3)) ?_ ?_
    · rintro i x σ H1 hx ⟨x0, y0, v1, rfl, g1, h11, dv1⟩
      have hd1 := g1.g.hh _ _ (nin1 e01) hd
      have s1 := g1.g.rh
      obtain ⟨q, t, v, hqi, rfl, ht, dq⟩ := wt_get d3 hx
      have ht1 := sqT_mono s1 ht
      have vl : v1.length = m.sure.length := by have := dpAll_len dv1; rw [List.length_map, barL_len] at this; exact this
      have hq1 := hw q (List.mem_of_getElem? hqi)
      clear hd h1 h2 h3 sR
      fail "go"
      refine g_setL (j := q.1) h11 (ixN_nat (by omega)) ?_
      fail "mut"
      rename_i H2 g2 h12 s2
      refine ⟨_, _, _, rfl, ⟨g1.g.trans g2.g⟩, h12, ?_⟩
      rw [List.take_add_one, hqi]
      show DpAll K R _ ((barL m.sure (m.wait.take i ++ [q])).map cellD)
      rw [barL_snoc, List.map_set]
      exact dpAll_set _ dv1 dq
    · rintro σ H1 ⟨x0, y0, v1, rfl, g1, h11, dv1⟩
      have hd1 := g1.g.hh _ _ (nin1 e01) hd
      have h21 := g1.g.hh _ _ (nin1 e12.symm) h2
      have s1 := g1.g.rh
      clear hd h1 h2 h3 sR
      rw [ul3, List.take_length] at dv1
      fail "go"
      refine ⟨by fail "sz", ?_⟩
      fail "newM"
      rename_i p H2 n2 g2 m2 h2' s2
      have hd2 := g2.g.same _ _ hd1
      have h12 := g2.g.same _ _ h11
      have h22 := g2.g.same _ _ h21
      have pd := (ne_of_none hd1 n2)
      have p1 := (ne_of_none h11 n2)
      have p2 := (ne_of_none h21 n2)
      have pn : H p = none := g1.g.free n2
      have gA : Gr [d, l1, l2, l3] R H R H2 := (g1.g.mono (by simp)).trans g2.g.nil
      clear g1 g2 s1 hd1 h11 h21
      fail "go"
      rename_i H3 g3 h3' s3
      have gB : Gr [d, l1, l2, l3] R H R H3 := gA.trans (g3.g.mono (by simp))
      refine hq H3 [d, l1, l2, p] gB (fun x hx => ?_) ⟨l1, l2, p, rfl, ⟨⟨dx, h3'⟩, mk_nod4 e01 e02 pd e12 p1 p2, fun x hx => ?_, v1, u2, [], g3.g.hh _ _ (nin1 e01.symm) h12, g3.g.hh _ _ (nin1 e02.symm) h22, g3.g.hh _ _ (nin1 pd.symm) h2', dv1, d2, .nil⟩⟩
      · simp only [List.mem_cons, List.not_mem_nil, or_false] at hx ⊢
        rcases hx with rfl | rfl | rfl | rfl
        · exact .inl (.inl rfl)
        · exact .inl (.inr (.inl rfl))
        · exact .inl (.inr (.inr (.inl rfl)))
        · exact .inr pn
      · simp only [List.mem_cons, List.not_mem_nil, or_false] at hx
        rcases hx with rfl | rfl | rfl | rfl
        · exact R0
        · exact R1
        · exact non _ (by simp)
        · exact m2
end
def spSideBar (K : PySem.W.Frag) (CS CD : Addr) : Sp := fun vs H Q _ => ∃ (R : Hp) (s a : Addr) (z : Int) (m : Rows) (ms : List Addr), vs = [.ref s] ∧ Same R H ∧ SideOk K CS CD R H s a z m ms ∧ (∀ q ∈ m.wait, q.1 < m.sure.length) ∧
  ∀ H' ms', Gr ms R H R H' → Nw H ms ms' → SideOk K CS CD R H' s a z m.bar ms' → Q .non H'
section
variable {P : Program} {w : World} {K : PySem.W.Frag} {mg : Str → Option Value} {base : Heap}
theorem ok_Side_barrier (T : Txt P K mg) : FnOk P w K mg base CX0 3 T.f_Side_barrier T.fd_Side_barrier ["self"] (spSideBar K T.C_Side T.C_Device) := by
  have cl_Side := T.cl_Side
  have a_Side_device := T.a_Side_device
  have G_Device_barrier := ok_Device_barrier (P := P) (w := w) (base := base) T
  refine T.F_Side_barrier.ok sc_Side_barrier (fun vs H Q E h => ?_) (fun cdv A outer s H vs Q E hr h => ?_)
  · obtain ⟨R, s, a, z, m, ms, rfl, sR, hso, hw, hq⟩ := h
    rfl
  · obtain ⟨R, s, a, z, m, ms, rfl, sR, hso, hw, hq⟩ := h
    refine ⟨_, (pss_one (ps_expr (pe_meth0 (pe_fldK (K := K) (pv 0) rfl) T.cl_Device T.m_Device_barrier G_Device_barrier (hr.mono (by decide)) T.b_Device_barrier .nil pass0))), ?_⟩
    try dsimp only [cxOf]
    obtain ⟨d, ds, rfl, ⟨⟨sx, hs⟩, nin, non, dev⟩⟩ := hso
    obtain ⟨dx, k1, k2, k3, hd0⟩ := dev.ins
    fail "go"
    refine ⟨R, d, a, m, ds, rfl, sR, dev, hw, fun H' ds' g w d' => ?_⟩
    have hs' := g.hh _ _ nin hs
    fail "go"
    refine hq H' (s :: ds') (g.mono fun x hx => List.mem_cons_of_mem _ hx) (fun x hx => ?_) ⟨d, ds', rfl, ⟨⟨sx, hs'⟩, fun z => ?_, non, d'⟩⟩
    · rcases List.mem_cons.mp hx with rfl | hx
      · exact .inl List.mem_cons_self
      · rcases w x hx with h | h
        · exact .inl (List.mem_cons_of_mem _ h)
        · exact .inr h
    · rcases w s z with h | h
      · exact nin h
      · rw [hs] at h; cases h
end
def spBar (K : PySem.W.Frag) : Sp := fun vs H Q _ => ∃ (R : Hp) (g : Addr) (z : Int) (m : Rows) (gs : List Addr), vs = [.ref g] ∧ Same R H ∧ ModOk K R H g z m gs ∧ (∀ q ∈ m.wait, q.1 < m.sure.length) ∧
  ∀ H' gs', Gr gs R H R H' → Nw H gs gs' → ModOk K R H' g z m.bar gs' → Q .non H'
def LBarInv (K : PySem.W.Frag) (R H : Hp) (d l1 : Addr) (m : Rows) (i : Nat) (σ : St) (H' : Hp) : Prop := ∃ (x y : Option V) (v1 : List V), σ = [some (.ref d), some (.ref l1), x, y] ∧ Mu [l1] R H H' ∧ H' l1 = some (.lst v1) ∧ DpAll K R v1 ((barL m.sure (m.wait.take i)).map cellD)
section
variable {P : Program} {w : World} {K : PySem.W.Frag} {mg : Str → Option Value} {base : Heap}
theorem ok__law_bar (T : Txt P K mg) : FnOk P w K mg base CX0 1 T.f__law_bar T.fd__law_bar ["model"] (spBar K) := by
  refine T.F__law_bar.ok sc__law_bar (fun vs H Q E h => ?_) (fun cdv A outer s H vs Q E hr h => ?_)
  · obtain ⟨R, g, z, m, gs, rfl, sR, ⟨l1, l2, l3, rfl, dv⟩, hw, hq⟩ := h
    rfl
  · obtain ⟨R, g, z, m, gs, rfl, sR, ⟨l1, l2, l3, rfl, dv⟩, hw, hq⟩ := h
    refine ⟨_, (pss_cons (ps_set (i := 1) sc__law_bar.nd rfl (by first | exact Or.inl rfl | exact Or.inr rfl) (pe_dget (hu_of hr) (pv 0) pe_str (fun _ _ => rfl)))
      (pss_cons (ps_for PassesOwn.never rfl (pi_listK (K := K) (pe_dget (hu_of hr) (pv 0) pe_str (fun _ _ => rfl))) (pg_tupK (K := K) rfl (pgs_cons (pg_name (i := 2) sc__law_bar.nd rfl (by first | exact Or.inl rfl | exact Or.inr rfl)) (pgs_cons (pg_name (i := 3) sc__law_bar.nd rfl (by first | exact Or.inl rfl | exact Or.inr rfl)) pgs_nil))) (pss_one (ps_asg (pv 3) (pg_sub (pv 1) (pv 2) set_list))))
      (pss_one (ps_dput (hu_of hr) (pv 0) pe_str (pe_lst pa_nil) (by rfl))))), ?_⟩
    try dsimp only [cxOf]
    have has := dv.has
    obtain ⟨hd, nd, non, u1, u2, u3, h1, h2, h3, d1, d2, d3⟩ := dv
    obtain ⟨e01, e02, e03, e12, e13, e23⟩ := nod4 nd
    have R0 := non g (by simp)
    have R1 := non l1 (by simp)
    have ul3 : u3.length = m.wait.length := by have := dpAll_len d3; simpa using this
    fail "go"
    refine g_LsW (SqL.of h3) ?_
    refine for_list (K := K) (xs := u3) (LBarInv K R H g l1 m) ⟨none, none, u1, rfl, ⟨Gr.refl sR⟩, h1, d1⟩ (fun i σ HX _ ⟨_, _, _, _, gX, _⟩ => SqL.of (gX.g.hh _ _ (nin1 e13.symm) h3)) ?_ ?_
    · rintro i x σ H1 hx ⟨x0, y0, v1, rfl, g1, h11, dv1⟩
      have s1 := g1.g.rh
      obtain ⟨q, t, v, hqi, rfl, ht, dq⟩ := wt_get d3 hx
      have ht1 := sqT_mono s1 ht
      have vl : v1.length = m.sure.length := by have := dpAll_len dv1; rw [List.length_map, barL_len] at this; exact this
      have hq1 := hw q (List.mem_of_getElem? hqi)
      clear hd h1 h2 h3 sR
      fail "go"
      refine g_setL (j := q.1) h11 (ixN_nat (by omega)) ?_
      fail "mut"
      rename_i H2 g2 h12 s2
      refine ⟨_, _, _, rfl, ⟨g1.g.trans g2.g⟩, h12, ?_⟩
      rw [List.take_add_one, hqi]
      show DpAll K R _ ((barL m.sure (m.wait.take i ++ [q])).map cellD)
      rw [barL_snoc, List.map_set]
      exact dpAll_set _ dv1 dq
    · rintro σ H1 ⟨x0, y0, v1, rfl, g1, h11, dv1⟩
      have hd1 := g1.g.hh _ _ (nin1 e01) hd
      have h21 := g1.g.hh _ _ (nin1 e12.symm) h2
      have s1 := g1.g.rh
      clear hd h1 h2 h3 sR
      rw [ul3, List.take_length] at dv1
      fail "go"
      refine ⟨by fail "sz", ?_⟩
      fail "newM"
      rename_i p H2 n2 g2 m2 h2' s2
      have hd2 := g2.g.same _ _ hd1
      have h12 := g2.g.same _ _ h11
      have h22 := g2.g.same _ _ h21
      have pd := (ne_of_none hd1 n2)
      have p1 := (ne_of_none h11 n2)
      have p2 := (ne_of_none h21 n2)
      have pn : H p = none := g1.g.free n2
      have gA : Gr [g, l1, l2, l3] R H R H2 := (g1.g.mono (by simp)).trans g2.g.nil
      clear g1 g2 s1 hd1 h11 h21
      fail "go"
      rename_i H3 g3 h3' s3
      have gB : Gr [g, l1, l2, l3] R H R H3 := gA.trans (g3.g.mono (by simp))
      refine hq H3 [g, l1, l2, p] gB (fun x hx => ?_) ⟨l1, l2, p, rfl, ⟨h3', mk_nod4 e01 e02 pd e12 p1 p2, fun x hx => ?_, v1, u2, [], g3.g.hh _ _ (nin1 e01.symm) h12, g3.g.hh _ _ (nin1 e02.symm) h22, g3.g.hh _ _ (nin1 pd.symm) h2', dv1, d2, .nil⟩⟩
      · simp only [List.mem_cons, List.not_mem_nil, or_false] at hx ⊢
        rcases hx with rfl | rfl | rfl | rfl
        · exact .inl (.inl rfl)
        · exact .inl (.inr (.inl rfl))
        · exact .inl (.inr (.inr (.inl rfl)))
        · exact .inr pn
      · simp only [List.mem_cons, List.not_mem_nil, or_false] at hx
        rcases hx with rfl | rfl | rfl | rfl
        · exact R0
        · exact R1
        · exact non _ (by simp)
        · exact m2
end
def spDecay (K : PySem.W.Frag) (CD : Addr) : Sp := fun vs H Q _ => ∃ (R : Hp) (d a : Addr) (m : Rows) (ds : List Addr) (v : V) (n : Nat) (c : Cell), vs = [.ref d, .int (n : Int), v] ∧ Same R H ∧ DevOk K CD R H d a m ds ∧ n < m.seen.length ∧ n < m.sure.length ∧ m.wait.length ≤ 100 ∧ Dp K R v (cellD c) ∧
  ∀ H', Gr ds R H R H' → DevOk K CD R H' d a (m.decay n c) ds → Q .non H'
def waitI (w : List (Nat × Cell)) : List Int := w.map fun q => (q.1 : Int)
theorem wait_in (w : List (Nat × Cell)) (n : Nat) : (n : Int) ∈ waitI w ↔ n ∈ w.map (·.1) := by
  unfold waitI
  simp only [List.mem_map]
  constructor
  · rintro ⟨q, h, e⟩; exact ⟨q, h, by omega⟩
  · rintro ⟨q, h, e⟩; exact ⟨q, h, by omega⟩
theorem waitI_snoc {w : List (Nat × Cell)} {i : Nat} {q : Nat × Cell} (h : w[i]? = some q) : waitI (w.take (i + 1)) = waitI (w.take i) ++ [(q.1 : Int)] := by
  rw [List.take_add_one, h]
  simp [waitI]
section
variable {P : Program} {w : World} {K : PySem.W.Frag} {mg : Str → Option Value} {base : Heap}
theorem ok_Device_decay (T : Txt P K mg) : FnOk P w K mg base CX0 1 T.f_Device_decay T.fd_Device_decay ["self", "address", "block"] (spDecay K T.C_Device) := by
  have cl_Device := T.cl_Device
  have a_Device_sure := T.a_Device_sure
  have a_Device_waiting := T.a_Device_waiting
  have a_Device_seen := T.a_Device_seen
  refine T.F_Device_decay.ok sc_Device_decay (fun vs H Q E h => ?_) (fun cdv A outer s H vs Q E hr h => ?_)
  · obtain ⟨R, d, a, m, ds, v, n, c, rfl, sR, ⟨l1, l2, l3, rfl, dv⟩, hn, hn1, hw, dc, hq⟩ := h
    rfl
  · obtain ⟨R, d, a, m, ds, v, n, c, rfl, sR, ⟨l1, l2, l3, rfl, dv⟩, hn, hn1, hw, dc, hq⟩ := h
    refine ⟨_, (pss_cons (ps_asg (pv 2) (pg_sub (pe_fldK (K := K) (pv 0) rfl) (pv 1) set_list))
      (pss_one (ps_if (pt_cmpR (opNinF (K := K)) (pv 1) (pe_lc (own := [("pair", 3)]) (g := gName 3) (tt := tYes) rfl sc_Device_decay.nd (pi_listK (K := K) (pe_fldK (K := K) (pv 0) rfl)) (blkOk_by (N := N_Device_decay) (sc := defScope s_Device_decay) (by decide +kernel)) (fun _ _ _ _ _ => (pg_name (i := 3) sc_Device_decay.nd rfl (by first | exact Or.inl rfl | exact Or.inr rfl))) (fun _ _ _ _ _ => pts_nil) (fun _ _ _ _ _ => (pe_ix (ixU (K := K)) (pv 3) pe_int (fun _ _ => rfl)))) (by rfl)) (pss_one (ps_asg (pv 2) (pg_sub (pe_fldK (K := K) (pv 0) rfl) (pv 1) set_list))) pss_nil))), ?_⟩
    try dsimp only [cxOf]
    have has := dv.has
    obtain ⟨⟨dx, hd⟩, nd, non, u1, u2, u3, h1, h2, h3, d1, d2, d3⟩ := dv
    obtain ⟨e01, e02, e03, e12, e13, e23⟩ := nod4 nd
    have R1 := non l1 (by simp)
    have R2 := non l2 (by simp)
    have ul1 : u1.length = m.sure.length := by have := dpAll_len d1; simpa using this
    have ul2 : u2.length = m.seen.length := by have := dpAll_len d2; simpa using this
    have ul3 : u3.length = m.wait.length := by have := dpAll_len d3; simpa using this
    fail "go"
    refine g_setL (j := n) h1 (ixN_nat (by omega)) ?_
    fail "mut"
    rename_i H1 g1 h11 s1
    have hd1 := g1.g.hh _ _ (nin1 e01) hd
    have h21 := g1.g.hh _ _ (nin1 e12.symm) h2
    have h31 := g1.g.hh _ _ (nin1 e13.symm) h3
    clear hd h1 h2 h3
    fail "go"
    refine g_LsW (SqL.of h31) fun D nD => ?_
    refine lc_list (K := K) (a := l3) (fun j H' => Same H1 H' ∧ H' D = some (.lst ((waitI (m.wait.take j)).map V.int))) ⟨(Gr.newM (M := []) s1 nD).same, by rw [upd_same]; rfl⟩ (fun j H' _ ⟨s, _⟩ => SqL.of (s _ _ h31)) ?_ ?_
    · rintro j x H2 hx ⟨s2, hD2⟩
      obtain ⟨q, t, y, hqi, rfl, ht, dq⟩ := wt_get d3 hx
      have ht2 := sqT_mono (s1.trans s2) ht
      fail "go"
      refine ⟨rfl, ?_⟩
      fail "go"
      refine ⟨_, hD2, by simp [waitI]; fail "sz", fun b o e => ?_, ?_⟩
      · rw [upd_ne (ne_of_none e nD)]; exact s2 _ _ e
      · rw [upd_same, waitI_snoc hqi, List.map_append]; rfl
    · rintro H2 ⟨s2, hD2⟩
      have gA : Mu [l1] R H H2 := ⟨g1.g.trans (Mu.ofSame s1 s2).g⟩
      have ha2 := s2 _ _ hd1
      rw [ul3, List.take_length] at hD2
      refine g_ninF (.inl (SqL.of hD2)) rfl (flat_ints _) ?_
      rw [inV_ints]
      fail "go"
      have h12 := s2 _ _ h11
      have h22 := s2 _ _ h21
      have h32 := s2 _ _ h31
      have s12 := s1.trans s2
      have nd' : ((n : Int) ∈ waitI m.wait ↔ n ∈ m.wait.map (·.1)) := wait_in m.wait n
      clear g1 s1 s2 hD2 h11 h21 h31 hd1
      refine g_iteN (fun e => ?_) (fun e => ?_)
      · fail "go"
        refine g_setL (j := n) h22 (ixN_nat (by omega)) ?_
        fail "mut"
        rename_i H3 g3 h23 s3
        fail "go"
        have gB : Gr [d, l1, l2, l3] R H R H3 := (gA.g.mono (by simp)).trans (g3.g.mono (by simp))
        refine hq H3 gB ⟨l1, l2, l3, rfl, ⟨⟨dx, g3.g.hh _ _ (nin1 e02) ha2⟩, nd, non, u1.set n v, u2.set n v, u3, g3.g.hh _ _ (nin1 e12) h12, h23, g3.g.hh _ _ (nin1 e23.symm) h32, ?_, ?_, d3⟩⟩
        · show DpAll K R _ ((m.sure.set n c).map cellD)
          rw [List.map_set]
          exact dpAll_set n d1 dc
        · unfold Rows.decay
          rw [if_neg (fun z => e (nd'.mpr z)), List.map_set]
          exact dpAll_set n d2 dc
      · fail "go"
        have gB : Gr [d, l1, l2, l3] R H R H2 := gA.g.mono (by simp)
        refine hq H2 gB ⟨l1, l2, l3, rfl, ⟨⟨dx, ha2⟩, nd, non, u1.set n v, u2, u3, h12, h22, h32, ?_, ?_, d3⟩⟩
        · show DpAll K R _ ((m.sure.set n c).map cellD)
          rw [List.map_set]
          exact dpAll_set n d1 dc
        · unfold Rows.decay
          rw [if_pos (nd'.mp e)]
          exact d2
end
theorem atI_at9 {l : List Int} {z : Int} {j : Nat} (e : z = (j : Int)) (h : j < l.length) : atI (l.map V.int) z = some (.int (l.getD j 0)) := by rw [e]; exact atI_getD h
def spHalves (K : PySem.W.Frag) : Sp := fun vs H Q _ => ∃ (t : Addr) (l : List Int), vs = [.ref t] ∧ SqL K H t (l.map V.int) ∧ l.length ≤ 1000 ∧ ∀ p H', Same H H' → H p = none → H' p = some (.lst ((halves l).map V.int)) → Q (.ref p) H'
def HalfInv (R : Hp) (t p : Addr) (l : List Int) (i : Nat) (σ : St) (H : Hp) : Prop := ∃ x : Option V, σ = [some (.ref t), some (.ref p), x] ∧ Same R H ∧ H p = some (.lst (((List.range i).map fun (k : Nat) => l.getD (2 * k) 0 + 256 * l.getD (2 * k + 1) 0).map V.int))
section
variable {P : Program} {w : World} {K : PySem.W.Frag} {mg : Str → Option Value} {base : Heap}
theorem ok_numbers_of (T : Txt P K mg) : FnOk P w K mg base CX0 1 T.f_numbers_of T.fd_numbers_of ["octets"] (spHalves K) := by
  refine T.F_numbers_of.ok sc_numbers_of (fun vs H Q E h => ?_) (fun cdv A outer s H vs Q E hr h => ?_)
  · obtain ⟨t, l, rfl, ht, hl, hq⟩ := h
    rfl
  · obtain ⟨t, l, rfl, ht, hl, hq⟩ := h
    refine ⟨_, (pss_cons (ps_set (i := 1) sc_numbers_of.nd rfl (by first | exact Or.inl rfl | exact Or.inr rfl) (pe_lst pa_nil))
      (pss_cons (ps_for PassesOwn.never rfl (pi_range1 rfl T.n_range (pa_cons (pe_op opFloorDivU (pe_callB (callLenU (K := K)) (by rfl) T.n_len (by decide +kernel) (pa_cons (pv 0) pa_nil)) pe_int) pa_nil)) (pg_name (i := 2) sc_numbers_of.nd rfl (by first | exact Or.inl rfl | exact Or.inr rfl)) (pss_one (ps_expr (pe_bm PySem.F.plainAttrs_list PySem.F.slot_list_append PySem.F.type_list_append mt_append (pv 1) (pa_cons (pe_op (opAddU (K := K)) (pe_ix (ixU (K := K)) (pv 0) (pe_op opMultU pe_int (pv 2)) (fun _ _ => rfl)) (pe_op opMultU pe_int (pe_ix (ixU (K := K)) (pv 0) (pe_op (opAddU (K := K)) (pe_op opMultU pe_int (pv 2)) pe_int) (fun _ _ => rfl)))) pa_nil)))))
      (pss_one (ps_ret (pv 1))))), ?_⟩
    try dsimp only [cxOf]
    have r0 := Same.refl H
    fail "go"
    refine ⟨by fail "sz", ?_⟩
    fail "newM"
    rename_i p H1 n1 g1 m1 h1 s1
    fail "go"
    rw [List.length_map]
    fail "go"
    refine g_R1W (n := l.length / 2) (by omega) (by omega) ?_
    refine for_range (lo := 0) (n := l.length / 2) (HalfInv H t p l) ⟨none, rfl, s1, h1⟩ ?_ ?_
    · clear s1 h1 g1 r0
      rintro i σ H2 hi ⟨x0, rfl, s2, h2⟩
      rw [Int.zero_add]
      have ht2 := sqL_mono s2 ht
      fail "go"
      refine g_ixL ht2 (atI_at9 (j := 2 * i) (by omega) (by omega)) ?_
      fail "go"
      refine g_ixL ht2 (atI_at9 (j := 2 * i + 1) (by omega) (by omega)) ?_
      fail "go"
      fail "go"
      rename_i H3 g3 h3 s3
      refine ⟨_, rfl, s3, ?_⟩
      rw [h3, List.range_succ, List.map_append, List.map_append]; rfl
    · rintro σ H2 ⟨x0, rfl, s2, h2⟩
      fail "go"
      exact hq _ _ s2 m1 h2
end
def spUsed (K : PySem.W.Frag) : Sp := fun vs H Q _ => ∃ (t : Addr) (l : List Int) (n : Int), vs = [.ref t, .int n] ∧ SqL K H t (l.map V.int) ∧ 0 ≤ n ∧ n ≤ 1000 ∧ n ≤ 8 * l.length ∧ ∀ p H' us, Same H H' → H p = none → H' p = some (.tup ((us : List Int).map V.int)) → (∀ x ∈ us, 1 ≤ x ∧ x ≤ n) → us.length ≤ 1000 → Q (.ref p) H'
def UsedInv (H : Hp) (t p : Addr) (n : Int) (i : Nat) (σ : St) (H' : Hp) : Prop := ∃ (x : Option V) (us : List Int), σ = [some (.ref t), some (.int n), some (.ref p), x] ∧ Same H H' ∧ H' p = some (.lst (us.map V.int)) ∧ us.length ≤ i ∧ ∀ x ∈ us, 1 ≤ x ∧ x ≤ n
section
variable {P : Program} {w : World} {K : PySem.W.Frag} {mg : Str → Option Value} {base : Heap}
theorem ok_used_of (T : Txt P K mg) : FnOk P w K mg base CX0 1 T.f_used_of T.fd_used_of ["octets", "last_id"] (spUsed K) := by
  refine T.F_used_of.ok sc_used_of (fun vs H Q E h => ?_) (fun cdv A outer s H vs Q E hr h => ?_)
  · obtain ⟨t, l, n, rfl, ht, n0, n1, n8, hq⟩ := h
    rfl
  · obtain ⟨t, l, n, rfl, ht, n0, n1, n8, hq⟩ := h
    refine ⟨_, (pss_cons (ps_set (i := 2) sc_used_of.nd rfl (by first | exact Or.inl rfl | exact Or.inr rfl) (pe_lst pa_nil))
      (pss_cons (ps_for PassesOwn.never rfl (pi_range2 rfl T.n_range (pa_cons pe_int (pa_cons (pe_op (opAddU (K := K)) (pv 1) pe_int) pa_nil))) (pg_name (i := 3) sc_used_of.nd rfl (by first | exact Or.inl rfl | exact Or.inr rfl)) (pss_one (ps_if (pt_cmpR (opEqU (K := K) hr.units) (pe_op opModU (pe_op opFloorDivU (pe_ix (ixU (K := K)) (pv 0) (pe_op opFloorDivU (pe_op opSubU (pv 3) pe_int) pe_int) (fun _ _ => rfl)) (pe_ix (ixU (K := K)) (pe_glob rfl T.g_BITS T.r_BITS) (pe_op opModU (pe_op opSubU (pv 3) pe_int) pe_int) (fun _ _ => rfl))) pe_int) pe_int (nomark _)) (pss_one (ps_expr (pe_bm PySem.F.plainAttrs_list PySem.F.slot_list_append PySem.F.type_list_append mt_append (pv 2) (pa_cons (pv 3) pa_nil)))) pss_nil)))
      (pss_one (ps_ret (pe_callTy (callTupU (K := K)) (by rfl) T.n_tuple (by decide +kernel) (pa_cons (pv 2) pa_nil)))))), ?_⟩
    try dsimp only [cxOf]
    have r0 := Same.refl H
    fail "go"
    refine ⟨by fail "sz", ?_⟩
    fail "newM"
    rename_i p H1 n1' g1 m1 h1 s1
    fail "go"
    refine ⟨1, n + 1, rfl, by omega, ?_⟩
    refine for_range (lo := 1) (n := (n + 1 - 1).toNat) (UsedInv H t p n) ⟨none, [], rfl, s1, h1, by simp, by simp⟩ ?_ ?_
    · clear h1 s1 g1 r0
      rintro i σ H2 hi ⟨x0, us, rfl, s2, h2, hl, hx⟩
      have ht2 := sqL_mono s2 ht
      have hi' : (i : Int) < n := by omega
      rw [show (1 : Int) + (i : Int) = ((i + 1 : Nat) : Int) by omega]
      obtain ⟨j, hj⟩ := Int.eq_ofNat_of_zero_le (show 0 ≤ (((i + 1 : Nat) : Int) - 1) / 8 by omega)
      have jl : j < l.length := by omega
      obtain ⟨b1, b2, b3⟩ := bit_at (j := (((i + 1 : Nat) : Int) - 1) % 8) (by omega) (by omega)
      generalize hb : bitW ((((i + 1 : Nat) : Int) - 1) % 8) = bw at b1 b2 b3
      fail "go"
      rw [hj]
      refine g_ixL ht2 (atI_getD (j := j) jl) ?_
      fail "go"
      refine g_ixT (T.q_BITS _) b1 ?_
      refine g_div (.inl ⟨b2, by omega⟩) ?_
      fail "go"
      refine g_ite (fun e => ?_) (fun e => ?_)
      · fail "go"
        rename_i H4 g4 h4 s4
        refine ⟨_, us ++ [((i + 1 : Nat) : Int)], rfl, s4, ?_, by rw [List.length_append, List.length_singleton]; omega, fun x h => ?_⟩
        · rw [h4, List.map_append]; rfl
        · rcases List.mem_append.mp h with h | h
          · exact hx x h
          · rw [List.mem_singleton] at h; omega
      · fail "go"
        exact ⟨_, us, rfl, s2, h2, by omega, hx⟩
    · rintro σ H2 ⟨x0, us, rfl, s2, h2, hl, hx⟩
      fail "go"
      refine g_tupL (SqL.of h2) ?_
      fail "newM"
      rename_i q H3 n3 g3 m3 h3 s3
      fail "go"
      exact hq _ _ us s3 m3 h3 hx (by omega)
end
def spReadBody (K : PySem.W.Frag) (C : Addr) : Sp := fun vs H Q _ => ∃ (a t : Addr) (L : Lay) (k : Int) (l : List Int), vs = [.ref a, .int k, .ref t] ∧ LayAt C H a L ∧ L.Ok ∧ SqL K H t (l.map V.int) ∧ 1 ≤ k ∧ k ≤ 5 ∧ (l.length : Int) = L.oct ∧ (∀ n ∈ l, 0 ≤ n ∧ n < 256) ∧
  ((3 ≤ k ∧ ∀ p H', Same H H' → H p = none → H' p = some (.tup ((if k = 3 then l else halves l).map V.int)) → Q (.ref p) H') ∨ (k < 3 ∧ ∀ v H', Same H H' → (v = .non ∨ ∃ q, v = .ref q ∧ SumB K H' L k v) → Q v H'))
theorem halves_len (l : List Int) : (halves l).length = l.length / 2 := by unfold halves; rw [List.length_map, List.length_range]
theorem getD_rng {l : List Int} (h : ∀ n ∈ l, 0 ≤ n ∧ n < 256) {i : Nat} (hi : i < l.length) : 0 ≤ l.getD i 0 ∧ l.getD i 0 < 256 := by
  rw [List.getD_eq_getElem?_getD, List.getElem?_eq_getElem hi]; exact h _ (List.getElem_mem hi)
section
variable {P : Program} {w : World} {K : PySem.W.Frag} {mg : Str → Option Value} {base : Heap}
theorem ok_read_body (T : Txt P K mg) : FnOk P w K mg base CX0 2 T.f_read_body T.fd_read_body ["layout", "kind", "octets"] (spReadBody K T.C_Layout) := by
  have cl_Layout := T.cl_Layout
  have a_Layout_payload := T.a_Layout_payload
  have a_Layout_last_id := T.a_Layout_last_id
  have G_numbers_of := ok_numbers_of (P := P) (w := w) (base := base) T
  have G_used_of := ok_used_of (P := P) (w := w) (base := base) T
  refine T.F_read_body.ok sc_read_body (fun vs H Q E h => ?_) (fun cdv A outer s H vs Q E hr h => ?_)
  · obtain ⟨a, t, L, k, l, rfl, ⟨dx, ha⟩, hL, ht, hk1, hk5, hlen, hrg, hcase⟩ := h
    rfl
  · obtain ⟨a, t, L, k, l, rfl, ⟨dx, ha⟩, hL, ht, hk1, hk5, hlen, hrg, hcase⟩ := h
    refine ⟨_, (pss_cons (ps_if (pt_cmpR (opEqU (K := K) hr.units) (pv 1) (pe_glob rfl T.g_DATA T.r_DATA) (nomark _)) (pss_one (ps_ret (pe_callTy (callTupU (K := K)) (by rfl) T.n_tuple (by decide +kernel) (pa_cons (pv 2) pa_nil)))) pss_nil)
      (pss_cons (ps_if (PW.pt (pw_and (pt_cmpR (opNeU (K := K) hr.units) (pv 1) (pe_glob rfl T.g_COMMIT T.r_COMMIT) (nomark _)) (pw_and1 (pt_cmpR (opNeU (K := K) hr.units) (pv 1) (pe_glob rfl T.g_MOVE T.r_MOVE) (nomark _))))) (pss_one (ps_ret (pe_callTy (callTupU (K := K)) (by rfl) T.n_tuple (by decide +kernel) (pa_cons (pe_call G_numbers_of (hr.mono (by decide)) rfl T.g_numbers_of T.F_numbers_of.kp T.b_numbers_of .nil pass0 (pa_cons (pv 2) pa_nil)) pa_nil)))) pss_nil)
      (pss_cons (ps_set (i := 3) sc_read_body.nd rfl (by first | exact Or.inl rfl | exact Or.inr rfl) (pe_op (opAddU (K := K)) (pe_ix (ixU (K := K)) (pv 2) pe_int (fun _ _ => rfl)) (pe_op opMultU pe_int (pe_ix (ixU (K := K)) (pv 2) pe_int (fun _ _ => rfl)))))
      (pss_cons (ps_if (PW.pt (pw_or (pt_cmpR op_gt (pv 3) (pe_fldK (K := K) (pv 0) rfl) (nomark _)) (pw_or1 (pt_cmpR op_gt (pe_ix (ixU (K := K)) (pv 2) pe_int (fun _ _ => rfl)) (pe_glob rfl T.g_MOST_ACTION T.r_MOST_ACTION) (nomark _))))) (pss_one (ps_ret pe_non)) pss_nil)
      (pss_cons (ps_set (i := 4) sc_read_body.nd rfl (by first | exact Or.inl rfl | exact Or.inr rfl) (pe_callTy (callTupU (K := K)) (by rfl) T.n_tuple (by decide +kernel) (pa_cons (pe_call G_numbers_of (hr.mono (by decide)) rfl T.g_numbers_of T.F_numbers_of.kp T.b_numbers_of .nil pass0 (pa_cons (pe_slice (slU (K := K)) (pv 2) (po_some (pe_glob rfl T.g_HEADER T.r_HEADER)) (po_some (pe_op (opAddU (K := K)) (pe_glob rfl T.g_HEADER T.r_HEADER) (pe_op opMultU pe_int (pv 3))))) pa_nil)) pa_nil)))
      (pss_cons (ps_if (pt_cmpR (opEqU (K := K) hr.units) (pv 1) (pe_glob rfl T.g_MOVE T.r_MOVE) (nomark _)) (pss_one (ps_ret (pv 4))) pss_nil)
      (pss_cons (ps_set (i := 5) sc_read_body.nd rfl (by first | exact Or.inl rfl | exact Or.inr rfl) (pe_slice (slU (K := K)) (pv 2) (po_some (pe_op (opAddU (K := K)) (pe_glob rfl T.g_HEADER T.r_HEADER) (pe_op opMultU pe_int (pe_fldK (K := K) (pv 0) rfl)))) po_none))
      (pss_one (ps_ret (pe_tup (pa_cons (pv 4) (pa_cons (pe_call G_used_of (hr.mono (by decide)) rfl T.g_used_of T.F_used_of.kp T.b_used_of .nil pass0 (pa_cons (pv 5) (pa_cons (pe_fldK (K := K) (pv 0) rfl) pa_nil))) (pa_cons (pe_ix (ixU (K := K)) (pv 2) pe_int (fun _ _ => rfl)) pa_nil))))))))))))), ?_⟩
    try dsimp only [cxOf]
    have r0 := Same.refl H
    have o1 := hL.o1
    rcases hcase with ⟨k3, hq⟩ | ⟨k3, hq⟩
    · fail "go"
      refine g_ite (fun e => ?_) (fun e => ?_)
      · fail "go"
        refine g_tupL ht ?_
        intro p np
        refine hq _ _ (Gr.newM (M := []) r0 np).rh np ?_
        rw [if_pos e]; exact upd_same
      fail "go"
      refine g_iteN (fun _ => ?_) (fun z => by omega)
      fail "go"
      refine g_iteN (fun _ => ?_) (fun z => by omega)
      fail "go"
      refine ⟨t, l, rfl, ht, by omega, ?_⟩
      fail "ret"
      rename_i p H1 h1 f1 g1 m1 s1
      fail "go"
      refine g_tupL (SqL.of h1) ?_
      fail "newM"
      rename_i q H2 n2 g2 m2 h2 s2
      refine hq _ _ s2 m2 ?_
      rw [h2, if_neg e]
    · have b1 := hL.b1
      have b2 := hL.b2
      have fit := hL.fits
      have pl : L.payload = L.blk - 1 := rfl
      obtain ⟨lb0, lb1⟩ := last_big hL
      have pp : 0 ≤ partsOf L.lastId 8 ∧ L.lastId ≤ 8 * partsOf L.lastId 8 := by unfold partsOf; omega
      have c5 := getD_rng hrg (i := 5) (by omega)
      have c6 := getD_rng hrg (i := 6) (by omega)
      obtain ⟨c, hc⟩ := Int.eq_ofNat_of_zero_le (show 0 ≤ l.getD 5 0 + 256 * l.getD 6 0 by omega)
      fail "go"
      refine g_iteF (decide_eq_false (by omega)) ?_
      have kk : k = 1 ∨ k = 2 := by omega
      fail "gi"
      try dsimp only
      refine g_seqIN (fun σ H' => σ = [some (.ref a), some (.int k), some (.ref t), none, none, none] ∧ H' = H) ?_ (fun N rest => ?_)
      · rintro σ H1 ⟨rfl, rfl⟩
        fail "go"
        refine g_ixL ht (atI_getD (j := 5) (by omega)) ?_
        fail "go"
        refine g_ixL ht (atI_getD (j := 6) (by omega)) ?_
        fail "gi"
        rw [hc]
        try dsimp only
        refine g_seqIN (fun σ H' => σ = [some (.ref a), some (.int k), some (.ref t), some (.int (c : Int)), none, none] ∧ H' = H1 ∧ (c : Int) ≤ L.payload) ?_ (fun N rest => ?_)
        · rintro σ H2 ⟨rfl, rfl, cp⟩
          fail "go"
          refine g_slLI (i := 16) (j := 16 + 2 * c) ht rfl (by omega) (by omega) (by omega) ?_
          fail "newM"
          rename_i p1 H1 n1 g1 m1 h1 s1
          have sl : ((l.drop 16).take (16 + 2 * c - 16)).length = 2 * c := by rw [List.length_take, List.length_drop]; omega
          fail "go"
          refine ⟨p1, _, rfl, SqL.of h1, by omega, ?_⟩
          fail "ret"
          rename_i p2 H2 h2 f2 g2 m2 s2
          fail "go"
          refine g_tupL (SqL.of h2) ?_
          fail "newM"
          rename_i p3 H3 n3 g3 m3 h3 s3
          have hn : ((halves ((l.drop 16).take (16 + 2 * c - 16))).length : Int) ≤ L.payload := by rw [halves_len, sl]; omega
          generalize halves ((l.drop 16).take (16 + 2 * c - 16)) = ns at h2 h3 hn
          have ht3 := sqL_mono s3 ht
          have ha3 := s3 _ _ ha
          clear h1 h2 g1 g2 g3 s1 s2 r0
          fail "go"
          rcases kk with rfl | rfl
          · refine g_iteF rfl ?_
            fail "go"
            refine g_slLlo (i := 16 + 2 * (L.blk - 1).toNat) ht3 (by omega) (by omega) ?_
            fail "newM"
            rename_i p4 H4 n4 g4 m4 h4 s4
            have h34 := g4.g.same _ _ h3
            have ha4 := s4 _ _ ha
            have ht4 := sqL_mono s4 ht
            clear g4 h3 ha3 ht3 s3
            fail "go"
            refine ⟨p4, _, L.lastId, rfl, SqL.of h4, lb0, lb1, by rw [List.length_drop]; omega, fun p5 H5 us s5 n5 h5 hu ul => ?_⟩
            have h35 := s5 _ _ h34
            have ht5 := sqL_mono s5 ht4
            have s05 := s4.trans s5
            clear h34 h4 ha4 ht4 s4
            fail "go"
            refine g_ixL ht5 (atI_getD (j := 7) (by omega)) ?_
            fail "go"
            refine ⟨by fail "sz", ?_⟩
            fail "newM"
            rename_i p6 H6 n6 g6 m6 h6 s6
            exact hq _ _ s6 (.inr ⟨p6, rfl, p3, ns, SqT.of (g6.g.same _ _ h35), hn, .inr ⟨rfl, p6, p5, us, _, rfl, SqT.of h6, SqT.of (g6.g.same _ _ h5), hu⟩⟩)
          · refine g_iteT rfl ?_
            fail "go"
            exact hq _ _ s3 (.inr ⟨p3, rfl, p3, ns, SqT.of h3, hn, .inl ⟨rfl, rfl⟩⟩)
        · fail "go"
          refine g_ite (fun e => ?_) (fun e => ?_)
          · fail "go"
            exact hq _ _ r0 (.inl rfl)
          · fail "go"
            refine g_ixL ht (atI_getD (j := 7) (by omega)) ?_
            fail "go"
            refine g_ite (fun e7 => ?_) (fun e7 => ?_)
            · fail "go"
              exact hq _ _ r0 (.inl rfl)
            · fail "go"
              exact rest _ _ ⟨rfl, rfl, by omega⟩
      · rcases kk with rfl | rfl
        · fail "go"
          exact rest _ _ ⟨rfl, rfl⟩
        · fail "go"
          exact rest _ _ ⟨rfl, rfl⟩
end
def spNumOf (K : PySem.W.Frag) : Sp := fun vs H Q _ => ∃ (t : Addr) (l : List Int), vs = [.ref t] ∧ (SqL K H t (l.map V.int) ∨ SqT K H t (l.map V.int)) ∧ Q (.int (numOf l)) H
def NumInv (t : Addr) (l : List Int) (H0 : Hp) (i : Nat) (σ : St) (H : Hp) : Prop := ∃ x : Option V, σ = [some (.ref t), some (.int (numOf (l.drop (l.length - i)))), x] ∧ H = H0
theorem num_step {l : List Int} {i : Nat} {n : Int} (hi : i < l.length) (h : l[l.length - 1 - i]? = some n) : numOf (l.drop (l.length - (i + 1))) = numOf (l.drop (l.length - i)) * 256 + n := by
  obtain ⟨hl, rfl⟩ := List.getElem?_eq_some_iff.mp h
  have e : l.length - (i + 1) = l.length - 1 - i := by omega
  have e2 : l.length - i = l.length - 1 - i + 1 := by omega
  rw [e, e2, List.drop_eq_getElem_cons hl, numOf]
section
variable {P : Program} {w : World} {K : PySem.W.Frag} {mg : Str → Option Value} {base : Heap}
theorem ok_number_of (T : Txt P K mg) : FnOk P w K mg base CX0 1 T.f_number_of T.fd_number_of ["octets"] (spNumOf K) := by
  refine T.F_number_of.ok sc_number_of (fun vs H Q E h => ?_) (fun cdv A outer s H vs Q E hr h => ?_)
  · obtain ⟨t, l, rfl, ht, hq⟩ := h
    rfl
  · obtain ⟨t, l, rfl, ht, hq⟩ := h
    refine ⟨_, (pss_cons (ps_set (i := 1) sc_number_of.nd rfl (by first | exact Or.inl rfl | exact Or.inr rfl) pe_int)
      (pss_cons (ps_for PassesOwn.never rfl (pi_revK (K := K) (by rfl) T.n_reversed (pv 0)) (pg_name (i := 2) sc_number_of.nd rfl (by first | exact Or.inl rfl | exact Or.inr rfl)) (pss_one (ps_set (i := 1) sc_number_of.nd rfl (by first | exact Or.inl rfl | exact Or.inr rfl) (pe_op (opAddU (K := K)) (pe_op opMultU (pv 1) pe_int) (pv 2)))))
      (pss_one (ps_ret (pv 1))))), ?_⟩
    try dsimp only [cxOf]
    have r0 := Same.refl H
    fail "go"
    have i0 : NumInv t l H 0 ((L2.start N_number_of [V.ref t]).set 1 (some (.int 0))) H := ⟨none, by rw [Nat.sub_zero, List.drop_length]; rfl, rfl⟩
    rcases ht with ht | ht
    · refine ⟨t, _, rfl, .inl ⟨ht, ?_⟩⟩
      refine RT.for_Itv (NumInv t l H) i0 (fun i σ H2 ⟨_, _, e⟩ => e ▸ ht) ?_ ?_
      · rintro i x σ H2 hi hx ⟨x0, rfl, rfl⟩
        rw [List.length_map] at hi hx
        obtain ⟨n, hn, rfl⟩ := map_get hx
        fail "go"
        exact ⟨_, by rw [num_step hi hn]; rfl, rfl⟩
      · rintro σ H2 ⟨x0, rfl, rfl⟩
        rw [List.length_map, Nat.sub_self, List.drop_zero]
        fail "go"
        exact hq
    · refine ⟨t, _, rfl, .inr ⟨ht, ?_⟩⟩
      refine RT.for_ItvT (NumInv t l H) i0 (fun i σ H2 ⟨_, _, e⟩ => e ▸ ht) ?_ ?_
      · rintro i x σ H2 hi hx ⟨x0, rfl, rfl⟩
        rw [List.length_map] at hi hx
        obtain ⟨n, hn, rfl⟩ := map_get hx
        fail "go"
        exact ⟨_, by rw [num_step hi hn]; rfl, rfl⟩
      · rintro σ H2 ⟨x0, rfl, rfl⟩
        rw [List.length_map, Nat.sub_self, List.drop_zero]
        fail "go"
        exact hq
end
def spReadBlock (K : PySem.W.Frag) (C : Addr) : Sp := fun vs H Q _ => ∃ (a t : Addr) (L : Lay) (o : List Int), vs = [.ref a, .ref t] ∧ LayAt C H a L ∧ L.Ok ∧ OW L o ∧ SqL K H t (o.map V.int) ∧ ∀ w H', Same H H' → NewDp K H H' w (optD (readO o)) → Q w H'
theorem readO_kind {o : List Int} (h : ¬ (3 ≤ o.getD 0 0 ∧ o.getD 0 0 ≤ 5)) : readO o = none := by rw [readO_eq, if_neg (fun z => h ⟨z.1, z.2.1⟩)]
section
variable {P : Program} {w : World} {K : PySem.W.Frag} {mg : Str → Option Value} {base : Heap}
theorem ok_read_block (T : Txt P K mg) : FnOk P w K mg base CX0 5 T.f_read_block T.fd_read_block ["layout", "octets"] (spReadBlock K T.C_Layout) := by
  have G_read_body := ok_read_body (P := P) (w := w) (base := base) T
  have G_number_of := ok_number_of (P := P) (w := w) (base := base) T
  have G_block_octets := ok_block_octets (P := P) (w := w) (base := base) T
  refine T.F_read_block.ok sc_read_block (fun vs H Q E h => ?_) (fun cdv A outer s H vs Q E hr h => ?_)
  · obtain ⟨a, t, L, o, rfl, ha, hL, ho, ht, hq⟩ := h
    rfl
  · obtain ⟨a, t, L, o, rfl, ha, hL, ho, ht, hq⟩ := h
    refine ⟨_, (pss_cons (ps_set (i := 2) sc_read_block.nd rfl (by first | exact Or.inl rfl | exact Or.inr rfl) (pe_ix (ixU (K := K)) (pv 1) pe_int (fun _ _ => rfl)))
      (pss_cons (ps_if (PW.pt (pw_or (pt_cmpR op_lt (pv 2) (pe_glob rfl T.g_COMMIT T.r_COMMIT) (nomark _)) (pw_or1 (pt_cmpR op_gt (pv 2) (pe_glob rfl T.g_PART T.r_PART) (nomark _))))) (pss_one (ps_ret pe_non)) pss_nil)
      (pss_cons (ps_set (i := 3) sc_read_block.nd rfl (by first | exact Or.inl rfl | exact Or.inr rfl) (pe_call G_read_body (hr.mono (by decide)) rfl T.g_read_body T.F_read_body.kp T.b_read_body .nil pass0 (pa_cons (pv 0) (pa_cons (pv 2) (pa_cons (pe_slice (slU (K := K)) (pv 1) (po_some (pe_glob rfl T.g_SPARE T.r_SPARE)) po_none) pa_nil)))))
      (pss_cons (ps_if (pt_cmpR opIsU (pv 3) pe_non (nomark _)) (pss_one (ps_ret pe_non)) pss_nil)
      (pss_cons (ps_set (i := 4) sc_read_block.nd rfl (by first | exact Or.inl rfl | exact Or.inr rfl) (pe_tup (pa_cons (pv 2) (pa_cons (pe_call G_number_of (hr.mono (by decide)) rfl T.g_number_of T.F_number_of.kp T.b_number_of .nil pass0 (pa_cons (pe_slice (slU (K := K)) (pv 1) (po_some pe_int) (po_some pe_int)) pa_nil)) (pa_cons (pe_call G_number_of (hr.mono (by decide)) rfl T.g_number_of T.F_number_of.kp T.b_number_of .nil pass0 (pa_cons (pe_slice (slU (K := K)) (pv 1) (po_some pe_int) (po_some pe_int)) pa_nil)) (pa_cons (pv 3) pa_nil))))))
      (pss_cons (ps_if (pt_cmpR (opNeU (K := K) hr.units) (pe_call G_block_octets (hr.mono (by decide)) rfl T.g_block_octets T.F_block_octets.kp T.b_block_octets .nil pass0 (pa_cons (pv 0) (pa_cons (pv 4) pa_nil))) (pv 1) (nomark _)) (pss_one (ps_ret pe_non)) pss_nil)
      (pss_one (ps_ret (pv 4))))))))), ?_⟩
    try dsimp only [cxOf]
    have r0 := Same.refl H
    have o1 := hL.o1
    have hlen := ho.len
    have d16 : ((o.drop 16).length : Int) = L.oct := by rw [List.length_drop]; omega
    have rng16 : ∀ n ∈ o.drop 16, 0 ≤ n ∧ n < 256 := fun n hn => ho.rng n (List.mem_of_mem_drop hn)
    have k00 : 0 ≤ o.getD 0 0 ∧ o.getD 0 0 < 256 := by
      rw [List.getD_eq_getElem?_getD, List.getElem?_eq_getElem (show 0 < o.length by omega)]; exact ho.rng _ (List.getElem_mem _)
    have nnon : ∀ H', NewDp K H H' .non .none := fun H' R => .non
    fail "go"
    refine g_ixL ht (show atI _ ((0 : Nat) : Int) = some (.int (o.getD 0 0)) from atI_getD (by omega)) ?_
    fail "go"
    refine g_ite (fun e => ?_) (fun e1 => ?_)
    · fail "go"
      refine hq _ _ r0 ?_
      rw [readO_kind (by omega)]
      exact nnon _
    fail "go"
    refine g_ite (fun e => ?_) (fun e5 => ?_)
    · fail "go"
      refine hq _ _ r0 ?_
      rw [readO_kind (by omega)]
      exact nnon _
    fail "go"
    refine g_slLlo (i := 16) ht rfl (by omega) ?_
    fail "newM"
    rename_i p1 H1 n1 g1 m1 h1 s1
    fail "go"
    by_cases k3 : 3 ≤ o.getD 0 0
    · refine ⟨a, p1, L, o.getD 0 0, o.drop 16, rfl, ha.mono s1, hL, SqL.of h1, by omega, by omega, d16, rng16, .inl ⟨k3, ?_⟩⟩
      fail "ret"
      rename_i p2 H2 h2 f2 g2 m2 s2
      have ht2 := sqL_mono s2 ht
      clear g1 g2 s1 h1
      fail "go"
      refine g_slLI (i := 1) (j := 7) ht2 rfl rfl (by decide) (by omega) ?_
      fail "newM"
      rename_i p3 H3 n3 g3 m3 h3 s3
      fail "go"
      refine ⟨p3, _, rfl, .inl (SqL.of h3), ?_⟩
      have ht3 := sqL_mono s3 ht
      fail "go"
      refine g_slLI (i := 7) (j := 9) ht3 rfl rfl (by decide) (by omega) ?_
      fail "newM"
      rename_i p4 H4 n4 g4 m4 h4 s4
      fail "go"
      refine ⟨p4, _, rfl, .inl (SqL.of h4), ?_⟩
      have h24 := g4.g.same _ _ (g3.g.same _ _ h2)
      clear h2 h3 h4 g3 g4 s2 s3
      fail "go"
      refine ⟨by fail "sz", ?_⟩
      fail "newM"
      rename_i p5 H5 n5 g5 m5 h5 s5
      have h25 := g5.g.same _ _ h24
      have db : Dp K H5 (.ref p5) (bareO o).d := .tup (SqT.of h5) (.cons (.int _) (.cons (.int _) (.cons (.int _) (.cons (.tup (SqT.of h25) (dpAll_ints _)) .nil))))
      have okb : BlkOk (some (bareO o)) := ⟨k3, by
        show (if o.getD 0 0 = 3 then o.drop 16 else halves (o.drop 16)).length ≤ 300
        split
        · omega
        · rw [halves_len]; omega⟩
      clear g5 h24 s4
      fail "go"
      refine ⟨a, _, L, rfl, ha.mono s5, hL, .inl ⟨some (bareO o), db, okb, ?_⟩⟩
      intro p6 H6 s6 n6 h6
      have s06 := s5.trans s6
      have ht6 := sqL_mono s06 ht
      have nd : NewDp K H H6 (.ref p5) (bareO o).d := fun R => .tup (SqT.of (adopt_at m5 (s6 _ _ h5))) (.cons (.int _) (.cons (.int _) (.cons (.int _) (.cons (.tup (SqT.of (adopt_at m2 (s6 _ _ h25))) (dpAll_ints _)) .nil))))
      clear h5 h25 s5 s6
      fail "go"
      refine g_neDa (.lst (SqL.of h6) (dpAll_ints _)) (.lst ht6 (dpAll_ints _)) (la_shaped (la_lst (n := 0) la_ints)) (la_shaped (la_lst (n := 0) la_ints)) (.inl ⟨_, rfl⟩) ?_
      rw [eqv_dec (b := decide (octs L (some (bareO o)) = o)) (by rw [clean]; exact clean_ints _) (by rw [clean]; exact clean_ints _) (by rw [decide_eq_true_iff]; exact ⟨fun h => by rw [h], fun h => ints_inj (by injection h)⟩)]
      have iff := ho.bare_octs hL k3
      fail "go"
      refine g_iteN (fun e => ?_) (fun e => ?_)
      · fail "go"
        refine hq _ _ s06 ?_
        rw [readO_eq, if_neg (fun z => e (iff.mpr z.2.2))]
        exact nnon _
      · fail "go"
        refine hq _ _ s06 ?_
        rw [readO_eq, if_pos ⟨k3, by omega, iff.mp e⟩]
        exact nd
    · refine ⟨a, p1, L, o.getD 0 0, o.drop 16, rfl, ha.mono s1, hL, SqL.of h1, by omega, by omega, d16, rng16, .inr ⟨by omega, ?_⟩⟩
      intro v H2 s2 hv
      have s12 := s1.trans s2
      have ro : readO o = none := readO_kind (by omega)
      clear g1 h1
      rcases hv with rfl | ⟨q, rfl, hsum⟩
      · fail "go"
        refine hq _ _ s12 ?_
        rw [ro]
        exact nnon _
      · have ht2 := sqL_mono s12 ht
        clear s1 s2
        fail "go"
        refine g_slLI (i := 1) (j := 7) ht2 rfl rfl (by decide) (by omega) ?_
        fail "newM"
        rename_i p3 H3 n3 g3 m3 h3 s3
        fail "go"
        refine ⟨p3, _, rfl, .inl (SqL.of h3), ?_⟩
        have ht3 := sqL_mono s3 ht
        fail "go"
        refine g_slLI (i := 7) (j := 9) ht3 rfl rfl (by decide) (by omega) ?_
        fail "newM"
        rename_i p4 H4 n4 g4 m4 h4 s4
        fail "go"
        refine ⟨p4, _, rfl, .inl (SqL.of h4), ?_⟩
        have hs4 := hsum.mono (g3.g.same.trans g4.g.same)
        clear h3 h4 g3 g4 s12 s3
        fail "go"
        refine ⟨by fail "sz", ?_⟩
        fail "newM"
        rename_i p5 H5 n5 g5 m5 h5 s5
        fail "go"
        refine ⟨a, _, L, rfl, ha.mono s5, hL, .inr ⟨p5, q, _, _, _, rfl, SqT.of h5, hs4.mono g5.g.same, ?_⟩⟩
        intro p6 H6 l s6 n6 h6 e16 e19 ll
        have s06 := s5.trans s6
        have ht6 := sqL_mono s06 ht
        have ne : ¬ l = o := by
          rintro rfl
          rcases ho.no with h | h
          · exact h e16
          · exact h e19
        clear h5 s5 s6 g5
        fail "go"
        refine g_neDa (.lst (SqL.of h6) (dpAll_ints _)) (.lst ht6 (dpAll_ints _)) (la_shaped (la_lst (n := 0) la_ints)) (la_shaped (la_lst (n := 0) la_ints)) (.inl ⟨_, rfl⟩) ?_
        rw [eqv_dec (b := decide (l = o)) (by rw [clean]; exact clean_ints _) (by rw [clean]; exact clean_ints _) (by rw [decide_eq_true_iff]; exact ⟨fun h => by rw [h], fun h => ints_inj (by injection h)⟩)]
        fail "go"
        refine g_iteN (fun e => ?_) (fun e => absurd e ne)
        fail "go"
        refine hq _ _ s06 ?_
        rw [ro]
        exact nnon _
end
def spRot (K : PySem.W.Frag) (CL CS CD : Addr) : Sp := fun vs H Q _ => ∃ (R : Hp) (s a : Addr) (L : Lay) (z : Int) (m : Rows) (ms : List Addr) (n i : Nat) (v : Int), vs = [.ref s, .int (n : Int), .int (i : Int), .int v] ∧ Same R H ∧ LayAt CL R a L ∧ L.Ok ∧ SideOk K CS CD R H s a z m ms ∧ RsW L 100 m ∧ n < m.sure.length ∧ (i : Int) < 16 + L.oct ∧ 0 ≤ v ∧ v < 80 ∧
  ∀ R' H', Gr ms R H R' H' → SideOk K CS CD R' H' s a z (m.rot L n i v) ms → Q .non H'
section
variable {P : Program} {w : World} {K : PySem.W.Frag} {mg : Str → Option Value} {base : Heap}
theorem ok_Side_rot (T : Txt P K mg) : FnOk P w K mg base CX0 6 T.f_Side_rot T.fd_Side_rot ["self", "address", "place", "octet"] (spRot K T.C_Layout T.C_Side T.C_Device) := by
  have cl_Device := T.cl_Device
  have cl_Side := T.cl_Side
  have a_Device_sure := T.a_Device_sure
  have a_Side_device := T.a_Side_device
  have a_Side_layout := T.a_Side_layout
  have G_block_octets := ok_block_octets (P := P) (w := w) (base := base) T
  have G_Device_decay := ok_Device_decay (P := P) (w := w) (base := base) T
  have G_read_block := ok_read_block (P := P) (w := w) (base := base) T
  refine T.F_Side_rot.ok sc_Side_rot (fun vs H Q E h => ?_) (fun cdv A outer s H vs Q E hr h => ?_)
  · obtain ⟨R, s, a, L, z, m, ms, n, i, v, rfl, sR, ha, hL, hso, mw, hn, hi, v0, v1, hq⟩ := h
    rfl
  · obtain ⟨R, s, a, L, z, m, ms, n, i, v, rfl, sR, ha, hL, hso, mw, hn, hi, v0, v1, hq⟩ := h
    refine ⟨_, (pss_cons (ps_set (i := 4) sc_Side_rot.nd rfl (by first | exact Or.inl rfl | exact Or.inr rfl) (pe_ix (ixU (K := K)) (pe_fldK (K := K) (pe_fldK (K := K) (pv 0) rfl) rfl) (pv 1) (fun _ _ => rfl)))
      (pss_cons (ps_if (PW.pt (pw_or (pt_cmpR opIsU (pv 4) pe_non (nomark _)) (pw_or1 (pt_cmpR opIsU (pe_ix (ixU (K := K)) (pv 4) pe_int (fun _ _ => rfl)) pe_non (nomark _))))) (pss_one ps_retN) pss_nil)
      (pss_cons (ps_set (i := 5) sc_Side_rot.nd rfl (by first | exact Or.inl rfl | exact Or.inr rfl) (pe_call G_block_octets (hr.mono (by decide)) rfl T.g_block_octets T.F_block_octets.kp T.b_block_octets .nil pass0 (pa_cons (pe_fldK (K := K) (pv 0) rfl) (pa_cons (pe_ix (ixU (K := K)) (pv 4) pe_int (fun _ _ => rfl)) pa_nil))))
      (pss_cons (ps_asg (pv 3) (pg_sub (pv 5) (pv 2) set_list))
      (pss_one (ps_expr (pe_meth (pe_fldK (K := K) (pv 0) rfl) T.cl_Device T.m_Device_decay G_Device_decay (hr.mono (by decide)) T.b_Device_decay .nil pass0 (pa_cons (pv 1) (pa_cons (pe_tup (pa_cons (pe_call G_read_block (hr.mono (by decide)) rfl T.g_read_block T.F_read_block.kp T.b_read_block .nil pass0 (pa_cons (pe_fldK (K := K) (pv 0) rfl) (pa_cons (pv 5) pa_nil))) (pa_cons (pe_ix (ixU (K := K)) (pv 4) pe_int (fun _ _ => rfl)) pa_nil))) pa_nil))))))))), ?_⟩
    try dsimp only [cxOf]
    have hso0 := hso
    obtain ⟨d, ds, rfl, ⟨⟨sx, hs⟩, nin, non, dev⟩⟩ := hso
    obtain ⟨l1, l2, l3, eds, ⟨dx, hd⟩, nd, non', u1, u2, u3, h1, h2, h3, d1, d2, d3⟩ := id dev
    obtain ⟨lx, haf⟩ := ha
    have haH := sR _ _ haf
    obtain ⟨c, hc⟩ : ∃ c, m.sure[n]? = some c := ⟨m.sure[n], List.getElem?_eq_getElem hn⟩
    obtain ⟨cv, hcv, dcv⟩ := cells_get d1 hc
    have wc := mw.c1 c (List.mem_of_getElem? hc)
    fail "go"
    refine g_ixL (SqL.of h1) (atI_nat hcv) ?_
    fail "go"
    rcases c with _ | ⟨_ | b, k⟩
    · obtain rfl := dp_non dcv
      fail "go"
      have e : m.rot L n i v = m := by unfold Rows.rot; rw [hc]
      exact hq R H (Gr.refl sR) (e.symm ▸ hso0)
    · obtain ⟨t, x, y, rfl, ht, hx, hy⟩ := dpT2 dcv
      obtain rfl := dp_non hx
      have htH := sqT_mono sR ht
      fail "go"
      have e : m.rot L n i v = m := by unfold Rows.rot; rw [hc]
      exact hq R H (Gr.refl sR) (e.symm ▸ hso0)
    · have hb : BW L b := wc b rfl
      obtain ⟨t, x, y, rfl, ht, hx, hy⟩ := dpT2 dcv
      obtain rfl := dp_int hy
      obtain ⟨bt, bu, rfl, hbt, hbu⟩ := dpBlk hx
      have htH := sqT_mono sR ht
      fail "go"
      refine ⟨a, _, L, rfl, ⟨_, haH⟩, hL, .inl ⟨some b, dp_mono sR hx, blkOk_of hL fun x e => by cases e; exact hb.x, ?_⟩⟩
      intro p H1 s1 n1 h1p
      have ow := OW.of hL hb
      have gA : Mu [] R H H1 := .ofSame sR s1
      have m1 := sR.free n1
      have hs1 := s1 _ _ hs
      have hd1 := s1 _ _ hd
      have ht1 := sqT_mono s1 htH
      have ha1 := s1 _ _ haH
      have ns : s ≠ p := ne_of_none hs n1
      clear hd h2 h3 h1 haH htH hbt hbu
      have sR1 := gA.g.rh
      have ol := ow.len
      fail "go"
      refine g_setL (j := i) h1p (ixN_nat (by rw [List.length_map]; omega)) ?_
      fail "mut"
      rename_i H2 g2 h2p s2
      rw [← List.map_set] at h2p
      have gB : Mu [] R H H2 := ⟨(gA.g.nil.trans g2.g).forget (by intro y hy hn; rw [List.mem_singleton.mp hy]; exact n1)⟩
      have ha2 := s2 _ _ haf
      have ht2 := sqT_mono s2 ht
      have hs2 := g2.g.hh _ _ (nin1 ns) hs1
      have dev2 := dev.frame gB.g (fun _ _ => List.not_mem_nil)
      have ow2 := ow.set v0 v1 i
      obtain ⟨dx2, k1, k2, k3, hd2⟩ := dev2.ins
      clear g2 hs1 hd1 ht1 ha1 h1p gA s1 sR1
      fail "go"
      refine ⟨a, p, L, _, rfl, ⟨_, ha2⟩, hL, ow2, SqL.of h2p, fun w H3 s3 nw => ?_⟩
      have gC : Gr [] R H (adopt R H2 H3) H3 := gB.g.trans (adopt_gr s2 s3)
      have dw := nw R
      have hs3 := s3 _ _ hs2
      have ht3 := sqT_mono s3 ht2
      have dev3 := dev2.frame (adopt_gr s2 s3) (fun _ _ => List.not_mem_nil)
      have haf3 := gC.rr _ _ haf
      have s33 := gC.rh
      have R3s : adopt R H2 H3 s = none := gC.fr _ _ hs non
      generalize adopt R H2 H3 = R3 at *
      clear dev2 hd2 hs2 ht2 ha2 gB h2p nw s2 s3
      fail "go"
      refine ⟨by fail "sz", ?_⟩
      fail "newR"
      rename_i p4 H4 R4 f4 g4 h4 s4
      have hs4 := g4.same _ _ hs3
      have dev4 := dev3.frame g4 (fun _ _ => List.not_mem_nil)
      obtain ⟨dx4, j1, j2, j3, hd4⟩ := dev4.ins
      have gD : Gr [] R H R4 H4 := gC.trans g4
      have dc4 : Dp K R4 (.ref p4) (cellD (some (readO ((octs L (some b)).set i v), k))) := .tup (SqT.of h4) (.cons (dp_mono g4.rr dw) (.cons (.int _) .nil))
      have R4s : R4 s = none := g4.fr _ _ hs3 R3s
      clear g4 dev3 hs3 ht3 h4 gC s33 haf3
      fail "go"
      have ls := mw.ls
      have ln := mw.ln
      refine ⟨R4, d, a, m, ds, _, n, _, rfl, s4, dev4, by omega, hn, mw.lw, dc4, fun H5 g5 d5 => ?_⟩
      have sds : ∀ x ∈ ds, x ∈ s :: ds := fun x hx => List.mem_cons_of_mem _ hx
      have hs5 := g5.hh _ _ nin hs4
      have R5s := g5.fr _ _ hs4 R4s
      fail "go"
      have e : m.rot L n i v = m.decay n (some (readO ((octs L (some b)).set i v), k)) := by unfold Rows.rot; rw [hc]
      rw [e] at hq
      exact hq R4 H5 (gD.nil.trans (g5.mono sds)) ⟨d, ds, rfl, ⟨⟨sx, hs5⟩, nin, R5s, d5⟩⟩
end
def spLawRead (K : PySem.W.Frag) (C : Addr) : Sp := fun vs H Q _ => ∃ (a t : Addr) (L : Lay) (o : List Int), vs = [.ref a, .ref t] ∧ LayAt C H a L ∧ L.Ok ∧ OW L o ∧ SqL K H t (o.map V.int) ∧ ∀ w H', Same H H' → NewDp K H H' w (optD (readO o)) → Q w H'
def SeqL (H0 : Hp) (a t p : Addr) (o : List Int) (i : Nat) (σ : St) (H : Hp) : Prop := ∃ x : Option V, σ = [some (.ref a), some (.ref t), some (.ref p), x, some (.int (numOf ((o.drop 1).take 6 |>.drop (6 - i))))] ∧ H = H0
theorem numOf6 (a b c d e f : Int) : numOf [a, b, c, d, e, f] = 256 * (256 * (256 * (256 * (256 * (256 * 0 + f) + e) + d) + c) + b) + a := by
  simp only [numOf]; omega
theorem take6 {o : List Int} (h : 16 ≤ o.length) : (o.drop 1).take 6 = [o.getD 1 0, o.getD 2 0, o.getD 3 0, o.getD 4 0, o.getD 5 0, o.getD 6 0] ∧ (o.drop 7).take 2 = [o.getD 7 0, o.getD 8 0] := by
  match o, h with
  | b0 :: b1 :: b2 :: b3 :: b4 :: b5 :: b6 :: b7 :: b8 :: b9 :: b10 :: b11 :: b12 :: b13 :: b14 :: b15 :: r, _ => exact ⟨rfl, rfl⟩
theorem seq_step {o : List Int} (h : 16 ≤ o.length) {i : Nat} (hi : i < 6) : numOf ((o.drop 1).take 6 |>.drop (6 - (i + 1))) = 256 * numOf ((o.drop 1).take 6 |>.drop (6 - i)) + o.getD (6 - i) 0 := by
  rw [(take6 h).1]
  match i, hi with
  | 0, _ => simp [numOf]
  | 1, _ => simp [numOf]; omega
  | 2, _ => simp [numOf]; omega
  | 3, _ => simp [numOf]; omega
  | 4, _ => simp [numOf]; omega
  | 5, _ => simp [numOf]; omega
section
variable {P : Program} {w : World} {K : PySem.W.Frag} {mg : Str → Option Value} {base : Heap}
theorem ok__law_read_octets (T : Txt P K mg) : FnOk P w K mg base CX0 1 T.f__law_read_octets T.fd__law_read_octets ["layout", "octets"] (spLawRead K T.C_Layout) := by
  have cl_Layout := T.cl_Layout
  have a_Layout_fan := T.a_Layout_fan
  refine T.F__law_read_octets.ok sc__law_read_octets (fun vs H Q E h => ?_) (fun cdv A outer s H vs Q E hr h => ?_)
  · obtain ⟨a, t, L, o, rfl, ⟨dx, ha⟩, hL, ho, ht, hq⟩ := h
    rfl
  · obtain ⟨a, t, L, o, rfl, ⟨dx, ha⟩, hL, ho, ht, hq⟩ := h
    refine ⟨_, (pss_cons (ps_if (PW.pt (pw_or (pt_cmpR (opNinF (K := K)) (pe_ix (ixU (K := K)) (pv 1) pe_int (fun _ _ => rfl)) (pe_lst (pa_cons pe_int (pa_cons pe_int (pa_cons pe_int pa_nil)))) (by rfl)) (pw_or1 (pt_cmpR op_gt (pe_callB (callMaxU (K := K) rfl) (by rfl) T.n_max (by decide +kernel) (pa_cons (pe_slice (slU (K := K)) (pv 1) (po_some pe_int) (po_some pe_int)) pa_nil)) pe_int (nomark _))))) (pss_one (ps_ret pe_non)) pss_nil)
      (pss_cons (ps_set (i := 2) sc__law_read_octets.nd rfl (by first | exact Or.inl rfl | exact Or.inr rfl) (pe_slice (slU (K := K)) (pv 1) (po_some pe_int) po_none))
      (pss_cons (ps_if (pt_cmpR (opNeU (K := K) hr.units) (pe_ix (ixU (K := K)) (pv 1) pe_int (fun _ _ => rfl)) pe_int (nomark _)) (pss_one (ps_setLc (i := 2) (own := [("k", 3)]) (g := gName 3) (tt := tYes) rfl sc__law_read_octets.nd rfl rfl (sw_true rfl rfl rfl (by decide +kernel)) (pi_range1 rfl T.n_range (pa_cons (pe_fldK (K := K) (pv 0) rfl) pa_nil)) (blkOk_by (N := N__law_read_octets) (sc := defScope s__law_read_octets) (by decide +kernel)) (fun _ _ _ _ _ => (pg_name (i := 3) sc__law_read_octets.nd rfl (by first | exact Or.inl rfl | exact Or.inr rfl))) (fun _ _ _ _ _ => pts_nil) (fun _ _ _ _ _ => (pe_op (opAddU (K := K)) (pe_ix (ixU (K := K)) (pv 1) (pe_op (opAddU (K := K)) pe_int (pe_op opMultU pe_int (pv 3))) (fun _ _ => rfl)) (pe_op opMultU pe_int (pe_ix (ixU (K := K)) (pv 1) (pe_op (opAddU (K := K)) pe_int (pe_op opMultU pe_int (pv 3))) (fun _ _ => rfl))))))) pss_nil)
      (pss_cons (ps_set (i := 4) sc__law_read_octets.nd rfl (by first | exact Or.inl rfl | exact Or.inr rfl) pe_int)
      (pss_cons (ps_for PassesOwn.never rfl (pi_range1 rfl T.n_range (pa_cons pe_int pa_nil)) (pg_name (i := 3) sc__law_read_octets.nd rfl (by first | exact Or.inl rfl | exact Or.inr rfl)) (pss_one (ps_set (i := 4) sc__law_read_octets.nd rfl (by first | exact Or.inl rfl | exact Or.inr rfl) (pe_op (opAddU (K := K)) (pe_op opMultU pe_int (pv 4)) (pe_ix (ixU (K := K)) (pv 1) (pe_op opSubU pe_int (pv 3)) (fun _ _ => rfl))))))
      (pss_one (ps_ret (pe_tup (pa_cons (pe_ix (ixU (K := K)) (pv 1) pe_int (fun _ _ => rfl)) (pa_cons (pv 4) (pa_cons (pe_op (opAddU (K := K)) (pe_ix (ixU (K := K)) (pv 1) pe_int (fun _ _ => rfl)) (pe_op opMultU pe_int (pe_ix (ixU (K := K)) (pv 1) pe_int (fun _ _ => rfl)))) (pa_cons (pe_callTy (callTupU (K := K)) (by rfl) T.n_tuple (by decide +kernel) (pa_cons (pv 2) pa_nil)) pa_nil)))))))))))), ?_⟩
    try dsimp only [cxOf]
    have r0 := Same.refl H
    have o1 := hL.o1
    have hlen := ho.len
    have l16 : 16 ≤ o.length := by omega
    have hfan : L.fan = L.oct / 2 := rfl
    have nnon : ∀ H', NewDp K H H' .non .none := fun H' R => .non
    have k00 : 0 ≤ o.getD 0 0 ∧ o.getD 0 0 < 256 := by
      rw [List.getD_eq_getElem?_getD, List.getElem?_eq_getElem (show 0 < o.length by omega)]; exact ho.rng _ (List.getElem_mem _)
    have inl : ∀ x : Int, (x ∈ [3, 4, 5]) ↔ (3 ≤ x ∧ x ≤ 5) := fun x => by simp; omega
    have sub7 := ho.sub 9 7
    have hsl : ((o.drop 9).take (16 - 9)).length = 7 := by rw [List.length_take, List.length_drop]; omega
    fail "go"
    refine g_ixL ht (show atI _ ((0 : Nat) : Int) = some (.int (o.getD 0 0)) from atI_getD (by omega)) ?_
    fail "go"
    refine ⟨by fail "sz", ?_⟩
    fail "newM"
    rename_i p1 H1 n1 g1 m1 h1 s1
    fail "go"
    refine g_ninF (xs := [3, 4, 5].map V.int) (.inl (SqL.of h1)) rfl (flat_ints _) ?_
    rw [inV_ints]
    fail "go"
    have ht1 := sqL_mono s1 ht
    clear g1 h1
    refine g_iteN (fun e => ?_) (fun e => ?_)
    · fail "go"
      refine hq _ _ s1 ?_
      rw [readO_kind (fun z => e ((inl _).mpr z))]
      exact nnon _
    have e35 := (inl _).mp e
    fail "go"
    refine g_slLI (i := 9) (j := 16) ht1 rfl rfl (by decide) (by omega) ?_
    fail "newM"
    rename_i p2 H2 n2 g2 m2 h2 s2
    fail "go"
    refine g_max (SqL.of h2) (by omega) fun mx hm hmx => ?_
    have s12 := s2
    have ht2 := sqL_mono s2 ht
    clear g2 h2 ht1
    rw [show (16 : Nat) - 9 = 7 from rfl] at hm hmx
    fail "go"
    refine g_ite (fun e => ?_) (fun e => ?_)
    · fail "go"
      refine hq _ _ s2 ?_
      rw [readO_eq, if_neg (fun z => by have := z.2.2 _ hm; omega)]
      exact nnon _
    have z0 : ∀ n ∈ (o.drop 9).take 7, n = 0 := fun n hn => by have := hmx n hn; have := (sub7 n hn).1; omega
    have ro : readO o = some (bareO o) := by rw [readO_eq, if_pos ⟨e35.1, e35.2, z0⟩]
    fail "go"
    refine g_slLlo (i := 16) ht2 rfl (by omega) ?_
    fail "newM"
    rename_i p3 H3 n3 g3 m3 h3 s3
    clear g3 n3
    fail "gi"
    refine g_seqIN (fun σ H' => ∃ (q : Addr) (x : Option V), σ = [some (.ref a), some (.ref t), some (.ref q), x, none] ∧ Same H H' ∧ H' q = some (.lst ((bareO o).body.map V.int))) ?_ (fun N rest => ?_)
    · rintro σ H4 ⟨q, x, rfl, s4, h4⟩
      have ht4 := sqL_mono s4 ht
      fail "go"
      refine g_R1W (n := 6) rfl (by decide) ?_
      refine for_range (lo := 0) (n := 6) (SeqL H4 a t q o) ⟨x, by rw [Nat.sub_zero]; rw [List.drop_eq_nil_of_le (show ((o.drop 1).take 6).length ≤ 6 by rw [List.length_take]; omega)]; rfl, rfl⟩ ?_ ?_
      · rintro i σ H5 hi ⟨x0, rfl, rfl⟩
        rw [Int.zero_add]
        fail "go"
        refine g_ixL ht4 (show atI _ (6 - (i : Int)) = some (.int (o.getD (6 - i) 0)) from by rw [show (6 - (i : Int)) = ((6 - i : Nat) : Int) by omega]; exact atI_getD (by omega)) ?_
        fail "go"
        exact ⟨_, by rw [seq_step l16 hi]; rfl, rfl⟩
      · rintro σ H5 ⟨x0, rfl, rfl⟩
        have e6 : ((o.drop 1).take 6 |>.drop (6 - 6)) = (o.drop 1).take 6 := rfl
        rw [e6]
        fail "go"
        refine g_ixL ht4 (show atI _ ((0 : Nat) : Int) = some (.int (o.getD 0 0)) from atI_getD (by omega)) ?_
        fail "go"
        refine g_ixL ht4 (show atI _ ((7 : Nat) : Int) = some (.int (o.getD 7 0)) from atI_getD (by omega)) ?_
        fail "go"
        refine g_ixL ht4 (show atI _ ((8 : Nat) : Int) = some (.int (o.getD 8 0)) from atI_getD (by omega)) ?_
        fail "go"
        refine g_tupL (SqL.of h4) ?_
        fail "newM"
        rename_i p6 H6 n6 g6 m6 h6 s6
        fail "go"
        refine ⟨by fail "sz", ?_⟩
        fail "newM"
        rename_i p7 H7 n7 g7 m7 h7 s7
        have h67 := g7.g.same _ _ h6
        have e2 : numOf ((o.drop 7).take 2) = o.getD 7 0 + 256 * o.getD 8 0 := by rw [(take6 l16).2]; simp only [numOf]; omega
        refine hq _ _ s7 ?_
        rw [ro]
        refine fun R => .tup (SqT.of (adopt_at m7 h7)) (.cons (.int _) (.cons (.int _) (.cons ?_ (.cons (.tup (SqT.of (adopt_at m6 h67)) (dpAll_ints _)) .nil))))
        show Dp K _ _ (.int (numOf ((o.drop 7).take 2)))
        rw [e2]
        exact .int _
    · fail "go"
      refine g_ixL (sqL_mono s3 ht) (show atI _ ((0 : Nat) : Int) = some (.int (o.getD 0 0)) from atI_getD (by omega)) ?_
      fail "go"
      refine g_iteN (fun e3 => ?_) (fun e3 => ?_)
      · have ha3 := s3 _ _ ha
        fail "go"
        refine g_R1W (n := (L.oct / 2).toNat) (by omega) (by omega) fun D nD => ?_
        refine lc_range (lo := 0) (n := (L.oct / 2).toNat) (fun j H' => Same H H' ∧ H' D = some (.lst (((List.range j).map fun (k : Nat) => (o.drop 16).getD (2 * k) 0 + 256 * (o.drop 16).getD (2 * k + 1) 0).map V.int))) ⟨(Gr.newM (M := []) s3 nD).rh, upd_same⟩ ?_ ?_
        · rintro j H4 hj ⟨s4, h4⟩
          rw [Int.zero_add]
          have ht4 := sqL_mono s4 ht
          have gd : ∀ k : Nat, (o.drop 16).getD k 0 = o.getD (16 + k) 0 := fun k => by rw [List.getD_eq_getElem?_getD, List.getD_eq_getElem?_getD, List.getElem?_drop]
          refine ⟨rfl, ?_⟩
          fail "go"
          refine g_ixL ht4 (show atI _ (16 + 2 * (j : Int)) = some (.int (o.getD (16 + 2 * j) 0)) from by rw [show (16 + 2 * (j : Int)) = ((16 + 2 * j : Nat) : Int) by omega]; exact atI_getD (by omega)) ?_
          fail "go"
          refine g_ixL ht4 (show atI _ (17 + 2 * (j : Int)) = some (.int (o.getD (16 + (2 * j + 1)) 0)) from by rw [show (17 + 2 * (j : Int)) = ((16 + (2 * j + 1) : Nat) : Int) by omega]; exact atI_getD (by omega)) ?_
          fail "go"
          refine ⟨_, h4, by rw [List.length_map, List.length_map, List.length_range]; fail "sz", fun b o q => ?_, ?_⟩
          · rw [upd_ne (ne_of_none q (s3.free nD))]; exact s4 _ _ q
          · rw [upd_same, List.range_succ, List.map_append, List.map_append, List.map_singleton, List.map_singleton, gd, gd]
        · rintro H4 ⟨s4, h4⟩
          fail "go"
          have eb : (bareO o).body = (List.range (L.oct / 2).toNat).map fun (k : Nat) => (o.drop 16).getD (2 * k) 0 + 256 * (o.drop 16).getD (2 * k + 1) 0 := by
            show (if o.getD 0 0 = 3 then o.drop 16 else halves (o.drop 16)) = _
            rw [if_neg e3]
            unfold halves
            rw [show (o.drop 16).length / 2 = (L.oct / 2).toNat by rw [List.length_drop]; omega]
          rw [← eb] at h4
          exact rest _ _ ⟨D, _, rfl, s4, h4⟩
      · fail "go"
        have eb : (bareO o).body = o.drop 16 := by
          show (if o.getD 0 0 = 3 then o.drop 16 else halves (o.drop 16)) = _
          rw [if_pos e3]
        rw [← eb] at h3
        exact rest _ _ ⟨p3, _, rfl, s3, h3⟩
end
def spLRots (K : PySem.W.Frag) (CL : Addr) : Sp := fun vs H Q _ => ∃ (R : Hp) (g a : Addr) (L : Lay) (z : Int) (m : Rows) (gs : List Addr) (n i : Nat) (v : Int), vs = [.ref a, .ref g, .int (n : Int), .int (i : Int), .int v] ∧ Same R H ∧ LayAt CL R a L ∧ L.Ok ∧ ModOk K R H g z m gs ∧ RsW L 100 m ∧ n < m.sure.length ∧ (i : Int) < 16 + L.oct ∧ 0 ≤ v ∧ v < 80 ∧
  ∀ R' H', Gr gs R H R' H' → ModOk K R' H' g z (m.rot L n i v) gs → Q .non H'
section
variable {P : Program} {w : World} {K : PySem.W.Frag} {mg : Str → Option Value} {base : Heap}
theorem ok__law_rots (T : Txt P K mg) : FnOk P w K mg base CX0 3 T.f__law_rots T.fd__law_rots ["layout", "model", "address", "place", "octet"] (spLRots K T.C_Layout) := by
  have G__law_octets := ok__law_octets (P := P) (w := w) (base := base) T
  have G__law_read_octets := ok__law_read_octets (P := P) (w := w) (base := base) T
  refine T.F__law_rots.ok sc__law_rots (fun vs H Q E h => ?_) (fun cdv A outer s H vs Q E hr h => ?_)
  · obtain ⟨R, g, a, L, z, m, gs, n, i, v, rfl, sR, ha, hL, ⟨l1, l2, l3, rfl, md⟩, mw, hn, hi, v0, v1, hq⟩ := h
    rfl
  · obtain ⟨R, g, a, L, z, m, gs, n, i, v, rfl, sR, ha, hL, ⟨l1, l2, l3, rfl, md⟩, mw, hn, hi, v0, v1, hq⟩ := h
    refine ⟨_, (pss_cons (ps_set (i := 5) sc__law_rots.nd rfl (by first | exact Or.inl rfl | exact Or.inr rfl) (pe_dget (hu_of hr) (pv 1) pe_str (fun _ _ => rfl)))
      (pss_cons (ps_set (i := 6) sc__law_rots.nd rfl (by first | exact Or.inl rfl | exact Or.inr rfl) (pe_ix (ixU (K := K)) (pv 5) (pv 2) (fun _ _ => rfl)))
      (pss_one (ps_if (PW.pt (pw_and (pt_cmpR opNotU (pv 6) pe_non (nomark _)) (pw_and1 (pt_cmpR opNotU (pe_ix (ixU (K := K)) (pv 6) pe_int (fun _ _ => rfl)) pe_non (nomark _))))) (pss_cons (ps_set (i := 7) sc__law_rots.nd rfl (by first | exact Or.inl rfl | exact Or.inr rfl) (pe_call G__law_octets (hr.mono (by decide)) rfl T.g__law_octets T.F__law_octets.kp T.b__law_octets .nil pass0 (pa_cons (pv 0) (pa_cons (pe_ix (ixU (K := K)) (pv 6) pe_int (fun _ _ => rfl)) pa_nil))))
      (pss_cons (ps_asg (pv 4) (pg_sub (pv 7) (pv 3) set_list))
      (pss_cons (ps_asg (pe_tup (pa_cons (pe_call G__law_read_octets (hr.mono (by decide)) rfl T.g__law_read_octets T.F__law_read_octets.kp T.b__law_read_octets .nil pass0 (pa_cons (pv 0) (pa_cons (pv 7) pa_nil))) (pa_cons (pe_ix (ixU (K := K)) (pv 6) pe_int (fun _ _ => rfl)) pa_nil))) (pg_sub (pv 5) (pv 2) set_list))
      (pss_one (ps_if (pt_cmpR (opNinF (K := K)) (pv 2) (pe_lc (own := [("pair", 9)]) (g := gName 9) (tt := tYes) rfl sc__law_rots.nd (pi_listK (K := K) (pe_dget (hu_of hr) (pv 1) pe_str (fun _ _ => rfl))) (blkOk_by (N := N__law_rots) (sc := defScope s__law_rots) (by decide +kernel)) (fun _ _ _ _ _ => (pg_name (i := 9) sc__law_rots.nd rfl (by first | exact Or.inl rfl | exact Or.inr rfl))) (fun _ _ _ _ _ => pts_nil) (fun _ _ _ _ _ => (pe_ix (ixU (K := K)) (pv 9) pe_int (fun _ _ => rfl)))) (by rfl)) (pss_cons (ps_set (i := 8) sc__law_rots.nd rfl (by first | exact Or.inl rfl | exact Or.inr rfl) (pe_dget (hu_of hr) (pv 1) pe_str (fun _ _ => rfl)))
      (pss_one (ps_asg (pe_ix (ixU (K := K)) (pv 5) (pv 2) (fun _ _ => rfl)) (pg_sub (pv 8) (pv 2) set_list)))) pss_nil))))) pss_nil)))), ?_⟩
    try dsimp only [cxOf]
    have hmo : ModOk K R H g z m [g, l1, l2, l3] := ⟨l1, l2, l3, rfl, md⟩
    have has := md.has
    obtain ⟨hg, nd, non, u1, u2, u3, h1, h2, h3, d1, d2, d3⟩ := md
    obtain ⟨e01, e02, e03, e12, e13, e23⟩ := nod4 nd
    obtain ⟨lx, haf⟩ := ha
    have haH := sR _ _ haf
    have ls := mw.ls
    have ln := mw.ln
    have hn2 : n < m.seen.length := by omega
    have ul1 : u1.length = m.sure.length := by have := dpAll_len d1; simpa using this
    have ul2 : u2.length = m.seen.length := by have := dpAll_len d2; simpa using this
    have ul3 : u3.length = m.wait.length := by have := dpAll_len d3; simpa using this
    obtain ⟨c, hc⟩ : ∃ c, m.sure[n]? = some c := ⟨m.sure[n], List.getElem?_eq_getElem hn⟩
    obtain ⟨cv, hcv, dcv⟩ := cells_get d1 hc
    have wc := mw.c1 c (List.mem_of_getElem? hc)
    fail "go"
    refine g_ixL (SqL.of h1) (atI_nat hcv) ?_
    fail "go"
    rcases c with _ | ⟨_ | b, k⟩
    · obtain rfl := dp_non dcv
      fail "go"
      have e : m.rot L n i v = m := by unfold Rows.rot; rw [hc]
      exact hq R H (Gr.refl sR) (e.symm ▸ hmo)
    · obtain ⟨t, x, y, rfl, ht, hx, hy⟩ := dpT2 dcv
      obtain rfl := dp_non hx
      have htH := sqT_mono sR ht
      fail "go"
      have e : m.rot L n i v = m := by unfold Rows.rot; rw [hc]
      exact hq R H (Gr.refl sR) (e.symm ▸ hmo)
    · have hb : BW L b := wc b rfl
      obtain ⟨t, x, y, rfl, ht, hx, hy⟩ := dpT2 dcv
      obtain rfl := dp_int hy
      obtain ⟨bt, bu, rfl, hbt, hbu⟩ := dpBlk hx
      have htH := sqT_mono sR ht
      have R1n := non l1 (by simp)
      fail "go"
      refine ⟨a, _, L, some b, rfl, ⟨_, haH⟩, hL, dp_mono sR hx, hb.x.full, ?_⟩
      intro p H1 s1 n1 h1p
      have ow := OW.of hL hb
      have gA : Mu [] R H H1 := .ofSame sR s1
      have hg1 := s1 _ _ hg
      have h11 := s1 _ _ h1
      have h21 := s1 _ _ h2
      have h31 := s1 _ _ h3
      have p0 := ne_of_none hg n1
      have p1 := ne_of_none h1 n1
      have p2 := ne_of_none h2 n1
      have p3 := ne_of_none h3 n1
      have ol := ow.len
      have sR1 := gA.g.rh
      have mp := sR.free n1
      clear hg h1 h2 h3 haH htH hbt hbu s1
      fail "go"
      refine g_setL (j := i) h1p (ixN_nat (by rw [List.length_map]; omega)) ?_
      fail "mut"
      rename_i H2 g2 h2p s2
      rw [← List.map_set] at h2p
      have gB : Mu [] R H H2 := ⟨(gA.g.nil.trans g2.g).forget (by intro y hy hn; rw [List.mem_singleton.mp hy]; exact n1)⟩
      have hg2 := g2.g.hh _ _ (nin1 p0) hg1
      have h12 := g2.g.hh _ _ (nin1 p1) h11
      have h22 := g2.g.hh _ _ (nin1 p2) h21
      have h32 := g2.g.hh _ _ (nin1 p3) h31
      have ow2 := ow.set v0 v1 i
      have ha2 := s2 _ _ haf
      have ht2 := sqT_mono s2 ht
      clear gA g2 hg1 h11 h21 h31 h1p
      fail "go"
      refine ⟨a, p, L, _, rfl, ⟨_, ha2⟩, hL, ow2, SqL.of h2p, fun w H3 s3 nw => ?_⟩
      have gC : Gr [] R H (adopt R H2 H3) H3 := gB.g.trans (adopt_gr s2 s3)
      have dw := nw R
      have hg3 := s3 _ _ hg2
      have h13 := s3 _ _ h12
      have h23 := s3 _ _ h22
      have h33 := s3 _ _ h32
      have ht3 := sqT_mono s3 ht2
      have s33 := gC.rh
      generalize adopt R H2 H3 = R3 at *
      clear ht2 ha2 gB h2p nw s2 s3 hg2 h12 h22 h32 n1 p0 p1 p2 p3
      fail "go"
      refine ⟨by fail "sz", ?_⟩
      fail "newR"
      rename_i p4 H4 R4 f4 g4 h4 s4
      have hg4 := g4.same _ _ hg3
      have h14 := g4.same _ _ h13
      have h24 := g4.same _ _ h23
      have h34 := g4.same _ _ h33
      have gD : Gr [] R H R4 H4 := gC.trans g4
      have dc4 : Dp K R4 (.ref p4) (cellD (some (readO ((octs L (some b)).set i v), k))) := .tup (SqT.of h4) (.cons (dp_mono g4.rr dw) (.cons (.int _) .nil))
      have non4 := non_of has non gD
      have R41 := non4 l1 (by simp)
      have R42 := non4 l2 (by simp)
      have e1 := dpAll_mono gD.rr d1
      have e2 := dpAll_mono gD.rr d2
      have e3 := dpAll_mono gD.rr d3
      clear g4 hg3 h13 h23 h33 ht3 h4 gC s33
      fail "go"
      refine g_setL (j := n) h14 (ixN_nat (by omega)) ?_
      fail "mut"
      rename_i H5 g5 h15 s5
      have hg5 := g5.g.hh _ _ (nin1 e01) hg4
      have h25 := g5.g.hh _ _ (nin1 e12.symm) h24
      have h35 := g5.g.hh _ _ (nin1 e13.symm) h34
      have gE : Gr [l1] R H R4 H5 := gD.nil.trans g5.g
      clear g5 hg4 h14 h24 h34 gD
      fail "go"
      refine g_LsW (SqL.of h35) fun D nD => ?_
      refine lc_list (K := K) (a := l3) (fun j H' => Same H5 H' ∧ H' D = some (.lst ((waitI (m.wait.take j)).map V.int))) ⟨(Gr.newM (M := []) s5 nD).same, by rw [upd_same]; rfl⟩ (fun j H' _ ⟨s, _⟩ => SqL.of (s _ _ h35)) ?_ ?_
      · rintro j x H6 hx ⟨s6, hD6⟩
        obtain ⟨q, tt, y, hqi, rfl, htt, dq⟩ := wt_get e3 hx
        have ht6 := sqT_mono (s5.trans s6) htt
        fail "go"
        refine ⟨rfl, ?_⟩
        fail "go"
        have wl := mw.lw
        refine ⟨_, hD6, by simp [waitI]; fail "sz", fun b o e => ?_, ?_⟩
        · rw [upd_ne (ne_of_none e nD)]; exact s6 _ _ e
        · rw [upd_same, waitI_snoc hqi, List.map_append]; rfl
      · rintro H6 ⟨s6, hD6⟩
        have gF : Mu [] R4 H5 H6 := Mu.ofSame s5 s6
        rw [ul3, List.take_length] at hD6
        refine g_ninF (.inl (SqL.of hD6)) rfl (flat_ints _) ?_
        rw [inV_ints]
        fail "go"
        have hg6 := s6 _ _ hg5
        have h16 := s6 _ _ h15
        have h26 := s6 _ _ h25
        have h36 := s6 _ _ h35
        have s56 := s5.trans s6
        have gG : Gr [l1] R H R4 H6 := gE.trans gF.g.nil
        have nd' : ((n : Int) ∈ waitI m.wait ↔ n ∈ m.wait.map (·.1)) := wait_in m.wait n
        have er : m.rot L n i v = m.decay n (some (readO ((octs L (some b)).set i v), k)) := by unfold Rows.rot; rw [hc]
        rw [er] at hq
        clear gE gF s6 hD6 hg5 h15 h25 h35 s5
        refine g_iteN (fun e => ?_) (fun e => ?_)
        · fail "go"
          refine g_ixL (SqL.of h16) (atI_nat (show (u1.set n (.ref p4))[n]? = some (.ref p4) from List.getElem?_set_self (by omega))) ?_
          fail "go"
          refine g_setL (j := n) h26 (ixN_nat (by omega)) ?_
          fail "mut"
          rename_i H7 g7 h27 s7
          fail "go"
          have gH : Gr [g, l1, l2, l3] R H R4 H7 := (gG.mono (by simp)).trans (g7.g.mono (by simp))
          refine hq R4 H7 gH ⟨l1, l2, l3, rfl, ⟨g7.g.hh _ _ (nin1 e02) hg6, nd, non4, _, _, u3, g7.g.hh _ _ (nin1 e12) h16, h27, g7.g.hh _ _ (nin1 e23.symm) h36, ?_, ?_, e3⟩⟩
          · show DpAll K R4 _ ((m.sure.set n _).map cellD)
            rw [List.map_set]
            exact dpAll_set n e1 dc4
          · unfold Rows.decay
            rw [if_neg (fun z => e (nd'.mpr z)), List.map_set]
            exact dpAll_set n e2 dc4
        · fail "go"
          have gH : Gr [g, l1, l2, l3] R H R4 H6 := gG.mono (by simp)
          refine hq R4 H6 gH ⟨l1, l2, l3, rfl, ⟨hg6, nd, non4, _, u2, u3, h16, h26, h36, ?_, ?_, e3⟩⟩
          · show DpAll K R4 _ ((m.sure.set n _).map cellD)
            rw [List.map_set]
            exact dpAll_set n e1 dc4
          · unfold Rows.decay
            rw [if_pos (nd'.mp e)]
            exact e2
end
def spSeats (K : PySem.W.Frag) : Sp := fun vs H Q _ => ∃ (t : Addr) (a b c : Int), vs = [.ref t] ∧ SqT K H t [.int a, .int b, .int c] ∧ ∀ p H', Same H H' → H p = none → H' p = some (.tup ((seats3 a b c).map V.int)) → Q (.ref p) H'
def seatsUp (a b c : Int) : Nat → List Int
  | 0 => []
  | 1 => if a ≠ 0 then [0] else []
  | 2 => (if a ≠ 0 then [0] else []) ++ (if b ≠ 0 then [1] else [])
  | _ => seats3 a b c
theorem seats_step {a b c : Int} {j : Nat} (h : j < 3) : ∃ x, ([V.int a, .int b, .int c] : List V)[j]? = some (.int x) ∧ seatsUp a b c (j + 1) = seatsUp a b c j ++ (if x ≠ 0 then [(j : Int)] else []) := by
  match j, h with
  | 0, _ => exact ⟨a, rfl, by simp [seatsUp]⟩
  | 1, _ => exact ⟨b, rfl, by simp [seatsUp]⟩
  | 2, _ => exact ⟨c, rfl, by simp [seatsUp, seats3]⟩
theorem seatsUp_len {a b c : Int} {j : Nat} : (seatsUp a b c j).length ≤ 3 := by
  unfold seatsUp seats3
  split <;> (repeat' split) <;> simp
section
variable {P : Program} {w : World} {K : PySem.W.Frag} {mg : Str → Option Value} {base : Heap}
theorem ok_seats_of_bits (T : Txt P K mg) : FnOk P w K mg base CX0 1 T.f_seats_of_bits T.fd_seats_of_bits ["octets"] (spSeats K) := by
  refine T.F_seats_of_bits.ok sc_seats_of_bits (fun vs H Q E h => ?_) (fun cdv A outer s H vs Q E hr h => ?_)
  · obtain ⟨t, a, b, c, rfl, ht, hq⟩ := h
    rfl
  · obtain ⟨t, a, b, c, rfl, ht, hq⟩ := h
    refine ⟨_, (pss_one (ps_ret (pe_callTy (callTupU (K := K)) (by rfl) T.n_tuple (by decide +kernel) (pa_cons (pe_lc (own := [("seat", 1)]) (g := gName 1) (tt := _) rfl sc_seats_of_bits.nd (pi_range1 rfl T.n_range (pa_cons (pe_glob rfl T.g_SEATS T.r_SEATS) pa_nil)) (blkOk_by (N := N_seats_of_bits) (sc := defScope s_seats_of_bits) (by decide +kernel)) (fun _ _ _ _ _ => (pg_name (i := 1) sc_seats_of_bits.nd rfl (by first | exact Or.inl rfl | exact Or.inr rfl))) (fun _ _ _ _ _ => pts_one (pt_cmpR (opNeU (K := K) hr.units) (pe_ix (ixU (K := K)) (pv 0) (pv 1) (fun _ _ => rfl)) pe_int (nomark _))) (fun _ _ _ _ _ => (pv 1))) pa_nil)))), ?_⟩
    try dsimp only [cxOf]
    have r0 := Same.refl H
    fail "go"
    refine g_R1W (n := 3) rfl (by decide) ?_
    intro D nD
    refine lc_range (lo := 0) (n := 3) (fun j H' => Same H H' ∧ H' D = some (.lst ((seatsUp a b c j).map V.int))) ⟨(Gr.newM (M := []) r0 nD).rh, upd_same⟩ ?_ ?_
    · rintro j H2 hj ⟨s2, h2⟩
      rw [Int.zero_add]
      refine ⟨rfl, ?_⟩
      obtain ⟨x, hx, hs⟩ := seats_step (a := a) (b := b) (c := c) hj
      have hl := seatsUp_len (a := a) (b := b) (c := c) (j := j)
      fail "go"
      refine g_ixT (sqT_mono s2 ht) (atI_nat hx) ?_
      fail "go"
      refine g_iteN (fun e => ?_) (fun e => ?_)
      · fail "go"
        refine ⟨_, h2, by rw [List.length_map]; fail "sz", fun b o q => by rw [upd_ne (ne_of_none q nD)]; exact s2 _ _ q, ?_⟩
        rw [upd_same, hs, if_pos e, List.map_append]; rfl
      · refine ⟨s2, ?_⟩
        rw [h2, hs, if_neg (fun z => z e), List.append_nil]
    · rintro H2 ⟨s2, h2⟩
      fail "go"
      refine g_tupL (SqL.of h2) ?_
      intro p np
      have s3 : Same H2 (upd H2 p (.tup ((seatsUp a b c 3).map V.int))) := (Gr.newM (M := []) (Same.refl H2) np).rh
      exact hq _ _ (s2.trans s3) (s2.free np) upd_same
end
def spBits (K : PySem.W.Frag) : Sp := fun vs H Q _ => ∃ (t : Addr) (l : List Int), vs = [.ref t] ∧ SqT K H t (l.map V.int) ∧ ∀ p H', Same H H' → H p = none → H' p = some (.lst ((bits l).map V.int)) → Q (.ref p) H'
theorem bits_step (l : List Int) {j : Nat} (h : j < 3) : (bits l).take (j + 1) = (bits l).take j ++ [if decide (0 + (j : Int) ∈ l) = true then 1 else 0] := by
  match j, h with
  | 0, _ => simp [bits, bit]
  | 1, _ => simp [bits, bit]
  | 2, _ => simp [bits, bit]
section
variable {P : Program} {w : World} {K : PySem.W.Frag} {mg : Str → Option Value} {base : Heap}
theorem ok_bits_of_seats (T : Txt P K mg) : FnOk P w K mg base CX0 1 T.f_bits_of_seats T.fd_bits_of_seats ["seats"] (spBits K) := by
  refine T.F_bits_of_seats.ok sc_bits_of_seats (fun vs H Q E h => ?_) (fun cdv A outer s H vs Q E hr h => ?_)
  · obtain ⟨t, l, rfl, ht, hq⟩ := h
    rfl
  · obtain ⟨t, l, rfl, ht, hq⟩ := h
    refine ⟨_, (pss_one (ps_ret (pe_lc (own := [("seat", 1)]) (g := gName 1) (tt := tYes) rfl sc_bits_of_seats.nd (pi_range1 rfl T.n_range (pa_cons (pe_glob rfl T.g_SEATS T.r_SEATS) pa_nil)) (blkOk_by (N := N_bits_of_seats) (sc := defScope s_bits_of_seats) (by decide +kernel)) (fun _ _ _ _ _ => (pg_name (i := 1) sc_bits_of_seats.nd rfl (by first | exact Or.inl rfl | exact Or.inr rfl))) (fun _ _ _ _ _ => pts_nil) (fun _ _ _ _ _ => (pe_callTy callIntU (by rfl) T.n_int (by decide +kernel) (pa_cons (pe_cmpR (opInF (K := K)) (pv 1) (pv 0) (by rfl)) pa_nil)))))), ?_⟩
    try dsimp only [cxOf]
    have r0 := Same.refl H
    fail "go"
    refine g_R1W (n := 3) rfl (by decide) ?_
    intro D nD
    refine lc_range (lo := 0) (n := 3) (fun j H' => Same H H' ∧ H' D = some (.lst (((bits l).take j).map V.int))) ⟨(Gr.newM (M := []) r0 nD).rh, upd_same⟩ ?_ ?_
    · rintro j H2 hj ⟨s2, h2⟩
      refine ⟨rfl, ?_⟩
      fail "go"
      refine g_inF (.inr (sqT_mono s2 ht)) rfl (flat_ints l) ?_
      rw [inV_ints]
      fail "go"
      refine ⟨_, h2, ?_, fun b o q => by rw [upd_ne (ne_of_none q nD)]; exact s2 _ _ q, ?_⟩
      · have : (bits l).length = 3 := rfl
        rw [List.length_map, List.length_take]; fail "sz"
      · rw [upd_same, bits_step l hj, List.map_append]; rfl
    · rintro H2 ⟨s2, h2⟩
      exact hq _ _ s2 nD h2
end
def spLabelBlock (K : PySem.W.Frag) (C : Addr) : Sp := fun vs H Q _ => ∃ (a : Addr) (v : V) (L : Lay) (n : Int) (l : Lb), vs = [.ref a, .int n, v] ∧ LayAt C H a L ∧ L.Ok ∧ Dp K H v l.d ∧ l.forks.length ≤ 300 ∧ ∀ w H', Same H H' → Dp K H' w (labelBlk L n l).d → NewDp K H H' w (labelBlk L n l).d → Q w H'
def LbForks (R : Hp) (a t m b f p : Addr) (n : Int) (l : Lb) (i : Nat) (σ : St) (H : Hp) : Prop := ∃ x : Option V, σ = [some (.ref a), some (.int n), some (.ref t), some (.int l.gen), some (.ref m), some (.ref b), some (.ref f), some (.ref p), x] ∧ Same R H ∧ H p = some (.lst ((labelHead n l ++ fork3 (l.forks.take i)).map V.int))
section
variable {P : Program} {w : World} {K : PySem.W.Frag} {mg : Str → Option Value} {base : Heap}
theorem ok_label_block (T : Txt P K mg) : FnOk P w K mg base CX0 2 T.f_label_block T.fd_label_block ["layout", "seat", "label"] (spLabelBlock K T.C_Layout) := by
  have cl_Layout := T.cl_Layout
  have a_Layout_block_size := T.a_Layout_block_size
  have G_bits_of_seats := ok_bits_of_seats (P := P) (w := w) (base := base) T
  have G_number_octets := ok_number_octets (P := P) (w := w) (base := base) T
  refine T.F_label_block.ok sc_label_block (fun vs H Q E h => ?_) (fun cdv A outer s H vs Q E hr h => ?_)
  · obtain ⟨a, v, L, n, l, rfl, ⟨dx, ha⟩, hL, dv, hf, hq⟩ := h
    rfl
  · obtain ⟨a, v, L, n, l, rfl, ⟨dx, ha⟩, hL, dv, hf, hq⟩ := h
    refine ⟨_, (pss_cons (ps_asg (pv 2) (pg_tupK (K := K) rfl (pgs_cons (pg_name (i := 3) sc_label_block.nd rfl (by first | exact Or.inl rfl | exact Or.inr rfl)) (pgs_cons (pg_name (i := 4) sc_label_block.nd rfl (by first | exact Or.inl rfl | exact Or.inr rfl)) (pgs_cons (pg_name (i := 5) sc_label_block.nd rfl (by first | exact Or.inl rfl | exact Or.inr rfl)) (pgs_cons (pg_name (i := 6) sc_label_block.nd rfl (by first | exact Or.inl rfl | exact Or.inr rfl)) pgs_nil))))))
      (pss_cons (ps_set (i := 7) sc_label_block.nd rfl (by first | exact Or.inl rfl | exact Or.inr rfl) (pe_op (opAddU (K := K)) (pe_op (opAddU (K := K)) (pe_op (opAddU (K := K)) (pe_op (opAddU (K := K)) (pe_callTy (callListU (K := K)) (by rfl) T.n_list (by decide +kernel) (pa_cons (pe_glob rfl T.g_LETTERS_labels T.r_LETTERS_labels) pa_nil)) (pe_lst (pa_cons pe_int (pa_cons (pv 1) pa_nil)))) (pe_call G_bits_of_seats (hr.mono (by decide)) rfl T.g_bits_of_seats T.F_bits_of_seats.kp T.b_bits_of_seats .nil pass0 (pa_cons (pv 4) pa_nil))) (pe_call G_bits_of_seats (hr.mono (by decide)) rfl T.g_bits_of_seats T.F_bits_of_seats.kp T.b_bits_of_seats .nil pass0 (pa_cons (pv 5) pa_nil))) (pe_lst (pa_cons (pe_callB (callLenU (K := K)) (by rfl) T.n_len (by decide +kernel) (pa_cons (pv 6) pa_nil)) pa_nil))))
      (pss_cons (ps_for PassesOwn.never rfl (pi_tupK (K := K) (pv 6)) (pg_name (i := 8) sc_label_block.nd rfl (by first | exact Or.inl rfl | exact Or.inr rfl)) (pss_one (ps_expr (pe_bm PySem.F.plainAttrs_list PySem.F.slot_list_extend PySem.F.type_list_extend mt_extend (pv 7) (pa_cons (pe_call G_number_octets (hr.mono (by decide)) rfl T.g_number_octets T.F_number_octets.kp T.b_number_octets .nil pass0 (pa_cons (pv 8) (pa_cons (pe_glob rfl T.g_FORK_OCTETS T.r_FORK_OCTETS) pa_nil))) pa_nil)))))
      (pss_one (ps_ret (pe_tup (pa_cons (pe_glob rfl T.g_DATA T.r_DATA) (pa_cons (pv 3) (pa_cons pe_int (pa_cons (pe_callTy (callTupU (K := K)) (by rfl) T.n_tuple (by decide +kernel) (pa_cons (pe_op (opAddU (K := K)) (pv 7) (pe_op opMultU (pe_lst (pa_cons pe_int pa_nil)) (pe_op opSubU (pe_fldK (K := K) (pv 0) rfl) (pe_callB (callLenU (K := K)) (by rfl) T.n_len (by decide +kernel) (pa_cons (pv 7) pa_nil))))) pa_nil)) pa_nil)))))))))), ?_⟩
    try dsimp only [cxOf]
    have r0 := Same.refl H
    obtain ⟨t, m, b, f, rfl, ht, hm, hb, hfk⟩ := dpLb dv
    fail "go"
    refine g_listT (T.q_LETTERS_labels _) ?_
    fail "newM"
    rename_i p1 H1 n1 g1 m1 h1 s1
    fail "go"
    refine ⟨by fail "sz", ?_⟩
    fail "newM"
    rename_i p2 H2 n2 g2 m2 h2 s2
    refine g_catI (l := [83, 73, 68, 69]) (m := [1, n]) (by fail "hp") h2 (by simp) ?_
    fail "newM"
    rename_i p3 H3 n3 g3 m3 h3 s3
    fail "go"
    refine ⟨m, l.mem, rfl, by fail "sq", ?_⟩
    fail "ret"
    rename_i p4 H4 h4 f4 g4 m4 s4
    refine g_catI (by fail "hp") h4 (by simp [bits]) ?_
    fail "newM"
    rename_i p5 H5 n5 g5 m5 h5 s5
    fail "go"
    refine ⟨b, l.bef, rfl, by fail "sq", ?_⟩
    fail "ret"
    rename_i p6 H6 h6 f6 g6 m6 s6
    refine g_catI (by fail "hp") h6 (by simp [bits]) ?_
    fail "newM"
    rename_i p7 H7 n7 g7 m7 h7 s7
    fail "go"
    rw [List.length_map]
    refine ⟨by fail "sz", ?_⟩
    fail "newM"
    rename_i p8 H8 n8 g8 m8 h8 s8
    refine g_catI (m := [(l.forks.length : Int)]) (by fail "hp") h8 (by simp [bits]) ?_
    fail "newM"
    rename_i p9 H9 n9 g9 m9 h9 s9
    fail "go"
    refine g_TsW (by fail "sq") ?_
    have h9' : H9 p9 = some (.lst ((labelHead n l ++ fork3 (l.forks.take 0)).map V.int)) := by rw [h9]; simp [labelHead, fork3]
    refine for_tup (K := K) (xs := l.forks.map V.int) (LbForks H a t m b f p9 n l) ⟨none, rfl, s9, h9'⟩ (fun i σ HX _ ⟨_, _, sX, _⟩ => sqT_mono sX hfk) ?_ ?_
    · clear s1 s2 s3 s4 s5 s6 s7 s8 s9 h1 h2 h3 h4 h5 h6 h7 h8 h9 h9' g1 g2 g3 g4 g5 g6 g7 g8 g9 r0
      rintro i x σ H10 hi ⟨x0, rfl, s10, h10⟩
      obtain ⟨o, ho, rfl⟩ := map_get hi
      have hil : i < l.forks.length := (List.getElem?_eq_some_iff.mp ho).1
      have htl : (l.forks.take i).length = i := by rw [List.length_take]; omega
      have fl : (fork3 (l.forks.take i)).length = 3 * i := by rw [fork3_len, htl]
      fail "go"
      fail "ret"
      rename_i p11 H11 h11 f11 g11 m11 s11
      fail "go"
      refine g_ext (l := p9) (show H11 p9 = some (.lst ((labelHead n l ++ fork3 (l.forks.take i)).map V.int)) by fail "hp") h11 (by rw [List.length_map, List.length_map, List.length_append, labelHead_len, fl, lows_len]; fail "sz") ?_
      fail "mut"
      rename_i H12 g12 h12 s12
      fail "go"
      refine ⟨_, rfl, s12, ?_⟩
      rw [h12, take_snoc ho, fork3_snoc, ← List.map_append, List.append_assoc]
    · clear s1 s2 s3 s4 s5 s6 s7 s8 s9 h1 h2 h3 h4 h5 h6 h7 h8 h9 h9' g1 g2 g3 g4 g5 g6 g7 g8 g9 r0
      rintro σ H10 ⟨x0, rfl, s10, h10⟩
      rw [List.length_map, List.take_length] at h10
      have o1 := hL.o1
      have fl := labelFront_len n l
      change H10 p9 = some (.lst ((labelFront n l).map V.int)) at h10
      fail "go"
      refine ⟨by fail "sz", ?_⟩
      fail "newM"
      rename_i p11 H11 n11 g11 m11 h11 s11
      fail "go"
      rw [List.length_map]
      refine g_repZ h11 (by omega) (by omega) ?_
      fail "newM"
      rename_i p12 H12 n12 g12 m12 h12 s12
      refine g_catI (by fail "hp") h12 (by rw [List.length_replicate]; omega) ?_
      fail "newM"
      rename_i p13 H13 n13 g13 m13 h13 s13
      fail "go"
      refine g_tupL (SqL.of h13) ?_
      fail "newM"
      rename_i p14 H14 n14 g14 m14 h14 s14
      fail "go"
      refine ⟨by fail "sz", ?_⟩
      fail "newM"
      rename_i p15 H15 n15 g15 m15 h15 s15
      have h14' : H15 p14 = some (.tup ((labelOcts L n l).map V.int)) := g15.g.hh _ _ (by simp) h14
      exact hq _ _ s15 (.tup (SqT.of h15) (.cons (.int _) (.cons (.int _) (.cons (.int _) (.cons (.tup (SqT.of h14') (dpAll_ints _)) .nil))))) (fun R => .tup (SqT.of (adopt_at m15 h15)) (.cons (.int _) (.cons (.int _) (.cons (.int _) (.cons (.tup (SqT.of (adopt_at m14 h14')) (dpAll_ints _)) .nil)))))
end
def spLabelOf (K : PySem.W.Frag) (C : Addr) : Sp := fun vs H Q _ => ∃ (a : Addr) (v : V) (L : Lay) (n : Int) (k : Option Blk), vs = [.ref a, .int n, v] ∧ LayAt C H a L ∧ L.Ok ∧ Dp K H v (optD k) ∧ (∀ b, k = some b → OctBlk L b) ∧ ∀ w H', Same H H' → Dp K H' w (lbD (labelOf L n k)) → Q w H'
def startsI (j : Nat) : List Int := (List.range j).map fun (i : Nat) => 13 + 3 * (i : Int)
@[simp] theorem startsI_len (j : Nat) : (startsI j).length = j := by simp [startsI]
theorem startsI_succ (j : Nat) : startsI (j + 1) = startsI j ++ [13 + 3 * (j : Int)] := by simp [startsI, List.range_succ]
theorem startsI_get {n j : Nat} {x : Int} (h : (startsI n)[j]? = some x) : j < n ∧ x = 13 + 3 * (j : Int) := by
  obtain ⟨hl, rfl⟩ := List.getElem?_eq_some_iff.mp h
  rw [startsI_len] at hl
  exact ⟨hl, by simp [startsI]⟩
theorem getD_oct {l : List Int} {j : Nat} {P : Int → Prop} (h : ∀ n ∈ l, P n) (hj : j < l.length) : P (l.getD j 0) := by
  rw [List.getD_eq_getElem?_getD, List.getElem?_eq_getElem hj]
  exact h _ (List.getElem_mem hj)
section
variable {P : Program} {w : World} {K : PySem.W.Frag} {mg : Str → Option Value} {base : Heap}
theorem ok_label_of (T : Txt P K mg) : FnOk P w K mg base CX0 3 T.f_label_of T.fd_label_of ["layout", "seat", "block"] (spLabelOf K T.C_Layout) := by
  have G_seats_of_bits := ok_seats_of_bits (P := P) (w := w) (base := base) T
  have G_number_of := ok_number_of (P := P) (w := w) (base := base) T
  have G_label_block := ok_label_block (P := P) (w := w) (base := base) T
  refine T.F_label_of.ok sc_label_of (fun vs H Q E h => ?_) (fun cdv A outer s H vs Q E hr h => ?_)
  · obtain ⟨a, v, L, n, k, rfl, ha, hL, dv, hk, hq⟩ := h
    rfl
  · obtain ⟨a, v, L, n, k, rfl, ha, hL, dv, hk, hq⟩ := h
    refine ⟨_, (pss_cons (ps_if (PW.pt (pw_or (pt_cmpR opIsU (pv 2) pe_non (nomark _)) (pw_or (pt_cmpR (opNeU (K := K) hr.units) (pe_ix (ixU (K := K)) (pv 2) pe_int (fun _ _ => rfl)) (pe_glob rfl T.g_DATA T.r_DATA) (nomark _)) (pw_or1 (pt_cmpR (opEqU (K := K) hr.units) (pe_ix (ixU (K := K)) (pv 2) pe_int (fun _ _ => rfl)) pe_int (nomark _)))))) (pss_one (ps_ret pe_non)) pss_nil)
      (pss_cons (ps_set (i := 3) sc_label_of.nd rfl (by first | exact Or.inl rfl | exact Or.inr rfl) (pe_ix (ixU (K := K)) (pv 2) pe_int (fun _ _ => rfl)))
      (pss_cons (ps_set (i := 4) sc_label_of.nd rfl (by first | exact Or.inl rfl | exact Or.inr rfl) (pe_call G_seats_of_bits (hr.mono (by decide)) rfl T.g_seats_of_bits T.F_seats_of_bits.kp T.b_seats_of_bits .nil pass0 (pa_cons (pe_slice (slU (K := K)) (pv 3) (po_some (pe_glob rfl T.g_MEMBERS_AT T.r_MEMBERS_AT)) (po_some (pe_op (opAddU (K := K)) (pe_glob rfl T.g_MEMBERS_AT T.r_MEMBERS_AT) (pe_glob rfl T.g_SEATS T.r_SEATS)))) pa_nil)))
      (pss_cons (ps_set (i := 5) sc_label_of.nd rfl (by first | exact Or.inl rfl | exact Or.inr rfl) (pe_call G_seats_of_bits (hr.mono (by decide)) rfl T.g_seats_of_bits T.F_seats_of_bits.kp T.b_seats_of_bits .nil pass0 (pa_cons (pe_slice (slU (K := K)) (pv 3) (po_some (pe_op (opAddU (K := K)) (pe_glob rfl T.g_MEMBERS_AT T.r_MEMBERS_AT) (pe_glob rfl T.g_SEATS T.r_SEATS))) (po_some (pe_glob rfl T.g_COUNT_AT T.r_COUNT_AT))) pa_nil)))
      (pss_cons (ps_if (PW.pt (pw_or (pt_cmpR (opNinF (K := K)) (pv 1) (pv 4) (by rfl)) (pw_or1 (pt_cmpR op_gt (pe_ix (ixU (K := K)) (pv 3) (pe_glob rfl T.g_COUNT_AT T.r_COUNT_AT) (fun _ _ => rfl)) (pe_glob rfl T.g_MOST_FORKS T.r_MOST_FORKS) (nomark _))))) (pss_one (ps_ret pe_non)) pss_nil)
      (pss_cons (ps_setLc (i := 6) (own := [("number", 9)]) (g := gName 9) (tt := tYes) rfl sc_label_of.nd rfl rfl (sw_true rfl rfl rfl (by decide +kernel)) (pi_range1 rfl T.n_range (pa_cons (pe_ix (ixU (K := K)) (pv 3) (pe_glob rfl T.g_COUNT_AT T.r_COUNT_AT) (fun _ _ => rfl)) pa_nil)) (blkOk_by (N := N_label_of) (sc := defScope s_label_of) (by decide +kernel)) (fun _ _ _ _ _ => (pg_name (i := 9) sc_label_of.nd rfl (by first | exact Or.inl rfl | exact Or.inr rfl))) (fun _ _ _ _ _ => pts_nil) (fun _ _ _ _ _ => (pe_op (opAddU (K := K)) (pe_glob rfl T.g_FORKS_AT T.r_FORKS_AT) (pe_op opMultU (pe_glob rfl T.g_FORK_OCTETS T.r_FORK_OCTETS) (pv 9)))))
      (pss_cons (ps_set (i := 7) sc_label_of.nd rfl (by first | exact Or.inl rfl | exact Or.inr rfl) (pe_callTy (callTupU (K := K)) (by rfl) T.n_tuple (by decide +kernel) (pa_cons (pe_lc (own := [("start", 10)]) (g := gName 10) (tt := tYes) rfl sc_label_of.nd (pi_listK (K := K) (pv 6)) (blkOk_by (N := N_label_of) (sc := defScope s_label_of) (by decide +kernel)) (fun _ _ _ _ _ => (pg_name (i := 10) sc_label_of.nd rfl (by first | exact Or.inl rfl | exact Or.inr rfl))) (fun _ _ _ _ _ => pts_nil) (fun _ _ _ _ _ => (pe_call G_number_of (hr.mono (by decide)) rfl T.g_number_of T.F_number_of.kp T.b_number_of .nil pass0 (pa_cons (pe_slice (slU (K := K)) (pv 3) (po_some (pv 10)) (po_some (pe_op (opAddU (K := K)) (pv 10) (pe_glob rfl T.g_FORK_OCTETS T.r_FORK_OCTETS)))) pa_nil)))) pa_nil)))
      (pss_cons (ps_set (i := 8) sc_label_of.nd rfl (by first | exact Or.inl rfl | exact Or.inr rfl) (pe_tup (pa_cons (pe_ix (ixU (K := K)) (pv 2) pe_int (fun _ _ => rfl)) (pa_cons (pv 4) (pa_cons (pv 5) (pa_cons (pv 7) pa_nil))))))
      (pss_cons (ps_if (pt_cmpR (opNeU (K := K) hr.units) (pe_call G_label_block (hr.mono (by decide)) rfl T.g_label_block T.F_label_block.kp T.b_label_block .nil pass0 (pa_cons (pv 0) (pa_cons (pv 1) (pa_cons (pv 8) pa_nil)))) (pv 2) (nomark _)) (pss_one (ps_ret pe_non)) pss_nil)
      (pss_one (ps_ret (pv 8)))))))))))), ?_⟩
    try dsimp only [cxOf]
    have r0 := Same.refl H
    rcases k with _ | k
    · obtain rfl := dp_non dv
      fail "go"
      exact hq _ _ r0 .non
    have hk := hk k rfl
    obtain ⟨t, u, rfl, ht, hu⟩ := dpBlk dv
    fail "go"
    refine g_iteN (fun e => ?_) (fun e3 => ?_)
    · fail "go"
      refine hq _ _ r0 ?_
      rw [labelOf, if_neg (fun z => e z.1)]
      exact .non
    fail "go"
    refine g_ite (fun e => ?_) (fun es => ?_)
    · fail "go"
      refine hq _ _ r0 ?_
      rw [labelOf, if_neg (fun z => z.2.1 e)]
      exact .non
    have o1 := hL.o1
    have hl := hk.len e3
    fail "go"
    refine g_slT3 (j := 6) hu (by decide) (by omega) rfl rfl ?_
    fail "newM"
    rename_i p1 H1 n1 g1 m1 h1 s1
    fail "go"
    refine ⟨_, _, _, _, rfl, SqT.of h1, ?_⟩
    fail "ret"
    rename_i p2 H2 h2 f2 g2 m2 s2
    fail "go"
    refine g_slT3 (j := 9) (sqT_mono s2 hu) (by decide) (by omega) rfl rfl ?_
    fail "newM"
    rename_i p3 H3 n3 g3 m3 h3 s3
    fail "go"
    refine ⟨_, _, _, _, rfl, SqT.of h3, ?_⟩
    fail "ret"
    rename_i p4 H4 h4 f4 g4 m4 s4
    have h2' : H4 p2 = some (.tup ((memOf k.body).map V.int)) := by fail "hp"
    have h4' : H4 p4 = some (.tup ((befOf k.body).map V.int)) := h4
    clear g1 g2 g3 g4 h1 h2 h3 h4 s1 s2 s3 n1 n3 f2 f4
    fail "go"
    refine g_ninF (.inr (SqT.of h2')) rfl (flat_ints _) ?_
    rw [inV_ints]
    fail "go"
    refine g_iteN (fun e => ?_) (fun em => ?_)
    · fail "go"
      refine hq _ _ s4 ?_
      rw [labelOf, if_neg (fun z => e z.2.2.1)]
      exact .non
    fail "go"
    refine g_ixT (sqT_mono s4 hu) (atI_getD (j := 12) (by omega)) ?_
    fail "go"
    refine g_ite (fun e => ?_) (fun e16 => ?_)
    · fail "go"
      refine hq _ _ s4 ?_
      rw [labelOf, if_neg (fun z => by have := z.2.2.2.1; omega)]
      exact .non
    fail "go"
    refine g_ixT (sqT_mono s4 hu) (atI_getD (j := 12) (by omega)) ?_
    have b12 := getD_oct (hk.oct e3) (show 12 < k.body.length by omega)
    have hfk : forksOf k.body = (List.range (k.body.getD 12 0).toNat).map (forkOf k.body) := rfl
    fail "go"
    have em16 : k.body.getD 12 0 ≤ 16 := by omega
    generalize hc : k.body.getD 12 0 = c at b12 hfk e16
    refine g_R1W (n := c.toNat) (by omega) (by omega) ?_
    intro D5 n5
    refine lc_range (lo := 0) (n := c.toNat) (fun j H' => Same H4 H' ∧ H' D5 = some (.lst ((startsI j).map V.int))) ⟨(Gr.newM (M := []) (Same.refl H4) n5).rh, by rw [upd_same]; rfl⟩ ?_ ?_
    · rintro j H5 hj ⟨s5, h5⟩
      rw [Int.zero_add]
      refine ⟨rfl, ?_⟩
      fail "go"
      refine ⟨_, h5, by rw [List.length_map, startsI_len]; fail "sz", fun b o q => by rw [upd_ne (ne_of_none q n5)]; exact s5 _ _ q, ?_⟩
      rw [upd_same, startsI_succ, List.map_append]; rfl
    rintro H5 ⟨s45, h5⟩
    have s5 := s4.trans s45
    fail "go"
    refine g_LsW (SqL.of h5) fun D6 n6 => ?_
    refine lc_list (K := K) (a := D5) (fun j H' => Same H5 H' ∧ H' D6 = some (.lst (((List.range j).map (forkOf k.body)).map V.int))) ⟨(Gr.newM (M := []) (Same.refl H5) n6).rh, upd_same⟩ (fun j H' _ ⟨s, _⟩ => SqL.of (s _ _ h5)) ?_ ?_
    · rintro j x H6 hj ⟨s6, h6⟩
      obtain ⟨st, hst, rfl⟩ := map_get hj
      obtain ⟨hjc, rfl⟩ := startsI_get hst
      have s06 := s5.trans s6
      refine ⟨rfl, ?_⟩
      fail "go"
      refine g_slT3 (j := 13 + 3 * j) (sqT_mono s06 hu) (by omega) (by omega) (by omega) (by omega) ?_
      fail "newM"
      rename_i p7 H7 n7 g7 m7 h7 s7
      fail "go"
      refine ⟨p7, [_, _, _], rfl, .inr (SqT.of h7), ?_⟩
      have h6' := g7.g.same _ _ h6
      refine ⟨_, h6', by rw [List.length_map, List.length_map, List.length_range]; fail "sz", fun b o q => by rw [upd_ne (ne_of_none q n6)]; exact g7.g.same _ _ (s6 _ _ q), ?_⟩
      have ef : forkOf k.body j = numOf [k.body.getD (13 + 3 * j) 0, k.body.getD (13 + 3 * j + 1) 0, k.body.getD (13 + 3 * j + 2) 0] := by
        unfold forkOf
        rw [show 14 + 3 * j = 13 + 3 * j + 1 by omega, show 15 + 3 * j = 13 + 3 * j + 2 by omega]
      rw [upd_same, List.range_succ, List.map_append, List.map_append, List.map_singleton, List.map_singleton, ef]
    rintro H6 ⟨s56, h6⟩
    rw [List.length_map, startsI_len, ← hfk] at h6
    have s46 := s45.trans s56
    have s6 := s5.trans s56
    have fl : (forksOf k.body).length ≤ 16 := by rw [hfk, List.length_map, List.length_range]; omega
    fail "go"
    refine g_tupL (SqL.of h6) ?_
    fail "newM"
    rename_i p7 H7 n7 g7 m7 h7 s7
    fail "go"
    refine ⟨by fail "sz", ?_⟩
    fail "newM"
    rename_i p8 H8 n8 g8 m8 h8 s8
    have s48 : Same H4 H8 := s46.trans (g7.g.same.trans g8.g.same)
    have ml : Dp K H8 (.ref p8) (readLb k).d := mkLb (SqT.of h8) (SqT.of (s48 _ _ h2')) (SqT.of (s48 _ _ h4')) (SqT.of (g8.g.same _ _ h7))
    fail "go"
    refine ⟨a, _, L, n, readLb k, rfl, ha.mono s8, hL, ml, by show (forksOf k.body).length ≤ 300; omega, fun w H9 s9 dw _ => ?_⟩
    have dw' := dw
    obtain ⟨t9, u9, rfl, _, _⟩ := dpBlk dw'
    have dv9 : Dp K H9 (.ref t) k.d := dp_mono (s8.trans s9) dv
    fail "go"
    refine g_neDa dw dv9 (la_shaped (la_blk _)) (la_shaped (la_blk k)) (.inl ⟨_, rfl⟩) ?_
    rw [eqv_blk]
    fail "go"
    refine g_iteN (fun e => ?_) (fun e => ?_)
    · fail "go"
      refine hq _ _ (s8.trans s9) ?_
      rw [labelOf, if_neg (fun z => e z.2.2.2.2)]
      exact .non
    · fail "go"
      refine hq _ _ (s8.trans s9) ?_
      rw [labelOf, if_pos ⟨e3, es, em, em16, e⟩]
      exact dp_mono s9 ml
end
def spWhole (K : PySem.W.Frag) (C : Addr) : Sp := fun vs H Q _ => ∃ (a : Addr) (v : V) (L : Lay) (n : Int) (c : Cell), vs = [.ref a, .int n, v] ∧ LayAt C H a L ∧ L.Ok ∧ Dp K H v (cellD c) ∧ CellOk c ∧ ∀ H', Same H H' → Q (.bl (whole L n c)) H'
section
variable {P : Program} {w : World} {K : PySem.W.Frag} {mg : Str → Option Value} {base : Heap}
theorem ok_is_whole (T : Txt P K mg) : FnOk P w K mg base CX0 6 T.f_is_whole T.fd_is_whole ["layout", "address", "cell"] (spWhole K T.C_Layout) := by
  have G_check_of := ok_check_of (P := P) (w := w) (base := base) T
  refine T.F_is_whole.ok sc_is_whole (fun vs H Q E h => ?_) (fun cdv A outer s H vs Q E hr h => ?_)
  · obtain ⟨a, v, L, n, c, rfl, ha, hL, hv, hc, hq⟩ := h
    rfl
  · obtain ⟨a, v, L, n, c, rfl, ha, hL, hv, hc, hq⟩ := h
    refine ⟨_, (pss_cons (ps_if (PW.pt (pw_or (pt_cmpR opIsU (pv 2) pe_non (nomark _)) (pw_or1 (pt_cmpR opIsU (pe_ix (ixU (K := K)) (pv 2) pe_int (fun _ _ => rfl)) pe_non (nomark _))))) (pss_one (ps_ret pe_bl)) pss_nil)
      (pss_one (ps_ret (pe_cmpR (opEqU (K := K) hr.units) (pe_ix (ixU (K := K)) (pv 2) pe_int (fun _ _ => rfl)) (pe_call G_check_of (hr.mono (by decide)) rfl T.g_check_of T.F_check_of.kp T.b_check_of .nil pass0 (pa_cons (pv 0) (pa_cons (pv 1) (pa_cons (pe_ix (ixU (K := K)) (pv 2) pe_int (fun _ _ => rfl)) pa_nil)))) (nomark _))))), ?_⟩
    try dsimp only [cxOf]
    have r0 := Same.refl H
    rcases cellV hv with ⟨rfl, rfl⟩ | ⟨b, k, t, u, rfl, rfl, ht, hu⟩
    · fail "go"
      exact hq _ r0
    · fail "go"
      rcases optV hu with ⟨rfl, rfl⟩ | ⟨d, w, rfl, rfl⟩
      · fail "go"
        exact hq _ r0
      · fail "go"
        refine ⟨a, _, L, n, some d, rfl, ha, hL, hu, hc, fun H1 s1 => ?_⟩
        fail "go"
        exact hq _ s1
end
def spSideRead (K : PySem.W.Frag) (CL CS CD : Addr) : Sp := fun vs H Q _ => ∃ (R : Hp) (s a : Addr) (L : Lay) (z : Int) (m : Rows) (ms : List Addr) (n : Nat) (c : Cell), vs = [.ref s, .int (n : Int)] ∧ Same R H ∧ LayAt CL R a L ∧ L.Ok ∧ SideOk K CS CD R H s a z m ms ∧ m.seen[n]? = some c ∧ CellOk c ∧
  ∀ v H', Same H H' → Dp K R v (optD (readC L n c)) → Q v H'
section
variable {P : Program} {w : World} {K : PySem.W.Frag} {mg : Str → Option Value} {base : Heap}
theorem ok_Side_read (T : Txt P K mg) : FnOk P w K mg base CX0 7 T.f_Side_read T.fd_Side_read ["self", "address"] (spSideRead K T.C_Layout T.C_Side T.C_Device) := by
  have cl_Side := T.cl_Side
  have a_Side_device := T.a_Side_device
  have a_Side_layout := T.a_Side_layout
  have G_Device_read := ok_Device_read (P := P) (w := w) (base := base) T
  have G_is_whole := ok_is_whole (P := P) (w := w) (base := base) T
  refine T.F_Side_read.ok sc_Side_read (fun vs H Q E h => ?_) (fun cdv A outer s H vs Q E hr h => ?_)
  · obtain ⟨R, s, a, L, z, m, ms, n, c, rfl, sR, ha, hL, hso, hn, hc, hq⟩ := h
    rfl
  · obtain ⟨R, s, a, L, z, m, ms, n, c, rfl, sR, ha, hL, hso, hn, hc, hq⟩ := h
    refine ⟨_, (pss_cons (ps_set (i := 2) sc_Side_read.nd rfl (by first | exact Or.inl rfl | exact Or.inr rfl) (pe_meth (pe_fldK (K := K) (pv 0) rfl) T.cl_Device T.m_Device_read G_Device_read (hr.mono (by decide)) T.b_Device_read .nil pass0 (pa_cons (pv 1) pa_nil)))
      (pss_cons (ps_if (pt_truthK (K := K) (pe_call G_is_whole (hr.mono (by decide)) rfl T.g_is_whole T.F_is_whole.kp T.b_is_whole .nil pass0 (pa_cons (pe_fldK (K := K) (pv 0) rfl) (pa_cons (pv 1) (pa_cons (pv 2) pa_nil)))) (by intro _; rfl)) (pss_one (ps_ret (pe_ix (ixU (K := K)) (pv 2) pe_int (fun _ _ => rfl)))) pss_nil)
      (pss_one (ps_ret pe_non)))), ?_⟩
    try dsimp only [cxOf]
    obtain ⟨d, ds, rfl, ⟨⟨sx, hs⟩, nin, non, dev⟩⟩ := hso
    obtain ⟨l1, l2, l3, eds, ⟨dx, hd⟩, nd, non', u1, u2, u3, h1, h2, h3, d1, d2, d3⟩ := dev
    obtain ⟨v, hv, dv⟩ := cells_get d2 hn
    fail "go"
    refine ⟨d, a, l1, l2, l3, u2, v, n, rfl, ⟨_, hd⟩, SqL.of h2, hv, ?_⟩
    fail "go"
    refine ⟨a, v, L, n, c, rfl, ha.mono sR, hL, dp_mono sR dv, hc, fun H1 s1 => ?_⟩
    have sR1 := sR.trans s1
    fail "go"
    refine ⟨_, rfl, ?_⟩
    rcases c with _ | ⟨_ | b, k⟩
    · refine g_iteF rfl ?_
      fail "go"
      exact hq _ _ s1 .non
    · refine g_iteF rfl ?_
      fail "go"
      exact hq _ _ s1 .non
    · obtain ⟨t, x, y, rfl, ht, hx, hy⟩ := dpT2 dv
      have ht1 := sqT_mono sR1 ht
      by_cases e : k = chk L n (some b)
      · refine g_iteT (by simp [whole, e]) ?_
        fail "go"
        refine hq _ _ s1 ?_
        rw [readC, if_pos e]
        exact hx
      · refine g_iteF (by simp [whole, e]) ?_
        fail "go"
        refine hq _ _ s1 ?_
        rw [readC, if_neg e]
        exact .non
end
structure LabOk (L : Lay) (m : Rows) : Prop where
  len : (m.seen.length : Int) = L.device + 2
  dev : 0 ≤ L.device ∧ L.device < 900
  ok : ∀ c ∈ m.seen, CellOk c ∧ ∀ b k, c = some (some b, k) → OctBlk L b
theorem readC_oct {L : Lay} {n : Int} {c : Cell} (h : ∀ b k, c = some (some b, k) → OctBlk L b) : ∀ b, readC L n c = some b → OctBlk L b := fun b e => by
  rcases c with _ | ⟨_ | b', k⟩
  · cases e
  · cases e
  · rw [readC] at e
    split at e
    · cases e; exact h _ _ rfl
    · cases e
def spLabels (K : PySem.W.Frag) (CL CS CD : Addr) : Sp := fun vs H Q _ => ∃ (R : Hp) (s a : Addr) (L : Lay) (z : Int) (m : Rows) (ms : List Addr), vs = [.ref s] ∧ Same R H ∧ LayAt CL R a L ∧ L.Ok ∧ SideOk K CS CD R H s a z m ms ∧ LabOk L m ∧
  ∀ p H' us, Same H H' → H p = none → H' p = some (.lst us) → DpAll K H' us ((labsOf L z m).map lbD) → Q (.ref p) H'
def LabInv (K : PySem.W.Frag) (H : Hp) (p : Addr) (ls : List (Option Lb)) (i : Nat) (H' : Hp) : Prop := ∃ us, Same H H' ∧ H' p = some (.lst us) ∧ DpAll K H' us ((ls.take i).map lbD)
theorem only_lbs : ∀ ls : List (Option Lb), tupOnlyAll (ls.map lbD) = true
  | [] => by simp [tupOnlyAll]
  | c :: r => by rw [List.map_cons, tupOnlyAll, only_lb, only_lbs r]; rfl
section
variable {P : Program} {w : World} {K : PySem.W.Frag} {mg : Str → Option Value} {base : Heap}
theorem ok_Side_labels (T : Txt P K mg) : FnOk P w K mg base CX0 8 T.f_Side_labels T.fd_Side_labels ["self"] (spLabels K T.C_Layout T.C_Side T.C_Device) := by
  have cl_Layout := T.cl_Layout
  have cl_Side := T.cl_Side
  have a_Layout_device_blocks := T.a_Layout_device_blocks
  have a_Side_layout := T.a_Side_layout
  have a_Side_seat := T.a_Side_seat
  have G_label_of := ok_label_of (P := P) (w := w) (base := base) T
  have G_Side_read := ok_Side_read (P := P) (w := w) (base := base) T
  refine T.F_Side_labels.ok sc_Side_labels (fun vs H Q E h => ?_) (fun cdv A outer s H vs Q E hr h => ?_)
  · obtain ⟨R, s, a, L, z, m, ms, rfl, sR, ha, hL, hso, lo, hq⟩ := h
    rfl
  · obtain ⟨R, s, a, L, z, m, ms, rfl, sR, ha, hL, hso, lo, hq⟩ := h
    refine ⟨_, (pss_cons (ps_set (i := 1) sc_Side_labels.nd rfl (by first | exact Or.inl rfl | exact Or.inr rfl) (pe_fldK (K := K) (pe_fldK (K := K) (pv 0) rfl) rfl))
      (pss_one (ps_ret (pe_lc (own := [("slot", 2)]) (g := gName 2) (tt := tYes) rfl sc_Side_labels.nd (pi_range1 rfl T.n_range (pa_cons (pe_glob rfl T.g_LABELS T.r_LABELS) pa_nil)) (blkOk_by (N := N_Side_labels) (sc := defScope s_Side_labels) (by decide +kernel)) (fun _ _ _ _ _ => (pg_name (i := 2) sc_Side_labels.nd rfl (by first | exact Or.inl rfl | exact Or.inr rfl))) (fun _ _ _ _ _ => pts_nil) (fun _ _ _ _ _ => (pe_call G_label_of (hr.mono (by decide)) rfl T.g_label_of T.F_label_of.kp T.b_label_of .nil pass0 (pa_cons (pe_fldK (K := K) (pv 0) rfl) (pa_cons (pe_fldK (K := K) (pv 0) rfl) (pa_cons (pe_meth (pv 0) T.cl_Side T.m_Side_read G_Side_read (hr.mono (by decide)) T.b_Side_read .nil pass0 (pa_cons (pe_op (opAddU (K := K)) (pv 1) (pv 2)) pa_nil)) pa_nil))))))))), ?_⟩
    try dsimp only [cxOf]
    have hso0 := hso
    obtain ⟨d, ds, rfl, ⟨⟨sx, hs⟩, nin, non, dev⟩⟩ := hso
    obtain ⟨lx, haf⟩ := ha
    have haH := sR _ _ haf
    obtain ⟨len, dv0, cok⟩ := lo
    obtain ⟨dn, hdn⟩ : ∃ dn : Nat, L.device = (dn : Int) := ⟨L.device.toNat, by omega⟩
    have lab : ∀ i : Nat, i < 2 → ∃ c, m.seen[dn + i]? = some c ∧ c ∈ m.seen ∧ (labsOf L z m)[i]? = some (labelOf L z (readC L ((dn + i : Nat) : Int) c)) := fun i hi => by
      have hlt : dn + i < m.seen.length := by omega
      refine ⟨m.seen[dn + i], List.getElem?_eq_getElem hlt, List.getElem_mem hlt, ?_⟩
      have e : L.device.toNat = dn := by omega
      match i, hi with
      | 0, _ =>
        have : m.seen[dn]? = some m.seen[dn] := List.getElem?_eq_getElem hlt
        simp [labsOf, hdn, e, List.getD_eq_getElem?_getD, this]
      | 1, _ => simp [labsOf, hdn, e, List.getD_eq_getElem?_getD, List.getElem?_eq_getElem hlt]
    fail "go"
    refine g_R1W (n := 2) rfl (by omega) fun D nD => ?_
    refine lc_range (lo := 0) (n := 2) (LabInv K H D (labsOf L z m)) ⟨[], (Gr.newM (M := []) sR nD).same, upd_same, .nil⟩ ?_ ?_
    · rintro i H1 hi ⟨us, s1, hD1, du⟩
      obtain ⟨c, hc, cm, hl⟩ := lab i hi
      have hs1 := s1 _ _ hs
      have ha1 := s1 _ _ haH
      have hso1 := hso0.frame (Mu.ofSame sR s1).g (fun _ _ => List.not_mem_nil)
      have sR1 := sR.trans s1
      clear sR haH hs
      fail "go"
      refine ⟨rfl, ?_⟩
      fail "go"
      rw [hdn, show (dn : Int) + (0 + (i : Int)) = ((dn + i : Nat) : Int) by omega]
      refine ⟨R, s, a, L, z, m, _, dn + i, c, rfl, sR1, ⟨_, haf⟩, hL, hso1, hc, (cok c cm).1, fun v H2 s2 dv => ?_⟩
      have hD2 := s2 _ _ hD1
      have ha2 := s2 _ _ ha1
      have sR2 := sR1.trans s2
      fail "go"
      refine ⟨a, v, L, z, _, rfl, ⟨_, ha2⟩, hL, dp_mono sR2 dv, readC_oct (cok c cm).2, fun w H3 s3 dw => ?_⟩
      have hD3 := s3 _ _ hD2
      have gD : Gr [D] (wo H D) H3 (wo H D) (upd H3 D (.lst (us ++ [w]))) := Gr.mut ((wo_same.trans s1).trans (s2.trans s3)) wo_self hD3
      have ul := dpAll_len du
      refine ⟨_, hD3, by rw [ul, List.length_map, List.length_take]; exact Nat.lt_of_le_of_lt (show _ ≤ 1000 by omega) (by decide), us ++ [w], fun b o e => ?_, upd_same, ?_⟩
      · rw [upd_ne (ne_of_none e nD)]; exact s3 _ _ (s2 _ _ (s1 _ _ e))
      · rw [List.take_add_one, hl, List.map_append]
        exact dpAll_app (dpAll_wo1 hD3 (only_lbs _) gD (dpAll_mono (s2.trans s3) du)) (.cons (dp_wo1 hD3 (only_lb _) gD dw) .nil)
    · rintro H1 ⟨us, s1, hD1, du⟩
      fail "go"
      exact hq _ _ _ s1 nD hD1 du
end
def spNewer (K : PySem.W.Frag) : Sp := fun vs H Q _ => ∃ (v w : V) (l : Lb) (b : Option Lb), vs = [v, w] ∧ Dp K H v l.d ∧ Dp K H w (lbD b) ∧ Q (.bl (newer l b)) H
section
variable {P : Program} {w : World} {K : PySem.W.Frag} {mg : Str → Option Value} {base : Heap}
theorem ok_is_newer (T : Txt P K mg) : FnOk P w K mg base CX0 1 T.f_is_newer T.fd_is_newer ["label", "other"] (spNewer K) := by
  refine T.F_is_newer.ok sc_is_newer (fun vs H Q E h => ?_) (fun cdv A outer s H vs Q E hr h => ?_)
  · obtain ⟨v, w, l, b, rfl, dv, dw, hq⟩ := h
    rfl
  · obtain ⟨v, w, l, b, rfl, dv, dw, hq⟩ := h
    refine ⟨_, (pss_cons (ps_if (PW.pt (pw_or (pt_cmpR opIsU (pv 1) pe_non (nomark _)) (pw_or1 (pt_cmpR (opNeU (K := K) hr.units) (pe_ix (ixU (K := K)) (pv 0) pe_int (fun _ _ => rfl)) (pe_ix (ixU (K := K)) (pv 1) pe_int (fun _ _ => rfl)) (nomark _))))) (pss_one (ps_ret (pe_or (pe_cmpR opIsU (pv 1) pe_non (nomark _)) (pe_one (pe_cmpR op_gt (pe_ix (ixU (K := K)) (pv 0) pe_int (fun _ _ => rfl)) (pe_ix (ixU (K := K)) (pv 1) pe_int (fun _ _ => rfl)) (nomark _)))))) pss_nil)
      (pss_one (ps_ret (pe_cmpR op_lt (pe_callB (callLenU (K := K)) (by rfl) T.n_len (by decide +kernel) (pa_cons (pe_ix (ixU (K := K)) (pv 0) pe_int (fun _ _ => rfl)) pa_nil)) (pe_callB (callLenU (K := K)) (by rfl) T.n_len (by decide +kernel) (pa_cons (pe_ix (ixU (K := K)) (pv 1) pe_int (fun _ _ => rfl)) pa_nil)) (nomark _))))), ?_⟩
    try dsimp only [cxOf]
    have r0 := Same.refl H
    obtain ⟨t, m, x, f, rfl, ht, hm, _, _⟩ := dpLb dv
    rcases b with _ | o
    · obtain rfl := dp_non dw
      fail "go"
      exact hq
    · obtain ⟨t2, m2, x2, f2, rfl, ht2, hm2, _, _⟩ := dpLb dw
      dsimp only [newer] at hq
      fail "go"
      refine g_iteN (fun e => ?_) (fun e => ?_)
      · rw [if_neg e] at hq
        fail "go"
        exact hq
      · rw [if_pos e] at hq
        fail "go"
        rw [List.length_map, List.length_map]
        have z : decide ((l.mem.length : Int) < (o.mem.length : Int)) = decide (l.mem.length < o.mem.length) := by rw [decide_eq_decide]; omega
        rw [z]
        exact hq
end
def spNewest (K : PySem.W.Frag) : Sp := fun vs H Q _ => ∃ (a : Addr) (us : List V) (ls : List (Option Lb)), vs = [.ref a] ∧ SqL K H a us ∧ DpAll K H us (ls.map lbD) ∧ ∀ v, Dp K H v (lbD (newestOf ls)) → Q v H
def NewInv (K : PySem.W.Frag) (a : Addr) (ls : List (Option Lb)) (H0 : Hp) (i : Nat) (σ : St) (H : Hp) : Prop := ∃ (v : V) (x : Option V), σ = [some (.ref a), some v, x] ∧ H = H0 ∧ Dp K H v (lbD (newestOf (ls.take i)))
theorem newest_snoc {ls : List (Option Lb)} {i : Nat} {b : Option Lb} (h : ls[i]? = some b) : newestOf (ls.take (i + 1)) = pickLb (newestOf (ls.take i)) b := by
  rw [List.take_add_one, h]
  unfold newestOf
  rw [List.foldl_append]; rfl
section
variable {P : Program} {w : World} {K : PySem.W.Frag} {mg : Str → Option Value} {base : Heap}
theorem ok_newest_label (T : Txt P K mg) : FnOk P w K mg base CX0 2 T.f_newest_label T.fd_newest_label ["labels"] (spNewest K) := by
  have G_is_newer := ok_is_newer (P := P) (w := w) (base := base) T
  refine T.F_newest_label.ok sc_newest_label (fun vs H Q E h => ?_) (fun cdv A outer s H vs Q E hr h => ?_)
  · obtain ⟨a, us, ls, rfl, ha, du, hq⟩ := h
    rfl
  · obtain ⟨a, us, ls, rfl, ha, du, hq⟩ := h
    refine ⟨_, (pss_cons (ps_set (i := 1) sc_newest_label.nd rfl (by first | exact Or.inl rfl | exact Or.inr rfl) pe_non)
      (pss_cons (ps_for PassesOwn.never rfl (pi_listK (K := K) (pv 0)) (pg_name (i := 2) sc_newest_label.nd rfl (by first | exact Or.inl rfl | exact Or.inr rfl)) (pss_one (ps_if (PW.pt (pw_and (pt_cmpR opNotU (pv 2) pe_non (nomark _)) (pw_and1 (pt_truthK (K := K) (pe_call G_is_newer (hr.mono (by decide)) rfl T.g_is_newer T.F_is_newer.kp T.b_is_newer .nil pass0 (pa_cons (pv 2) (pa_cons (pv 1) pa_nil))) (by intro _; rfl))))) (pss_one (ps_set (i := 1) sc_newest_label.nd rfl (by first | exact Or.inl rfl | exact Or.inr rfl) (pv 2))) pss_nil)))
      (pss_one (ps_ret (pv 1))))), ?_⟩
    try dsimp only [cxOf]
    have r0 := Same.refl H
    have ul : us.length = ls.length := by have := dpAll_len du; simpa using this
    fail "go"
    refine g_LsW ha ?_
    refine for_list (K := K) (xs := us) (NewInv K a ls H) ⟨_, none, rfl, rfl, .non⟩ (fun i σ H2 _ ⟨_, _, _, e, _⟩ => e ▸ ha) ?_ ?_
    · rintro i x σ H2 hi ⟨v, x0, rfl, rfl, dv⟩
      obtain ⟨d, hd, dx⟩ := dpAll_get' du hi
      rw [List.getElem?_map] at hd
      obtain ⟨b, hb, rfl⟩ := Option.map_eq_some_iff.mp hd
      have hs := newest_snoc hb
      rcases b with _ | l
      · obtain rfl := dp_non dx
        fail "go"
        exact ⟨v, _, rfl, rfl, by rw [hs]; exact dv⟩
      · obtain ⟨t, m, y, f, rfl, ht, hm, _, _⟩ := dpLb dx
        fail "go"
        refine ⟨_, v, l, _, rfl, dx, dv, ?_⟩
        fail "go"
        refine ⟨_, rfl, ?_⟩
        refine g_iteB (fun e => ?_) (fun e => ?_)
        · fail "go"
          exact ⟨_, _, rfl, rfl, by rw [hs, pickLb, if_pos e]; exact dx⟩
        · fail "go"
          exact ⟨v, _, rfl, rfl, by rw [hs, pickLb, if_neg (by rw [e]; exact Bool.false_ne_true)]; exact dv⟩
    · rintro σ H2 ⟨v, x0, rfl, rfl, dv⟩
      rw [ul, List.take_length] at dv
      fail "go"
      exact hq _ dv
end
def spWriteLabel (K : PySem.W.Frag) (CL CS CD : Addr) : Sp := fun vs H Q _ => ∃ (R : Hp) (s a : Addr) (L : Lay) (z : Int) (m : Rows) (ms : List Addr) (v : V) (l : Lb), vs = [.ref s, v] ∧ Same R H ∧ LayAt CL R a L ∧ L.Ok ∧ SideOk K CS CD R H s a z m ms ∧ LabOk L m ∧ m.wait.length ≤ 100 ∧ Dp K H v l.d ∧ l.forks.length ≤ 300 ∧
  BlkOk (some (labelBlk L z l)) ∧ ∀ R' H', Gr ms R H R' H' → SideOk K CS CD R' H' s a z (m.put (L.device.toNat + slotOf L z m) (sealOf L ((L.device.toNat + slotOf L z m : Nat) : Int) (some (labelBlk L z l)))) ms → Q .non H'
section
variable {P : Program} {w : World} {K : PySem.W.Frag} {mg : Str → Option Value} {base : Heap}
theorem ok_Side_write_label (T : Txt P K mg) : FnOk P w K mg base CX0 9 T.f_Side_write_label T.fd_Side_write_label ["self", "label"] (spWriteLabel K T.C_Layout T.C_Side T.C_Device) := by
  have cl_Side := T.cl_Side
  have cl_Layout := T.cl_Layout
  have a_Side_seat := T.a_Side_seat
  have a_Side_layout := T.a_Side_layout
  have a_Layout_device_blocks := T.a_Layout_device_blocks
  have G_Side_labels := ok_Side_labels (P := P) (w := w) (base := base) T
  have G_newest_label := ok_newest_label (P := P) (w := w) (base := base) T
  have G_Side_write := ok_Side_write (P := P) (w := w) (base := base) T
  have G_label_block := ok_label_block (P := P) (w := w) (base := base) T
  refine T.F_Side_write_label.ok sc_Side_write_label (fun vs H Q E h => ?_) (fun cdv A outer s H vs Q E hr h => ?_)
  · obtain ⟨R, s, a, L, z, m, ms, v, l, rfl, sR, ha, hL, hso, lo, hw, dv, hf, okb, hq⟩ := h
    rfl
  · obtain ⟨R, s, a, L, z, m, ms, v, l, rfl, sR, ha, hL, hso, lo, hw, dv, hf, okb, hq⟩ := h
    refine ⟨_, (pss_cons (ps_set (i := 2) sc_Side_write_label.nd rfl (by first | exact Or.inl rfl | exact Or.inr rfl) (pe_meth0 (pv 0) T.cl_Side T.m_Side_labels G_Side_labels (hr.mono (by decide)) T.b_Side_labels .nil pass0))
      (pss_cons (ps_set (i := 3) sc_Side_write_label.nd rfl (by first | exact Or.inl rfl | exact Or.inr rfl) pe_int)
      (pss_cons (ps_if (PW.pt (pw_and (pt_cmpR opNotU (pe_ix (ixU (K := K)) (pv 2) pe_int (fun _ _ => rfl)) pe_non (nomark _)) (pw_and1 (pt_cmpR (opEqU (K := K) hr.units) (pe_ix (ixU (K := K)) (pv 2) pe_int (fun _ _ => rfl)) (pe_call G_newest_label (hr.mono (by decide)) rfl T.g_newest_label T.F_newest_label.kp T.b_newest_label .nil pass0 (pa_cons (pv 2) pa_nil)) (nomark _))))) (pss_one (ps_set (i := 3) sc_Side_write_label.nd rfl (by first | exact Or.inl rfl | exact Or.inr rfl) pe_int)) pss_nil)
      (pss_one (ps_expr (pe_meth (pv 0) T.cl_Side T.m_Side_write G_Side_write (hr.mono (by decide)) T.b_Side_write .nil pass0 (pa_cons (pe_op (opAddU (K := K)) (pe_fldK (K := K) (pe_fldK (K := K) (pv 0) rfl) rfl) (pv 3)) (pa_cons (pe_call G_label_block (hr.mono (by decide)) rfl T.g_label_block T.F_label_block.kp T.b_label_block .nil pass0 (pa_cons (pe_fldK (K := K) (pv 0) rfl) (pa_cons (pe_fldK (K := K) (pv 0) rfl) (pa_cons (pv 1) pa_nil)))) pa_nil)))))))), ?_⟩
    try dsimp only [cxOf]
    have hso0 := hso
    have sR0 := sR
    obtain ⟨d, ds, rfl, ⟨⟨sx, hs⟩, nin, non, dev⟩⟩ := hso
    obtain ⟨lx, haf⟩ := ha
    fail "go"
    refine ⟨R, s, a, L, z, m, _, rfl, sR, ⟨_, haf⟩, hL, hso0, lo, fun p H1 us s1 np hp du => ?_⟩
    have ha1 := s1 _ _ (sR _ _ haf)
    have hso1 := hso0.frame (Mu.ofSame sR s1).g (fun _ _ => List.not_mem_nil)
    have dv1 := dp_mono s1 dv
    have sR1 := sR.trans s1
    have hs1 := s1 _ _ hs
    obtain ⟨v0, us1, rfl, dv0, du1⟩ := dpAll_cons du
    obtain ⟨v1, us2, rfl, dvv1, du2⟩ := dpAll_cons du1
    obtain rfl := dpAll_nil du2
    have len := lo.len
    have dev0 := lo.dev
    clear hs sR
    fail "gi"
    refine g_seqIN (fun σ H' => σ = [some (.ref s), some v, some (.ref p), some (.int (slotOf L z m : Int))] ∧ Same H1 H') ?_ (fun Nx rest => ?_)
    · rintro σ H2 ⟨rfl, s2⟩
      have sl : slotOf L z m ≤ 1 := by unfold slotOf; split <;> omega
      have hs2 := s2 _ _ hs1
      have ha2 := s2 _ _ ha1
      have sR2 := sR1.trans s2
      have hso2 := hso1.frame (Mu.ofSame sR1 s2).g (fun _ _ => List.not_mem_nil)
      clear hs1 ha1 sR1 hp
      fail "go"
      refine ⟨a, v, L, z, l, rfl, ⟨_, ha2⟩, hL, dp_mono s2 dv1, hf, fun w H3 s3 dw nw => ?_⟩
      have hso3 := hso2.frame (adopt_gr sR2 s3) (fun _ _ => List.not_mem_nil)
      have gA : Gr [] R H (adopt R H2 H3) H3 := (Mu.ofSame sR0 (s1.trans s2)).g.trans (adopt_gr sR2 s3)
      have dw2 := nw R
      have haR := gA.rr _ _ haf
      have sR3 := gA.rh
      have okb' : BlkOk (some (labelBlk L z l)) := okb
      clear hso2 sR2 hs2 ha2
      obtain ⟨d', ds', e', ⟨⟨sx3, hs3⟩, _, _, _⟩⟩ := id hso3
      fail "go"
      refine ⟨_, s, a, L, z, m, _, w, L.device.toNat + slotOf L z m, some (labelBlk L z l), ?_, sR3, ⟨_, haR⟩, hL, hso3, by omega, hw, dw2, okb', fun R' H' g so => ?_⟩
      · rw [show ((L.device.toNat + slotOf L z m : Nat) : Int) = L.device + (slotOf L z m : Int) by omega]
        rfl
      · fail "go"
        exact hq _ _ (gA.nil.trans g) so
    · have hv0 : labsOf L z m = [labelOf L z (readC L L.device (m.seen.getD L.device.toNat none)), labelOf L z (readC L (L.device + 1) (m.seen.getD (L.device.toNat + 1) none))] := rfl
      have e0 : ∃ x : Option Lb, Dp K H1 v0 (lbD x) ∧ labsOf L z m = [x, labelOf L z (readC L (L.device + 1) (m.seen.getD (L.device.toNat + 1) none))] ∧ x = (labsOf L z m).getD 0 none := ⟨_, dv0, hv0, rfl⟩
      fail "go"
      obtain ⟨x0, dx0, ex, hx0⟩ := e0
      have sl : slotOf L z m = if x0 ≠ none ∧ x0 = labOf L z m then 1 else 0 := by unfold slotOf; rw [← hx0]
      rcases lbV dx0 with ⟨rfl, rfl⟩ | ⟨c, tt, rfl, rfl⟩
      · refine g_iteF rfl ?_
        fail "go"
        exact rest _ _ ⟨by rw [sl]; rfl, Same.refl H1⟩
      · refine g_iteT rfl ?_
        fail "go"
        refine ⟨p, _, labsOf L z m, rfl, SqL.of hp, .cons dv0 (.cons dvv1 .nil), fun v2 dv2 => ?_⟩
        fail "go"
        refine g_eqDa dx0 dv2 (la_shaped (la_lbD _)) (la_shaped (la_lbD _)) (.inl ⟨_, rfl⟩) ?_
        rw [eqv_lbD]
        fail "go"
        refine g_ite (fun e => ?_) (fun e => ?_)
        · fail "go"
          exact rest _ _ ⟨by rw [sl, if_pos ⟨by simp, e⟩]; rfl, Same.refl H1⟩
        · fail "go"
          exact rest _ _ ⟨by rw [sl, if_neg (fun z => e z.2)]; rfl, Same.refl H1⟩
end
def spLawLb (K : PySem.W.Frag) (C : Addr) : Sp := fun vs H Q _ => ∃ (a : Addr) (v : V) (L : Lay) (n : Int) (l : Lb), vs = [.ref a, .int n, v] ∧ LayAt C H a L ∧ L.Ok ∧ Dp K H v l.d ∧ l.forks.length ≤ 300 ∧ (∀ f ∈ l.forks, 0 ≤ f ∧ f < 16777216) ∧ ∀ w H', Same H H' → Dp K H' w (labelBlk L n l).d → NewDp K H H' w (labelBlk L n l).d → Q w H'
theorem bits_step' (l : List Int) {j : Nat} (h : j < 3) : (bits l).take (j + 1) = (bits l).take j ++ [if decide (0 + (j : Int) ∈ l) = true then 1 else 0] := by
  match j, h with
  | 0, _ => simp [bits, bit]
  | 1, _ => simp [bits, bit]
  | 2, _ => simp [bits, bit]
def LlForks (R : Hp) (a t : Addr) (n : Int) (l : Lb) (i : Nat) (σ : St) (H : Hp) : Prop := ∃ (p : Addr) (x y : Option V), σ = [some (.ref a), some (.int n), some (.ref t), some (.ref p), x, y] ∧ Same R H ∧ R p = none ∧ H p = some (.lst ((labelHead n l ++ fork3 (l.forks.take i)).map V.int))
section
variable {P : Program} {w : World} {K : PySem.W.Frag} {mg : Str → Option Value} {base : Heap}
theorem ok__law_label_block (T : Txt P K mg) : FnOk P w K mg base CX0 2 T.f__law_label_block T.fd__law_label_block ["layout", "seat", "label"] (spLawLb K T.C_Layout) := by
  have cl_Layout := T.cl_Layout
  have a_Layout_block_size := T.a_Layout_block_size
  have G__law_low := ok__law_low (P := P) (w := w) (base := base) T
  refine T.F__law_label_block.ok sc__law_label_block (fun vs H Q E h => ?_) (fun cdv A outer s H vs Q E hr h => ?_)
  · obtain ⟨a, v, L, n, l, rfl, ⟨dx, ha⟩, hL, dv, hf, hrg, hq⟩ := h
    rfl
  · obtain ⟨a, v, L, n, l, rfl, ⟨dx, ha⟩, hL, dv, hf, hrg, hq⟩ := h
    refine ⟨_, (pss_cons (ps_set (i := 3) sc__law_label_block.nd rfl (by first | exact Or.inl rfl | exact Or.inr rfl) (pe_op (opAddU (K := K)) (pe_lst (pa_cons pe_int (pa_cons pe_int (pa_cons pe_int (pa_cons pe_int (pa_cons pe_int (pa_cons (pv 1) pa_nil))))))) (pe_lc (own := [("other", 5)]) (g := gName 5) (tt := tYes) rfl sc__law_label_block.nd (pi_range1 rfl T.n_range (pa_cons pe_int pa_nil)) (blkOk_by (N := N__law_label_block) (sc := defScope s__law_label_block) (by decide +kernel)) (fun _ _ _ _ _ => (pg_name (i := 5) sc__law_label_block.nd rfl (by first | exact Or.inl rfl | exact Or.inr rfl))) (fun _ _ _ _ _ => pts_nil) (fun _ _ _ _ _ => (pe_callTy callIntU (by rfl) T.n_int (by decide +kernel) (pa_cons (pe_cmpR (opInF (K := K)) (pv 5) (pe_ix (ixU (K := K)) (pv 2) pe_int (fun _ _ => rfl)) (by rfl)) pa_nil))))))
      (pss_cons (ps_set (i := 3) sc__law_label_block.nd rfl (by first | exact Or.inl rfl | exact Or.inr rfl) (pe_op (opAddU (K := K)) (pe_op (opAddU (K := K)) (pv 3) (pe_lc (own := [("other", 5)]) (g := gName 5) (tt := tYes) rfl sc__law_label_block.nd (pi_range1 rfl T.n_range (pa_cons pe_int pa_nil)) (blkOk_by (N := N__law_label_block) (sc := defScope s__law_label_block) (by decide +kernel)) (fun _ _ _ _ _ => (pg_name (i := 5) sc__law_label_block.nd rfl (by first | exact Or.inl rfl | exact Or.inr rfl))) (fun _ _ _ _ _ => pts_nil) (fun _ _ _ _ _ => (pe_callTy callIntU (by rfl) T.n_int (by decide +kernel) (pa_cons (pe_cmpR (opInF (K := K)) (pv 5) (pe_ix (ixU (K := K)) (pv 2) pe_int (fun _ _ => rfl)) (by rfl)) pa_nil))))) (pe_lst (pa_cons (pe_callB (callLenU (K := K)) (by rfl) T.n_len (by decide +kernel) (pa_cons (pe_ix (ixU (K := K)) (pv 2) pe_int (fun _ _ => rfl)) pa_nil)) pa_nil))))
      (pss_cons (ps_for PassesOwn.never rfl (pi_tupK (K := K) (pe_ix (ixU (K := K)) (pv 2) pe_int (fun _ _ => rfl))) (pg_name (i := 4) sc__law_label_block.nd rfl (by first | exact Or.inl rfl | exact Or.inr rfl)) (pss_one (ps_set (i := 3) sc__law_label_block.nd rfl (by first | exact Or.inl rfl | exact Or.inr rfl) (pe_op (opAddU (K := K)) (pv 3) (pe_call G__law_low (hr.mono (by decide)) rfl T.g__law_low T.F__law_low.kp T.b__law_low .nil pass0 (pa_cons (pv 4) (pa_cons pe_int pa_nil)))))))
      (pss_one (ps_ret (pe_tup (pa_cons pe_int (pa_cons (pe_ix (ixU (K := K)) (pv 2) pe_int (fun _ _ => rfl)) (pa_cons pe_int (pa_cons (pe_callTy (callTupU (K := K)) (by rfl) T.n_tuple (by decide +kernel) (pa_cons (pe_op (opAddU (K := K)) (pv 3) (pe_op opMultU (pe_lst (pa_cons pe_int pa_nil)) (pe_op opSubU (pe_fldK (K := K) (pv 0) rfl) (pe_callB (callLenU (K := K)) (by rfl) T.n_len (by decide +kernel) (pa_cons (pv 3) pa_nil))))) pa_nil)) pa_nil)))))))))), ?_⟩
    try dsimp only [cxOf]
    have r0 := Same.refl H
    obtain ⟨t, m, b, f, rfl, ht, hm, hb, hfk⟩ := dpLb dv
    fail "go"
    refine ⟨by fail "sz", ?_⟩
    fail "newM"
    rename_i p2 H2 n2 g2 m2 h2 s2
    fail "go"
    refine g_R1W (n := 3) rfl (by decide) ?_
    intro D3 nD3
    refine lc_range (lo := 0) (n := 3) (fun j H' => Same H2 H' ∧ H' D3 = some (.lst (((bits l.mem).take j).map V.int))) ⟨(Gr.newM (M := []) (Same.refl H2) nD3).rh, upd_same⟩ ?_ ?_
    · rintro j HX hj ⟨sX, hX⟩
      refine ⟨rfl, ?_⟩
      have tX := sqT_mono (s2.trans sX) ht
      have mX := sqT_mono (s2.trans sX) hm
      have bl : (bits l.mem).length = 3 := rfl
      fail "go"
      refine g_inF (.inr mX) rfl (flat_ints _) ?_
      rw [inV_ints]
      fail "go"
      refine ⟨_, hX, by rw [List.length_map, List.length_take]; fail "sz", fun b o q => by rw [upd_ne (ne_of_none q nD3)]; exact sX _ _ q, ?_⟩
      rw [upd_same, bits_step' _ hj, List.map_append]; rfl
    rintro H3 ⟨s23, h3⟩
    have s3 := s2.trans s23
    have h3' : H3 D3 = some (.lst ((bits l.mem).map V.int)) := h3
    try dsimp only
    refine g_catI (a := p2) (l := [83, 73, 68, 69, 1, n]) (s23 _ _ h2) h3' (by simp [bits]) ?_
    fail "newM"
    rename_i p4 H4 n4 g4 m4 h4 s4
    clear g4 h3 h3' s23 s3 g2 h2
    fail "go"
    refine g_R1W (n := 3) rfl (by decide) ?_
    intro D5 nD5
    refine lc_range (lo := 0) (n := 3) (fun j H' => Same H4 H' ∧ H' D5 = some (.lst (((bits l.bef).take j).map V.int))) ⟨(Gr.newM (M := []) (Same.refl H4) nD5).rh, upd_same⟩ ?_ ?_
    · rintro j HX hj ⟨sX, hX⟩
      refine ⟨rfl, ?_⟩
      have tX := sqT_mono (s4.trans sX) ht
      have mX := sqT_mono (s4.trans sX) hb
      have bl : (bits l.bef).length = 3 := rfl
      fail "go"
      refine g_inF (.inr mX) rfl (flat_ints _) ?_
      rw [inV_ints]
      fail "go"
      refine ⟨_, hX, by rw [List.length_map, List.length_take]; fail "sz", fun b o q => by rw [upd_ne (ne_of_none q nD5)]; exact sX _ _ q, ?_⟩
      rw [upd_same, bits_step' _ hj, List.map_append]; rfl
    rintro H5 ⟨s45, h5⟩
    have s5 := s4.trans s45
    have h5' : H5 D5 = some (.lst ((bits l.bef).map V.int)) := h5
    try dsimp only
    refine g_catI (a := p4) (s45 _ _ h4) h5' (by simp [bits]) ?_
    fail "newM"
    rename_i p6 H6 n6 g6 m6 h6 s6
    clear g6 h5 h5' s45 s5 h4
    fail "go"
    rw [List.length_map]
    refine ⟨by fail "sz", ?_⟩
    fail "newM"
    rename_i p7 H7 n7 g7 m7 h7 s7
    refine g_catI (m := [(l.forks.length : Int)]) (by fail "hp") h7 (by simp [bits]) ?_
    fail "newM"
    rename_i p8 H8 n8 g8 m8 h8 s8
    clear g7 g8 h6 h7 s6 s7
    fail "go"
    refine g_TsW (by fail "sq") ?_
    have h8' : H8 p8 = some (.lst ((labelHead n l ++ fork3 (l.forks.take 0)).map V.int)) := by rw [h8]; simp [labelHead, fork3]
    refine for_tup (K := K) (xs := l.forks.map V.int) (LlForks H a t n l) ⟨p8, none, none, rfl, s8, m8, h8'⟩ (fun i σ HX _ ⟨_, _, _, _, sX, _⟩ => sqT_mono sX hfk) ?_ ?_
    · clear h8 h8' s8 r0
      rintro i x σ H10 hi ⟨p, x0, x1, rfl, s10, m10, h10⟩
      obtain ⟨o, ho, rfl⟩ := map_get hi
      have hil : i < l.forks.length := (List.getElem?_eq_some_iff.mp ho).1
      have htl : (l.forks.take i).length = i := by rw [List.length_take]; omega
      have fl : (fork3 (l.forks.take i)).length = 3 * i := by rw [fork3_len, htl]
      have oo := hrg o (List.mem_of_getElem? ho)
      fail "go"
      fail "ret"
      rename_i p11 H11 h11 f11 g11 m11 s11
      refine g_catI (a := p) (l := labelHead n l ++ fork3 (l.forks.take i)) (m := lows o 3) (by fail "hp") h11 (by rw [List.length_append, labelHead_len, fl]; simp; omega) ?_
      fail "newM"
      rename_i p12 H12 n12 g12 m12 h12 s12
      fail "go"
      refine ⟨p12, _, _, rfl, s12, m12, ?_⟩
      rw [h12, take_snoc ho, fork3_snoc, List.append_assoc]
    · clear h8 h8' s8 r0
      rintro σ H10 ⟨p, x0, x1, rfl, s10, m10, h10⟩
      rw [List.length_map, List.take_length] at h10
      have o1 := hL.o1
      have fl := labelFront_len n l
      change H10 p = some (.lst ((labelFront n l).map V.int)) at h10
      fail "go"
      refine ⟨by fail "sz", ?_⟩
      fail "newM"
      rename_i p11 H11 n11 g11 m11 h11 s11
      fail "go"
      rw [List.length_map]
      refine g_repZ h11 (by omega) (by omega) ?_
      fail "newM"
      rename_i p12 H12 n12 g12 m12 h12 s12
      refine g_catI (a := p) (l := labelFront n l) (by fail "hp") h12 (by rw [List.length_replicate]; omega) ?_
      fail "newM"
      rename_i p13 H13 n13 g13 m13 h13 s13
      fail "go"
      refine g_tupL (SqL.of h13) ?_
      fail "newM"
      rename_i p14 H14 n14 g14 m14 h14 s14
      fail "go"
      refine ⟨by fail "sz", ?_⟩
      fail "newM"
      rename_i p15 H15 n15 g15 m15 h15 s15
      have h14' : H15 p14 = some (.tup ((labelOcts L n l).map V.int)) := g15.g.hh _ _ (by simp) h14
      exact hq _ _ s15 (.tup (SqT.of h15) (.cons (.int _) (.cons (.int _) (.cons (.int _) (.cons (.tup (SqT.of h14') (dpAll_ints _)) .nil))))) (fun R => .tup (SqT.of (adopt_at m15 h15)) (.cons (.int _) (.cons (.int _) (.cons (.int _) (.cons (.tup (SqT.of (adopt_at m14 h14')) (dpAll_ints _)) .nil)))))
end
def spLabCell (K : PySem.W.Frag) (CL : Addr) : Sp := fun vs H Q _ => ∃ (R : Hp) (a : Addr) (v : V) (L : Lay) (n : Int) (l : Lb) (i : Nat), vs = [.ref a, .int n, v, .int (i : Int)] ∧ Same R H ∧ LayAt CL R a L ∧ L.Ok ∧ 0 ≤ n ∧ n < 3 ∧ Dp K H v l.d ∧ 0 ≤ l.gen ∧ l.forks.length ≤ 16 ∧ (∀ f ∈ l.forks, 0 ≤ f ∧ f < 16777216) ∧
  ∀ p w R' H', Gr [] R H R' H' → H p = none → H' p = some (.lst [.int (L.device + (i : Int)), w]) → Dp K R' w (cellD (sealOf L (L.device + (i : Int)) (some (labelBlk L n l)))) → Q (.ref p) H'
theorem adopt_refl {R H : Hp} (sR : Same R H) : adopt R H H = R := by
  funext b
  unfold adopt
  split
  · rename_i e; rw [e, sR.free e]
  · rfl
section
variable {P : Program} {w : World} {K : PySem.W.Frag} {mg : Str → Option Value} {base : Heap}
theorem ok__law_label_cell (T : Txt P K mg) : FnOk P w K mg base CX0 5 T.f__law_label_cell T.fd__law_label_cell ["layout", "seat", "label", "slot"] (spLabCell K T.C_Layout) := by
  have cl_Layout := T.cl_Layout
  have a_Layout_device_blocks := T.a_Layout_device_blocks
  have G__law_sealed := ok__law_sealed (P := P) (w := w) (base := base) T
  have G__law_label_block := ok__law_label_block (P := P) (w := w) (base := base) T
  refine T.F__law_label_cell.ok sc__law_label_cell (fun vs H Q E h => ?_) (fun cdv A outer s H vs Q E hr h => ?_)
  · obtain ⟨R, a, v, L, n, l, i, rfl, sR, ⟨lx, haf⟩, hL, n0, n3, dv, g0, fl, fr, hq⟩ := h
    rfl
  · obtain ⟨R, a, v, L, n, l, i, rfl, sR, ⟨lx, haf⟩, hL, n0, n3, dv, g0, fl, fr, hq⟩ := h
    refine ⟨_, (pss_cons (ps_set (i := 4) sc__law_label_cell.nd rfl (by first | exact Or.inl rfl | exact Or.inr rfl) (pe_op (opAddU (K := K)) (pe_fldK (K := K) (pv 0) rfl) (pv 3)))
      (pss_one (ps_ret (pe_lst (pa_cons (pv 4) (pa_cons (pe_call G__law_sealed (hr.mono (by decide)) rfl T.g__law_sealed T.F__law_sealed.kp T.b__law_sealed .nil pass0 (pa_cons (pv 0) (pa_cons (pv 4) (pa_cons (pe_call G__law_label_block (hr.mono (by decide)) rfl T.g__law_label_block T.F__law_label_block.kp T.b__law_label_block .nil pass0 (pa_cons (pv 0) (pa_cons (pv 1) (pa_cons (pv 2) pa_nil)))) pa_nil)))) pa_nil)))))), ?_⟩
    try dsimp only [cxOf]
    have haH := sR _ _ haf
    fail "go"
    refine ⟨a, v, L, n, l, rfl, ⟨_, haH⟩, hL, dv, by omega, fr, fun w H1 s1 dw nw => ?_⟩
    have ha1 := s1 _ _ haH
    have oc := octblk_label hL n0 n3 g0 fl (l := l)
    have s01 := sR.trans s1
    have gA : Gr [] R H (adopt R H H1) H1 := adopt_gr sR s1
    have dwR := nw R
    have haR := gA.rr _ _ haf
    have sR1 := gA.rh
    generalize adopt R H H1 = R1 at gA dwR haR sR1
    fail "go"
    refine ⟨R1, a, w, L, _, some (labelBlk L n l), rfl, sR1, ⟨_, haR⟩, hL, dwR, ⟨Int.le_refl 3, oc.len, fun e => absurd rfl e, fun e => absurd rfl e⟩, fun w2 R2 H2 g2 dk => ?_⟩
    have gB := gA.trans g2
    have s02 := gB.rh
    fail "go"
    refine ⟨by fail "sz", fun q nq => ?_⟩
    have g3 : Gr [] R2 H2 R2 _ := Gr.newM (M := []) (o := .lst [.int (L.device + (i : Int)), w2]) s02 nq
    exact hq q _ R2 _ (gB.trans g3) (gB.free nq) upd_same dk
end
def spLWhole (K : PySem.W.Frag) (C : Addr) : Sp := fun vs H Q _ => ∃ (a : Addr) (v : V) (L : Lay) (n : Int) (c : Cell), vs = [.ref a, .int n, v] ∧ LayAt C H a L ∧ L.Ok ∧ Dp K H v (cellD c) ∧ CW L c ∧ ∀ H', Same H H' → Q (.bl (whole L n c)) H'
section
variable {P : Program} {w : World} {K : PySem.W.Frag} {mg : Str → Option Value} {base : Heap}
theorem ok__law_whole (T : Txt P K mg) : FnOk P w K mg base CX0 4 T.f__law_whole T.fd__law_whole ["layout", "address", "cell"] (spLWhole K T.C_Layout) := by
  have G__law_check := ok__law_check (P := P) (w := w) (base := base) T
  refine T.F__law_whole.ok sc__law_whole (fun vs H Q E h => ?_) (fun cdv A outer s H vs Q E hr h => ?_)
  · obtain ⟨a, v, L, n, c, rfl, ha, hL, hv, hc, hq⟩ := h
    rfl
  · obtain ⟨a, v, L, n, c, rfl, ha, hL, hv, hc, hq⟩ := h
    refine ⟨_, (pss_one (ps_ret (pe_and (pe_cmpR opNotU (pv 2) pe_non (nomark _)) (pe_and (pe_cmpR opNotU (pe_ix (ixU (K := K)) (pv 2) pe_int (fun _ _ => rfl)) pe_non (nomark _)) (pe_one (pe_cmpR (opEqU (K := K) hr.units) (pe_ix (ixU (K := K)) (pv 2) pe_int (fun _ _ => rfl)) (pe_call G__law_check (hr.mono (by decide)) rfl T.g__law_check T.F__law_check.kp T.b__law_check .nil pass0 (pa_cons (pv 0) (pa_cons (pv 1) (pa_cons (pe_ix (ixU (K := K)) (pv 2) pe_int (fun _ _ => rfl)) pa_nil)))) (nomark _))))))), ?_⟩
    try dsimp only [cxOf]
    have r0 := Same.refl H
    rcases c with _ | ⟨_ | b, k⟩
    · obtain rfl := dp_non hv
      fail "go"
      exact hq _ r0
    · obtain ⟨t, x, y, rfl, ht, hx, hy⟩ := dpT2 hv
      obtain rfl := dp_non hx
      fail "go"
      exact hq _ r0
    · obtain ⟨t, x, y, rfl, ht, hx, hy⟩ := dpT2 hv
      obtain rfl := dp_int hy
      have hx0 := hx
      obtain ⟨bt, bu, rfl, hbt, hbu⟩ := dpBlk hx
      fail "go"
      refine ⟨a, _, L, n, some b, rfl, ha, hL, hx0, (hc b rfl).x.full, fun H1 s1 => ?_⟩
      fail "go"
      exact hq _ s1
end
def ones3 (a b c : Int) : List Int := (if a = 1 then [0] else []) ++ (if b = 1 then [1] else []) ++ (if c = 1 then [2] else [])
def onesUp (a b c : Int) : Nat → List Int
  | 0 => []
  | 1 => if a = 1 then [0] else []
  | 2 => (if a = 1 then [0] else []) ++ (if b = 1 then [1] else [])
  | _ => ones3 a b c
theorem onesUp_succ {l : List Int} {s j : Nat} (hj : j < 3) : onesUp (l.getD s 0) (l.getD (s + 1) 0) (l.getD (s + 2) 0) (j + 1) = onesUp (l.getD s 0) (l.getD (s + 1) 0) (l.getD (s + 2) 0) j ++ (if l.getD (s + j) 0 = 1 then [(j : Int)] else []) := by
  match j, hj with
  | 0, _ => simp [onesUp]
  | 1, _ => simp [onesUp]
  | 2, _ => simp [onesUp, ones3]
theorem onesUp_len {a b c : Int} {j : Nat} : (onesUp a b c j).length ≤ 3 := by
  match j with
  | 0 => simp [onesUp]
  | 1 => simp only [onesUp]; split <;> simp
  | 2 => simp only [onesUp]; split <;> split <;> simp
  | n + 3 => simp only [onesUp, ones3]; split <;> split <;> split <;> simp
def lawLb (k : Blk) : Lb := ⟨k.seq, ones3 (k.body.getD 6 0) (k.body.getD 7 0) (k.body.getD 8 0), ones3 (k.body.getD 9 0) (k.body.getD 10 0) (k.body.getD 11 0), forksOf k.body⟩
def BitsB (o : List Int) : Prop := ∀ j, j < 6 → o.getD (6 + j) 0 = 0 ∨ o.getD (6 + j) 0 = 1
theorem bits_of_lab {L : Lay} {n : Int} {l : Lb} {k : Blk} (h : labelBlk L n l = k) : BitsB k.body := by
  have hb : ∀ s i, bit s i = 0 ∨ bit s i = 1 := fun s i => by unfold bit; split <;> simp
  intro j hj
  rw [← h]
  match j, hj with
  | 0, _ => exact hb l.mem 0
  | 1, _ => exact hb l.mem 1
  | 2, _ => exact hb l.mem 2
  | 3, _ => exact hb l.bef 0
  | 4, _ => exact hb l.bef 1
  | 5, _ => exact hb l.bef 2
theorem ones_seats {a b c : Int} (ha : a = 0 ∨ a = 1) (hb : b = 0 ∨ b = 1) (hc : c = 0 ∨ c = 1) : ones3 a b c = seats3 a b c := by
  rcases ha with rfl | rfl <;> rcases hb with rfl | rfl <;> rcases hc with rfl | rfl <;> rfl
theorem lawLb_read {k : Blk} (h : BitsB k.body) : lawLb k = readLb k := by
  unfold lawLb readLb memOf befOf
  rw [ones_seats (h 0 (by decide)) (h 1 (by decide)) (h 2 (by decide)), ones_seats (h 3 (by decide)) (h 4 (by decide)) (h 5 (by decide))]
theorem labelOf_law {L : Lay} {n : Int} {k : Blk} (s0 : 0 ≤ k.seq) : labelOf L n (some k) = if k.kind = 3 ∧ 1 ≤ k.seq ∧ k.body.getD 12 0 ≤ 16 ∧ n ∈ (lawLb k).mem ∧ labelBlk L n (lawLb k) = k then some (lawLb k) else none := by
  rw [labelOf]
  by_cases e : labelBlk L n (readLb k) = k
  · have el := lawLb_read (bits_of_lab e)
    rw [el]
    have em : (readLb k).mem = memOf k.body := rfl
    rw [em]
    by_cases c : k.kind = 3 ∧ k.seq ≠ 0 ∧ n ∈ memOf k.body ∧ k.body.getD 12 0 ≤ 16 ∧ labelBlk L n (readLb k) = k
    · rw [if_pos c, if_pos ⟨c.1, by have := c.2.1; omega, c.2.2.2.1, c.2.2.1, e⟩]
    · rw [if_neg c, if_neg (fun z => c ⟨z.1, by have := z.2.1; omega, z.2.2.2.1, z.2.2.1, e⟩)]
  · have e2 : ¬ labelBlk L n (lawLb k) = k := fun z => e (by rw [← lawLb_read (bits_of_lab z)]; exact z)
    rw [if_neg (fun z => e z.2.2.2.2), if_neg (fun z => e2 z.2.2.2.2)]
theorem readC_none {L : Lay} {n : Int} {c : Cell} (h : whole L n c = false) : readC L n c = none := by
  rcases c with _ | ⟨_ | b, k⟩
  · rfl
  · rfl
  · rw [readC]; rw [whole] at h; rw [if_neg (by simpa using h)]
theorem whole_read {L : Lay} {n : Int} {c : Cell} (h : whole L n c = true) : ∃ b, c = some (some b, chk L n (some b)) ∧ readC L n c = some b := by
  rcases c with _ | ⟨_ | b, k⟩
  · simp [whole] at h
  · simp [whole] at h
  · rw [whole, decide_eq_true_eq] at h
    exact ⟨b, by rw [h], by rw [readC, if_pos h]⟩
theorem forkOf3 (o : List Int) (j : Nat) : forkOf o j = o.getD (13 + 3 * j) 0 + 256 * o.getD (13 + 3 * j + 1) 0 + 65536 * o.getD (13 + 3 * j + 2) 0 := by
  unfold forkOf
  rw [show 14 + 3 * j = 13 + 3 * j + 1 by omega, show 15 + 3 * j = 13 + 3 * j + 2 by omega]
  simp only [numOf]; omega
theorem atI_off {l : List Int} {z : Int} {j : Nat} (e : z = (j : Int)) (h : j < l.length) : atI (l.map V.int) z = some (.int (l.getD j 0)) := by rw [e]; exact atI_getD h
theorem inV_onesP {n a b c : Int} : (n ∈ ones3 a b c) ↔ ((n = 0 ∧ a = 1) ∨ (n = 1 ∧ b = 1) ∨ (n = 2 ∧ c = 1)) := by
  unfold ones3
  by_cases ha : a = 1 <;> by_cases hb : b = 1 <;> by_cases hc : c = 1 <;> simp [ha, hb, hc]
def spLabAt (K : PySem.W.Frag) (CL : Addr) : Sp := fun vs H Q _ => ∃ (R : Hp) (a g : Addr) (L : Lay) (n z : Int) (m : Rows) (gs : List Addr) (i : Nat), vs = [.ref a, .int n, .ref g, .int (i : Int)] ∧ Same R H ∧ LayAt CL R a L ∧ L.Ok ∧ 0 ≤ L.device ∧ ModOk K R H g z m gs ∧ RsW L 100 m ∧ 0 ≤ n ∧ n < 3 ∧ i < 2 ∧
  ∀ w H', Same H H' → Dp K H' w (lbD (labelOf L n (readC L (L.device + (i : Int)) (m.seen.getD (L.device.toNat + i) none)))) → Q w H'
section
variable {P : Program} {w : World} {K : PySem.W.Frag} {mg : Str → Option Value} {base : Heap}
theorem ok__law_label_at (T : Txt P K mg) : FnOk P w K mg base CX0 5 T.f__law_label_at T.fd__law_label_at ["layout", "seat", "row", "slot"] (spLabAt K T.C_Layout) := by
  have cl_Layout := T.cl_Layout
  have a_Layout_device_blocks := T.a_Layout_device_blocks
  have G__law_whole := ok__law_whole (P := P) (w := w) (base := base) T
  have G__law_label_block := ok__law_label_block (P := P) (w := w) (base := base) T
  refine T.F__law_label_at.ok sc__law_label_at (fun vs H Q E h => ?_) (fun cdv A outer s H vs Q E hr h => ?_)
  · obtain ⟨R, a, g, L, n, z, m, gs, i, rfl, sR, ⟨lx, haf⟩, hL, dev0, hmo, mw, n0, n3, hi, hq⟩ := h
    rfl
  · obtain ⟨R, a, g, L, n, z, m, gs, i, rfl, sR, ⟨lx, haf⟩, hL, dev0, hmo, mw, n0, n3, hi, hq⟩ := h
    refine ⟨_, (pss_cons (ps_set (i := 4) sc__law_label_at.nd rfl (by first | exact Or.inl rfl | exact Or.inr rfl) (pe_ix (ixU (K := K)) (pe_dget (hu_of hr) (pv 2) pe_str (fun _ _ => rfl)) (pe_op (opAddU (K := K)) (pe_fldK (K := K) (pv 0) rfl) (pv 3)) (fun _ _ => rfl)))
      (pss_cons (ps_if (PW.pt (pw_or (pt_not (pt_truthK (K := K) (pe_call G__law_whole (hr.mono (by decide)) rfl T.g__law_whole T.F__law_whole.kp T.b__law_whole .nil pass0 (pa_cons (pv 0) (pa_cons (pe_op (opAddU (K := K)) (pe_fldK (K := K) (pv 0) rfl) (pv 3)) (pa_cons (pv 4) pa_nil)))) (by intro _; rfl))) (pw_or (pt_cmpR (opNeU (K := K) hr.units) (pe_ix (ixU (K := K)) (pe_ix (ixU (K := K)) (pv 4) pe_int (fun _ _ => rfl)) pe_int (fun _ _ => rfl)) pe_int (nomark _)) (pw_or1 (pt_cmpR op_lt (pe_ix (ixU (K := K)) (pe_ix (ixU (K := K)) (pv 4) pe_int (fun _ _ => rfl)) pe_int (fun _ _ => rfl)) pe_int (nomark _)))))) (pss_one (ps_ret pe_non)) pss_nil)
      (pss_cons (ps_set (i := 5) sc__law_label_at.nd rfl (by first | exact Or.inl rfl | exact Or.inr rfl) (pe_callTy (callListU (K := K)) (by rfl) T.n_list (by decide +kernel) (pa_cons (pe_ix (ixU (K := K)) (pe_ix (ixU (K := K)) (pv 4) pe_int (fun _ _ => rfl)) pe_int (fun _ _ => rfl)) pa_nil)))
      (pss_cons (ps_if (pt_cmpR op_gt (pe_ix (ixU (K := K)) (pv 5) pe_int (fun _ _ => rfl)) pe_int (nomark _)) (pss_one (ps_ret pe_non)) pss_nil)
      (pss_cons (ps_setLc (i := 6) (own := [("k", 10)]) (g := gName 10) (tt := tYes) rfl sc__law_label_at.nd rfl rfl (sw_true rfl rfl rfl (by decide +kernel)) (pi_range1 rfl T.n_range (pa_cons (pe_ix (ixU (K := K)) (pv 5) pe_int (fun _ _ => rfl)) pa_nil)) (blkOk_by (N := N__law_label_at) (sc := defScope s__law_label_at) (by decide +kernel)) (fun _ _ _ _ _ => (pg_name (i := 10) sc__law_label_at.nd rfl (by first | exact Or.inl rfl | exact Or.inr rfl))) (fun _ _ _ _ _ => pts_nil) (fun _ _ _ _ _ => (pe_op (opAddU (K := K)) pe_int (pe_op opMultU pe_int (pv 10)))))
      (pss_cons (ps_set (i := 7) sc__law_label_at.nd rfl (by first | exact Or.inl rfl | exact Or.inr rfl) (pe_callTy (callTupU (K := K)) (by rfl) T.n_tuple (by decide +kernel) (pa_cons (pe_lc (own := [("at", 11)]) (g := gName 11) (tt := tYes) rfl sc__law_label_at.nd (pi_listK (K := K) (pv 6)) (blkOk_by (N := N__law_label_at) (sc := defScope s__law_label_at) (by decide +kernel)) (fun _ _ _ _ _ => (pg_name (i := 11) sc__law_label_at.nd rfl (by first | exact Or.inl rfl | exact Or.inr rfl))) (fun _ _ _ _ _ => pts_nil) (fun _ _ _ _ _ => (pe_op (opAddU (K := K)) (pe_op (opAddU (K := K)) (pe_ix (ixU (K := K)) (pv 5) (pv 11) (fun _ _ => rfl)) (pe_op opMultU pe_int (pe_ix (ixU (K := K)) (pv 5) (pe_op (opAddU (K := K)) (pv 11) pe_int) (fun _ _ => rfl)))) (pe_op opMultU pe_int (pe_ix (ixU (K := K)) (pv 5) (pe_op (opAddU (K := K)) (pv 11) pe_int) (fun _ _ => rfl)))))) pa_nil)))
      (pss_cons (ps_set (i := 8) sc__law_label_at.nd rfl (by first | exact Or.inl rfl | exact Or.inr rfl) (pe_callTy (callTupU (K := K)) (by rfl) T.n_tuple (by decide +kernel) (pa_cons (pe_lc (own := [("other", 12)]) (g := gName 12) (tt := _) rfl sc__law_label_at.nd (pi_range1 rfl T.n_range (pa_cons pe_int pa_nil)) (blkOk_by (N := N__law_label_at) (sc := defScope s__law_label_at) (by decide +kernel)) (fun _ _ _ _ _ => (pg_name (i := 12) sc__law_label_at.nd rfl (by first | exact Or.inl rfl | exact Or.inr rfl))) (fun _ _ _ _ _ => pts_one (pt_cmpR (opEqU (K := K) hr.units) (pe_ix (ixU (K := K)) (pv 5) (pe_op (opAddU (K := K)) pe_int (pv 12)) (fun _ _ => rfl)) pe_int (nomark _))) (fun _ _ _ _ _ => (pv 12))) pa_nil)))
      (pss_cons (ps_set (i := 9) sc__law_label_at.nd rfl (by first | exact Or.inl rfl | exact Or.inr rfl) (pe_tup (pa_cons (pe_ix (ixU (K := K)) (pe_ix (ixU (K := K)) (pv 4) pe_int (fun _ _ => rfl)) pe_int (fun _ _ => rfl)) (pa_cons (pv 8) (pa_cons (pe_callTy (callTupU (K := K)) (by rfl) T.n_tuple (by decide +kernel) (pa_cons (pe_lc (own := [("other", 12)]) (g := gName 12) (tt := _) rfl sc__law_label_at.nd (pi_range1 rfl T.n_range (pa_cons pe_int pa_nil)) (blkOk_by (N := N__law_label_at) (sc := defScope s__law_label_at) (by decide +kernel)) (fun _ _ _ _ _ => (pg_name (i := 12) sc__law_label_at.nd rfl (by first | exact Or.inl rfl | exact Or.inr rfl))) (fun _ _ _ _ _ => pts_one (pt_cmpR (opEqU (K := K) hr.units) (pe_ix (ixU (K := K)) (pv 5) (pe_op (opAddU (K := K)) pe_int (pv 12)) (fun _ _ => rfl)) pe_int (nomark _))) (fun _ _ _ _ _ => (pv 12))) pa_nil)) (pa_cons (pv 7) pa_nil))))))
      (pss_cons (ps_if (pt_cmpR (opNinF (K := K)) (pv 1) (pv 8) (by rfl)) (pss_one (ps_ret pe_non)) pss_nil)
      (pss_one (ps_ret (pe_ix (ixU (K := K)) (pe_lst (pa_cons pe_non (pa_cons (pv 9) pa_nil))) (pe_callTy callIntU (by rfl) T.n_int (by decide +kernel) (pa_cons (pe_cmpR (opEqU (K := K) hr.units) (pe_call G__law_label_block (hr.mono (by decide)) rfl T.g__law_label_block T.F__law_label_block.kp T.b__law_label_block .nil pass0 (pa_cons (pv 0) (pa_cons (pv 1) (pa_cons (pv 9) pa_nil)))) (pe_ix (ixU (K := K)) (pv 4) pe_int (fun _ _ => rfl)) (nomark _)) pa_nil)) (fun _ _ => rfl))))))))))))), ?_⟩
    try dsimp only [cxOf]
    obtain ⟨l1, l2, l3, rfl, hg, nd, non, u1, u2, u3, h1, h2, h3, d1, d2, d3⟩ := hmo
    have haH := sR _ _ haf
    have r0 := Same.refl H
    have o1 := hL.o1
    have ln := mw.ln
    obtain ⟨dn, hdn⟩ : ∃ dn : Nat, L.device = (dn : Int) := ⟨L.device.toNat, by omega⟩
    have edn : L.device.toNat = dn := by omega
    have hlt : dn + i < m.seen.length := by omega
    obtain ⟨c, hc⟩ : ∃ c, m.seen[dn + i]? = some c := ⟨_, List.getElem?_eq_getElem hlt⟩
    obtain ⟨v, hv, dv⟩ := cells_get d2 hc
    have cw := mw.c2 c (List.mem_of_getElem? hc)
    have dvH := dp_mono sR dv
    rw [edn, List.getD_eq_getElem?_getD, hc, Option.getD_some, hdn, show (dn : Int) + (i : Int) = ((dn + i : Nat) : Int) by omega] at hq
    clear d1 d3 h1 h3 dv
    have wn := @readC_none L ((dn + i : Nat) : Int) c
    have wr := @whole_read L ((dn + i : Nat) : Int) c
    fail "go"
    rw [hdn, show (dn : Int) + (i : Int) = ((dn + i : Nat) : Int) by omega]
    refine g_ixL (SqL.of h2) (atI_nat hv) ?_
    fail "go"
    rw [hdn, show (dn : Int) + (i : Int) = ((dn + i : Nat) : Int) by omega]
    refine ⟨a, v, L, _, c, rfl, ⟨_, haH⟩, hL, dvH, cw, fun H1 s1 => ?_⟩
    fail "go"
    refine ⟨_, rfl, ?_⟩
    cases hwh : whole L ((dn + i : Nat) : Int) c with
    | false =>
      fail "go"
      rw [wn hwh] at hq
      exact hq _ _ s1 .non
    | true =>
      obtain ⟨b, rfl, hrd⟩ := wr hwh
      rw [hrd, labelOf_law (cw b rfl).x.s0] at hq
      have hb : BW L b := cw b rfl
      have dv1 := dp_mono s1 dvH
      obtain ⟨t, x, y, rfl, ht, hx, hy⟩ := dpT2 dv1
      have hx0 := hx
      obtain ⟨bt, bu, rfl, hbt, hbu⟩ := dpBlk hx
      have ha1 := s1 _ _ haH
      have blen := hb.x.full.d
      have hfew := hb.few hL
      have rl : Same H1 H1 := Same.refl H1
      clear dvH dv1 haH h2 hg
      fail "go"
      refine g_iteN (fun e => ?_) (fun e3 => ?_)
      · fail "go"
        rw [if_neg (fun z => e z.1)] at hq
        exact hq _ _ s1 .non
      have blen := blen e3
      fail "go"
      refine g_ite (fun e => ?_) (fun es => ?_)
      · fail "go"
        rw [if_neg (fun z => by have := z.2.1; omega)] at hq
        exact hq _ _ s1 .non
      fail "go"
      refine g_listT hbu ?_
      fail "newM"
      rename_i p2 H2 n2 g2 m2 h2 s2
      fail "go"
      refine g_ixL (SqL.of h2) (atI_getD (j := 12) (by omega)) ?_
      fail "go"
      have b12 := getD_rng (hb.oct e3) (i := 12) (by omega)
      refine g_ite (fun e => ?_) (fun e16 => ?_)
      · fail "go"
        rw [if_neg (fun z => by have := z.2.2.1; omega)] at hq
        exact hq _ _ (s1.trans g2.g.same) .non
      have em16 : b.body.getD 12 0 ≤ 16 := by omega
      fail "go"
      refine g_ixL (SqL.of h2) (atI_getD (j := 12) (by omega)) ?_
      have hfk : forksOf b.body = (List.range (b.body.getD 12 0).toNat).map (forkOf b.body) := rfl
      fail "go"
      have H2o : ∀ HX, Same H2 HX → SqL K HX p2 (b.body.map V.int) := fun HX s => SqL.of (s _ _ h2)
      generalize hcc : b.body.getD 12 0 = cc at b12 hfk e16 hq
      refine g_R1W (n := cc.toNat) (by omega) (by omega) ?_
      intro D5 n5
      refine lc_range (lo := 0) (n := cc.toNat) (fun j H' => Same H2 H' ∧ H' D5 = some (.lst ((startsI j).map V.int))) ⟨(Gr.newM (M := []) (Same.refl H2) n5).rh, by rw [upd_same]; rfl⟩ ?_ ?_
      · rintro j H5 hj ⟨s5, h5⟩
        rw [Int.zero_add]
        refine ⟨rfl, ?_⟩
        fail "go"
        refine ⟨_, h5, by rw [List.length_map, startsI_len]; fail "sz", fun b o q => by rw [upd_ne (ne_of_none q n5)]; exact s5 _ _ q, ?_⟩
        rw [upd_same, startsI_succ, List.map_append]; rfl
      rintro H5 ⟨s25, h5⟩
      have s15 : Same H1 H5 := g2.g.same.trans s25
      have hbt5 := sqT_mono s15 hbt
      have ht5 := sqT_mono s15 ht
      have hs5 := H2o _ s25
      clear g2
      fail "go"
      refine g_LsW (SqL.of h5) fun D6 n6 => ?_
      refine lc_list (K := K) (a := D5) (fun j H' => Same H5 H' ∧ H' D6 = some (.lst (((List.range j).map (forkOf b.body)).map V.int))) ⟨(Gr.newM (M := []) (Same.refl H5) n6).rh, upd_same⟩ (fun j H' _ ⟨s, _⟩ => SqL.of (s _ _ h5)) ?_ ?_
      · rintro j x H6 hj ⟨s6, h6⟩
        obtain ⟨st, hst, rfl⟩ := map_get hj
        obtain ⟨hjc, rfl⟩ := startsI_get hst
        have hs6 := sqL_mono s6 hs5
        refine ⟨rfl, ?_⟩
        fail "go"
        refine g_ixL hs6 (atI_off (j := 13 + 3 * j) (by omega) (by omega)) ?_
        fail "go"
        refine g_ixL hs6 (atI_off (j := 13 + 3 * j + 1) (by omega) (by omega)) ?_
        fail "go"
        refine g_ixL hs6 (atI_off (j := 13 + 3 * j + 2) (by omega) (by omega)) ?_
        fail "go"
        refine ⟨_, h6, by rw [List.length_map, List.length_map, List.length_range]; fail "sz", fun b o q => by rw [upd_ne (ne_of_none q n6)]; exact s6 _ _ q, ?_⟩
        rw [upd_same, List.range_succ, List.map_append, List.map_append, List.map_singleton, List.map_singleton, forkOf3]
      rintro H6 ⟨s56, h6⟩
      rw [List.length_map, startsI_len, ← hfk] at h6
      have fl : (forksOf b.body).length ≤ 16 := by rw [hfk, List.length_map, List.length_range]; omega
      fail "go"
      refine g_tupL (SqL.of h6) ?_
      have s26 := s25.trans s56
      have sr6 : Same H1 H6 := s15.trans s56
      fail "newM"
      rename_i p7 H7 n7 g7 m7 h7 s7
      have hs7 := H2o _ (s26.trans g7.g.same)
      clear h5 s56 h6 s26 sr6 s15 hs5 hbt5 ht5 s25 s2 h2
      fail "go"
      refine g_R1W (n := 3) rfl (by decide) ?_
      intro D8 nD8
      refine lc_range (lo := 0) (n := 3) (fun j H' => Same H7 H' ∧ H' D8 = some (.lst ((onesUp (b.body.getD 6 0) (b.body.getD (6 + 1) 0) (b.body.getD (6 + 2) 0) j).map V.int))) ⟨(Gr.newM (M := []) (Same.refl H7) nD8).rh, upd_same⟩ ?_ ?_
      · rintro j H8 hj ⟨s8, h8⟩
        rw [Int.zero_add]
        refine ⟨rfl, ?_⟩
        have hl := onesUp_len (a := b.body.getD 6 0) (b := b.body.getD (6 + 1) 0) (c := b.body.getD (6 + 2) 0) (j := j)
        fail "go"
        refine g_ixL (sqL_mono s8 hs7) (atI_off (j := 6 + j) (by omega) (by omega)) ?_
        fail "go"
        refine g_ite (fun e => ?_) (fun e => ?_)
        · fail "go"
          refine ⟨_, h8, by rw [List.length_map]; fail "sz", fun b o q => by rw [upd_ne (ne_of_none q nD8)]; exact s8 _ _ q, ?_⟩
          rw [upd_same, onesUp_succ hj, if_pos e, List.map_append]; rfl
        · refine ⟨s8, ?_⟩
          rw [h8, onesUp_succ hj, if_neg e, List.append_nil]
      rintro H8 ⟨s78, h8⟩
      have h8' : H8 D8 = some (.lst ((lawLb b).mem.map V.int)) := h8
      have s8 := s7.trans s78
      have h78 := s78 _ _ h7
      have hs8 := sqL_mono s78 hs7
      clear h8 h7 s78 hs7 g7
      fail "go"
      refine g_tupL (SqL.of h8') ?_
      fail "newM"
      rename_i p9 H9 n9 g9 m9 h9 s9
      have h79 := g9.g.same _ _ h78
      have ht9 := sqT_mono s9 ht
      have hbt9 := sqT_mono s9 hbt
      have hs9 := sqL_mono g9.g.same hs8
      clear g9 h78 hs8 h8' s8
      fail "go"
      refine g_R1W (n := 3) rfl (by decide) ?_
      intro DA nDA
      refine lc_range (lo := 0) (n := 3) (fun j H' => Same H9 H' ∧ H' DA = some (.lst ((onesUp (b.body.getD 9 0) (b.body.getD (9 + 1) 0) (b.body.getD (9 + 2) 0) j).map V.int))) ⟨(Gr.newM (M := []) (Same.refl H9) nDA).rh, upd_same⟩ ?_ ?_
      · rintro j HA hj ⟨sA, hA⟩
        rw [Int.zero_add]
        refine ⟨rfl, ?_⟩
        have hl := onesUp_len (a := b.body.getD 9 0) (b := b.body.getD (9 + 1) 0) (c := b.body.getD (9 + 2) 0) (j := j)
        fail "go"
        refine g_ixL (sqL_mono sA hs9) (atI_off (j := 9 + j) (by omega) (by omega)) ?_
        fail "go"
        refine g_ite (fun e => ?_) (fun e => ?_)
        · fail "go"
          refine ⟨_, hA, by rw [List.length_map]; fail "sz", fun b o q => by rw [upd_ne (ne_of_none q nDA)]; exact sA _ _ q, ?_⟩
          rw [upd_same, onesUp_succ hj, if_pos e, List.map_append]; rfl
        · refine ⟨sA, ?_⟩
          rw [hA, onesUp_succ hj, if_neg e, List.append_nil]
      rintro HA ⟨s9A, hA⟩
      have hA' : HA DA = some (.lst ((lawLb b).bef.map V.int)) := hA
      have sA := s9.trans s9A
      have h7A := s9A _ _ h79
      have h9A := s9A _ _ h9
      clear hA h79 h9 s9A hs9 ht9 hbt9
      fail "go"
      refine g_tupL (SqL.of hA') ?_
      fail "newM"
      rename_i pB HB nB gB mB hB sB
      have h7B := gB.g.same _ _ h7A
      have h9B := gB.g.same _ _ h9A
      clear gB h7A h9A hA' sA
      fail "go"
      refine ⟨by fail "sz", ?_⟩
      fail "newM"
      rename_i pC HC nC gC mC hC sC
      have h7C := gC.g.same _ _ h7B
      have h9C := gC.g.same _ _ h9B
      have hBC := gC.g.same _ _ hB
      have ml : Dp K HC (.ref pC) (lawLb b).d := mkLb (SqT.of hC) (SqT.of h9C) (SqT.of hBC) (SqT.of h7C)
      have haC := sC _ _ ha1
      clear gC h7B h9B hB sB h7C
      fail "go"
      refine g_ninF (xs := (lawLb b).mem.map V.int) (.inr (SqT.of h9C)) rfl (flat_ints _) ?_
      rw [inV_ints]
      fail "go"
      refine g_iteN (fun e => ?_) (fun em => ?_)
      · fail "go"
        rw [if_neg (fun z => e z.2.2.2.1)] at hq
        exact hq _ _ (s1.trans sC) .non
      fail "go"
      refine ⟨by fail "sz", ?_⟩
      fail "newM"
      rename_i pE HE nE gE mE hE sE
      have hx0C := dp_mono sE hx0
      have htC := sqT_mono sE ht
      have haE := sE _ _ ha1
      have mlE := dp_mono gE.g.same ml
      clear gE hBC h9C hC haC ml sC
      fail "go"
      refine ⟨a, _, L, n, lawLb b, rfl, ⟨_, haE⟩, hL, mlE, by show (forksOf b.body).length ≤ 300; omega, ?_, ?_⟩
      · intro f hf
        have hf : f ∈ forksOf b.body := hf
        rw [hfk] at hf
        obtain ⟨j, hj, rfl⟩ := List.mem_map.mp hf
        rw [List.mem_range] at hj
        have q0 := getD_rng (hb.oct e3) (i := 13 + 3 * j) (by omega)
        have q1 := getD_rng (hb.oct e3) (i := 13 + 3 * j + 1) (by omega)
        have q2 := getD_rng (hb.oct e3) (i := 13 + 3 * j + 2) (by omega)
        rw [forkOf3]
        omega
      intro w9 HD sD dw _
      have dw' := dw
      obtain ⟨t9, u9, rfl, _, _⟩ := dpBlk dw'
      have hx0D := dp_mono sD hx0C
      have htD := sqT_mono sD htC
      have mlD := dp_mono sD mlE
      have hED := sD _ _ hE
      have s1D := (s1.trans sE).trans sD
      clear mlE hx0C htC haE sE sD ht hbt hbu ha1 hx0 hE
      fail "go"
      refine g_eqDa (e := b.d) dw hx0D (la_shaped (la_blk _)) (la_shaped (la_blk b)) (.inl ⟨_, rfl⟩) ?_
      rw [eqv_blk]
      fail "go"
      by_cases e : labelBlk L n (lawLb b) = b
      · rw [if_pos (decide_eq_true e)]
        rw [if_pos ⟨e3, by omega, by omega, em, e⟩] at hq
        refine g_ixL (SqL.of hED) (show atI _ 1 = some _ from rfl) ?_
        fail "go"
        exact hq _ _ s1D mlD
      · rw [if_neg (by simp [e])]
        rw [if_neg (fun z => e z.2.2.2.2)] at hq
        refine g_ixL (SqL.of hED) (show atI _ 0 = some _ from rfl) ?_
        fail "go"
        exact hq _ _ s1D .non
end
def ahead : Option Lb → Option Lb → Bool
  | none, _ => false
  | some _, none => true
  | some a, some b => decide (b.gen < a.gen) || (decide (a.gen = b.gen) && decide (a.mem.length < b.mem.length))
def spAhead (K : PySem.W.Frag) : Sp := fun vs H Q _ => ∃ (v w : V) (x y : Option Lb), vs = [v, w] ∧ Dp K H v (lbD x) ∧ Dp K H w (lbD y) ∧ Q (.bl (ahead x y)) H
section
variable {P : Program} {w : World} {K : PySem.W.Frag} {mg : Str → Option Value} {base : Heap}
theorem ok__law_ahead (T : Txt P K mg) : FnOk P w K mg base CX0 1 T.f__law_ahead T.fd__law_ahead ["one", "two"] (spAhead K) := by
  refine T.F__law_ahead.ok sc__law_ahead (fun vs H Q E h => ?_) (fun cdv A outer s H vs Q E hr h => ?_)
  · obtain ⟨v, w, x, y, rfl, hv, hw, hq⟩ := h
    rfl
  · obtain ⟨v, w, x, y, rfl, hv, hw, hq⟩ := h
    refine ⟨_, (pss_cons (ps_if (PW.pt (pw_or (pt_cmpR opIsU (pv 0) pe_non (nomark _)) (pw_or1 (pt_cmpR opIsU (pv 1) pe_non (nomark _))))) (pss_one (ps_ret (pe_cmpR opNotU (pv 0) pe_non (nomark _)))) pss_nil)
      (pss_one (ps_ret (pe_or (pe_cmpR op_gt (pe_ix (ixU (K := K)) (pv 0) pe_int (fun _ _ => rfl)) (pe_ix (ixU (K := K)) (pv 1) pe_int (fun _ _ => rfl)) (nomark _)) (pe_one (pe_and (pe_cmpR (opEqU (K := K) hr.units) (pe_ix (ixU (K := K)) (pv 0) pe_int (fun _ _ => rfl)) (pe_ix (ixU (K := K)) (pv 1) pe_int (fun _ _ => rfl)) (nomark _)) (pe_one (pe_cmpR op_lt (pe_callB (callLenU (K := K)) (by rfl) T.n_len (by decide +kernel) (pa_cons (pe_ix (ixU (K := K)) (pv 0) pe_int (fun _ _ => rfl)) pa_nil)) (pe_callB (callLenU (K := K)) (by rfl) T.n_len (by decide +kernel) (pa_cons (pe_ix (ixU (K := K)) (pv 1) pe_int (fun _ _ => rfl)) pa_nil)) (nomark _))))))))), ?_⟩
    try dsimp only [cxOf]
    have r0 := Same.refl H
    rcases x with _ | a
    · obtain rfl := dp_non hv
      fail "go"
      exact hq
    obtain ⟨t, m, b, f, rfl, ht, hm, hb, hf⟩ := dpLb hv
    rcases y with _ | c
    · obtain rfl := dp_non hw
      fail "go"
      exact hq
    obtain ⟨t2, m2, b2, f2, rfl, ht2, hm2, hb2, hf2⟩ := dpLb hw
    fail "go"
    refine g_ite (fun e => ?_) (fun e => ?_)
    · have : ahead (some a) (some c) = true := by simp [ahead, e]
      rw [this] at hq; exact hq
    fail "go"
    refine g_ite (fun e2 => ?_) (fun e2 => ?_)
    · fail "go"
      have : ahead (some a) (some c) = decide ((List.map V.int a.mem).length < (List.map V.int c.mem).length) := by simp [ahead, e, e2]
      rw [this] at hq
      simpa using hq
    · have : ahead (some a) (some c) = false := by simp [ahead, e, e2]
      rw [this] at hq; exact hq
end
def labAt (L : Lay) (n : Int) (m : Rows) (i : Nat) : Option Lb := labelOf L n (readC L (L.device + (i : Int)) (m.seen.getD (L.device.toNat + i) none))
theorem labs_eq (L : Lay) (n : Int) (m : Rows) : labsOf L n m = [labAt L n m 0, labAt L n m 1] := by
  unfold labsOf labAt
  simp
theorem ahead_new {s f : Option Lb} : newestOf [f, s] = if ahead s f = true then s else f := by
  show pickLb (pickLb none f) s = _
  have e : pickLb none f = f := by cases f <;> rfl
  rw [e]
  cases s with
  | none => simp [pickLb, ahead]
  | some a =>
    cases f with
    | none => simp [pickLb, newer, ahead]
    | some c =>
      simp only [pickLb]
      have : newer a (some c) = ahead (some a) (some c) := by
        show (if a.gen = c.gen then decide (a.mem.length < c.mem.length) else decide (a.gen > c.gen)) = (decide (c.gen < a.gen) || (decide (a.gen = c.gen) && decide (a.mem.length < c.mem.length)))
        by_cases e : a.gen = c.gen
        · simp [e]
        · simp [e]
      rw [this]
theorem ahead_irr (a : Option Lb) : ahead a a = false := by
  cases a with
  | none => rfl
  | some a => simp [ahead]
theorem slot_eq (L : Lay) (n : Int) (m : Rows) : slotOf L n m = if (decide (labAt L n m 0 ≠ none) && !ahead (labAt L n m 1) (labAt L n m 0)) = true then 1 else 0 := by
  unfold slotOf labOf
  rw [labs_eq, ahead_new]
  show (if labAt L n m 0 ≠ none ∧ labAt L n m 0 = _ then 1 else 0) = _
  cases h : ahead (labAt L n m 1) (labAt L n m 0)
  · simp
  · have : labAt L n m 0 ≠ labAt L n m 1 := fun e => by rw [e, ahead_irr] at h; cases h
    simp [this]
theorem bool_at {v w : V} (c : Bool) : atI [v, w] (if c = true then 1 else 0) = some (if c = true then w else v) := by cases c <;> rfl
def spSlot (K : PySem.W.Frag) (CL : Addr) : Sp := fun vs H Q _ => ∃ (R : Hp) (a g : Addr) (L : Lay) (n z : Int) (m : Rows) (gs : List Addr), vs = [.ref a, .int n, .ref g] ∧ Same R H ∧ LayAt CL R a L ∧ L.Ok ∧ 0 ≤ L.device ∧ ModOk K R H g z m gs ∧ RsW L 100 m ∧ 0 ≤ n ∧ n < 3 ∧
  ∀ H', Same H H' → Q (.int ((slotOf L n m : Nat) : Int)) H'
section
variable {P : Program} {w : World} {K : PySem.W.Frag} {mg : Str → Option Value} {base : Heap}
theorem ok__law_slot (T : Txt P K mg) : FnOk P w K mg base CX0 6 T.f__law_slot T.fd__law_slot ["layout", "seat", "row"] (spSlot K T.C_Layout) := by
  have G__law_label_at := ok__law_label_at (P := P) (w := w) (base := base) T
  have G__law_ahead := ok__law_ahead (P := P) (w := w) (base := base) T
  refine T.F__law_slot.ok sc__law_slot (fun vs H Q E h => ?_) (fun cdv A outer s H vs Q E hr h => ?_)
  · obtain ⟨R, a, g, L, n, z, m, gs, rfl, sR, ha, hL, dev0, hmo, mw, n0, n3, hq⟩ := h
    rfl
  · obtain ⟨R, a, g, L, n, z, m, gs, rfl, sR, ha, hL, dev0, hmo, mw, n0, n3, hq⟩ := h
    refine ⟨_, (pss_cons (ps_set (i := 3) sc__law_slot.nd rfl (by first | exact Or.inl rfl | exact Or.inr rfl) (pe_call G__law_label_at (hr.mono (by decide)) rfl T.g__law_label_at T.F__law_label_at.kp T.b__law_label_at .nil pass0 (pa_cons (pv 0) (pa_cons (pv 1) (pa_cons (pv 2) (pa_cons pe_int pa_nil))))))
      (pss_one (ps_ret (pe_callTy callIntU (by rfl) T.n_int (by decide +kernel) (pa_cons (pe_and (pe_cmpR opNotU (pv 3) pe_non (nomark _)) (pe_one (pe_not (pe_call G__law_ahead (hr.mono (by decide)) rfl T.g__law_ahead T.F__law_ahead.kp T.b__law_ahead .nil pass0 (pa_cons (pe_call G__law_label_at (hr.mono (by decide)) rfl T.g__law_label_at T.F__law_label_at.kp T.b__law_label_at .nil pass0 (pa_cons (pv 0) (pa_cons (pv 1) (pa_cons (pv 2) (pa_cons pe_int pa_nil))))) (pa_cons (pv 3) pa_nil)))))) pa_nil))))), ?_⟩
    try dsimp only [cxOf]
    fail "go"
    refine ⟨R, a, g, L, n, z, m, gs, 0, rfl, sR, ha, hL, dev0, hmo, mw, n0, n3, by decide, fun v1 H1 s1 dv1 => ?_⟩
    have hmo1 := hmo.frame (Mu.ofSame sR s1).g (fun _ _ => List.not_mem_nil)
    fail "go"
    have sl := slot_eq L n m
    have dv1 : Dp K H1 v1 (lbD (labAt L n m 0)) := dv1
    generalize labAt L n m 0 = x at dv1 sl
    rcases lbV dv1 with ⟨rfl, rfl⟩ | ⟨c, t, rfl, rfl⟩
    · fail "go"
      have : slotOf L n m = 0 := by rw [sl]; rfl
      rw [this] at hq
      exact hq _ s1
    · fail "go"
      refine ⟨R, a, g, L, n, z, m, gs, 1, rfl, sR.trans s1, ha, hL, dev0, hmo1, mw, n0, n3, by decide, fun v2 H2 s2 dv2 => ?_⟩
      fail "go"
      refine ⟨v2, _, labAt L n m 1, _, rfl, dv2, dp_mono s2 dv1, ?_⟩
      fail "go"
      have := hq _ (s1.trans s2)
      rw [sl] at this
      cases ea : ahead (labAt L n m 1) (some c) <;> simpa [ea] using this
end
theorem pickF {K : PySem.W.Frag} {R : Hp} {e0 e1 e2 e3 : Addr} {j : Int} (h : 0 ≤ j ∧ j < 4) (h0 : SqT K R e0 []) (h1 : SqT K R e1 [.int 70000]) (h2 : SqT K R e2 [.int 2, .int 1]) (h3 : SqT K R e3 ((List.replicate 16 (1 : Int)).map V.int)) :
    ∃ f fs, atI [V.ref e0, .ref e1, .ref e2, .ref e3] j = some (.ref f) ∧ SqT K R f ((fs : List Int).map V.int) ∧ fs.length ≤ 16 ∧ ∀ x ∈ fs, 0 ≤ x ∧ x < 16777216 := by
  obtain ⟨i, rfl⟩ := Int.eq_ofNat_of_zero_le h.1
  match i, h with
  | 0, _ => exact ⟨e0, [], rfl, h0, by decide, by decide⟩
  | 1, _ => exact ⟨e1, [70000], rfl, h1, by decide, by decide⟩
  | 2, _ => exact ⟨e2, [2, 1], rfl, h2, by decide, by decide⟩
  | 3, _ => exact ⟨e3, List.replicate 16 1, rfl, h3, by decide, fun x hx => by rw [List.eq_of_mem_replicate hx]; decide⟩
  | n + 4, h => omega
def spDeed (K : PySem.W.Frag) (CL CS CD : Addr) : Sp := fun vs H Q _ => ∃ (R : Hp) (s g a b : Addr) (L : Lay) (z : Int) (m : Rows) (ms gs : List Addr) (n : Int) (k : Nat), vs = [.ref a, .ref s, .ref g, .ref b] ∧ Same R H ∧ LayAt CL R a L ∧ L ∈ lays ∧ (0 < L.device ∧ L.device < 120) ∧ SideOk K CS CD R H s a z m ms ∧ ModOk K R H g z m gs ∧ RsW L k m ∧ k ≤ 90 ∧ R b = none ∧ H b = some (.lst [.int n]) ∧ b ∉ ms ∧ b ∉ gs ∧ Dj ms gs ∧ 0 ≤ z ∧ z < 3 ∧
  ∀ R' H' m' ms' gs', Gr (b :: (ms ++ gs)) R H R' H' → SideOk K CS CD R' H' s a z m' ms' → ModOk K R' H' g z m' gs' → RsW L (k + 1) m' → Nw H ms ms' → Nw H gs gs' → Dj ms' gs' → Q (.bl true) H'
local macro_rules | `(tactic| fail "calls") => `(tactic| ((with_reducible show spTake _ _ _ _); refine ⟨_, _, _, rfl, by fail "hp", by fail "ar", by fail "ar", ?_⟩; fail "mut"))
section
variable {P : Program} {w : World} {K : PySem.W.Frag} {mg : Str → Option Value} {base : Heap}
theorem ok__law_deed (T : Txt P K mg) : FnOk P w K mg base CX0 10 T.f__law_deed T.fd__law_deed ["layout", "side", "model", "box"] (spDeed K T.C_Layout T.C_Side T.C_Device) := by
  have cl_Layout := T.cl_Layout
  have a_Layout_device_blocks := T.a_Layout_device_blocks
  have a_Layout_block_size := T.a_Layout_block_size
  have G__law_take := ok__law_take (P := P) (w := w) (base := base) T
  have G__law_block := ok__law_block (P := P) (w := w) (base := base) T
  have G_Side_write := ok_Side_write (P := P) (w := w) (base := base) T
  have G__law_put := ok__law_put (P := P) (w := w) (base := base) T
  have G__law_sealed := ok__law_sealed (P := P) (w := w) (base := base) T
  have G_Side_barrier := ok_Side_barrier (P := P) (w := w) (base := base) T
  have G__law_bar := ok__law_bar (P := P) (w := w) (base := base) T
  have G_Side_rot := ok_Side_rot (P := P) (w := w) (base := base) T
  have G__law_rots := ok__law_rots (P := P) (w := w) (base := base) T
  have G_Side_write_label := ok_Side_write_label (P := P) (w := w) (base := base) T
  have G__law_label_cell := ok__law_label_cell (P := P) (w := w) (base := base) T
  have G__law_slot := ok__law_slot (P := P) (w := w) (base := base) T
  refine T.F__law_deed.ok sc__law_deed (fun vs H Q E h => ?_) (fun cdv A outer s H vs Q E hr h => ?_)
  · obtain ⟨R, s, g, a, b, L, z, m, ms, gs, n, k, rfl, sR, ⟨lx, haf⟩, hL, hdev, hso, hmo, mw, k90, Rb, hb, bms, bgs, dj, z0, z3, hq⟩ := h
    rfl
  · obtain ⟨R, s, g, a, b, L, z, m, ms, gs, n, k, rfl, sR, ⟨lx, haf⟩, hL, hdev, hso, hmo, mw, k90, Rb, hb, bms, bgs, dj, z0, z3, hq⟩ := h
    refine ⟨_, (pss_cons (ps_set (i := 4) sc__law_deed.nd rfl (by first | exact Or.inl rfl | exact Or.inr rfl) (pe_call G__law_take (hr.mono (by decide)) rfl T.g__law_take T.F__law_take.kp T.b__law_take .nil pass0 (pa_cons (pv 3) (pa_cons pe_int pa_nil))))
      (pss_cons (ps_set (i := 5) sc__law_deed.nd rfl (by first | exact Or.inl rfl | exact Or.inr rfl) (pe_ix (ixU (K := K)) (pe_lst (pa_cons (pe_call G__law_take (hr.mono (by decide)) rfl T.g__law_take T.F__law_take.kp T.b__law_take .nil pass0 (pa_cons (pv 3) (pa_cons (pe_op (opAddU (K := K)) (pe_fldK (K := K) (pv 0) rfl) pe_int) pa_nil))) (pa_cons (pe_call G__law_take (hr.mono (by decide)) rfl T.g__law_take T.F__law_take.kp T.b__law_take .nil pass0 (pa_cons (pv 3) (pa_cons pe_int pa_nil))) (pa_cons (pe_op (opAddU (K := K)) (pe_fldK (K := K) (pv 0) rfl) (pe_call G__law_take (hr.mono (by decide)) rfl T.g__law_take T.F__law_take.kp T.b__law_take .nil pass0 (pa_cons (pv 3) (pa_cons pe_int pa_nil)))) pa_nil)))) (pe_call G__law_take (hr.mono (by decide)) rfl T.g__law_take T.F__law_take.kp T.b__law_take .nil pass0 (pa_cons (pv 3) (pa_cons pe_int pa_nil))) (fun _ _ => rfl)))
      (pss_cons (ps_if (pt_cmpR op_lt (pv 4) pe_int (nomark _)) (pss_cons (ps_set (i := 6) sc__law_deed.nd rfl (by first | exact Or.inl rfl | exact Or.inr rfl) (pe_call G__law_block (hr.mono (by decide)) rfl T.g__law_block T.F__law_block.kp T.b__law_block .nil pass0 (pa_cons (pv 0) (pa_cons (pv 3) pa_nil))))
      (pss_cons (ps_if (pt_cmpR (opEqU (K := K) hr.units) (pe_call G__law_take (hr.mono (by decide)) rfl T.g__law_take T.F__law_take.kp T.b__law_take .nil pass0 (pa_cons (pv 3) (pa_cons pe_int pa_nil))) pe_int (nomark _)) (pss_one (ps_set (i := 6) sc__law_deed.nd rfl (by first | exact Or.inl rfl | exact Or.inr rfl) pe_non)) pss_nil)
      (pss_cons (ps_expr (pe_meth (pv 1) T.cl_Side T.m_Side_write G_Side_write (hr.mono (by decide)) T.b_Side_write .nil pass0 (pa_cons (pv 5) (pa_cons (pv 6) pa_nil))))
      (pss_one (ps_expr (pe_call G__law_put (hr.mono (by decide)) rfl T.g__law_put T.F__law_put.kp T.b__law_put .nil pass0 (pa_cons (pv 2) (pa_cons (pv 5) (pa_cons (pe_call G__law_sealed (hr.mono (by decide)) rfl T.g__law_sealed T.F__law_sealed.kp T.b__law_sealed .nil pass0 (pa_cons (pv 0) (pa_cons (pv 5) (pa_cons (pv 6) pa_nil)))) pa_nil))))))))) (pss_one (ps_if (pt_cmpR (opEqU (K := K) hr.units) (pv 4) pe_int (nomark _)) (pss_cons (ps_expr (pe_meth0 (pv 1) T.cl_Side T.m_Side_barrier G_Side_barrier (hr.mono (by decide)) T.b_Side_barrier .nil pass0))
      (pss_one (ps_expr (pe_call G__law_bar (hr.mono (by decide)) rfl T.g__law_bar T.F__law_bar.kp T.b__law_bar .nil pass0 (pa_cons (pv 2) pa_nil))))) (pss_one (ps_if (pt_cmpR op_lt (pv 4) pe_int (nomark _)) (pss_cons (ps_set (i := 7) sc__law_deed.nd rfl (by first | exact Or.inl rfl | exact Or.inr rfl) (pe_ix (ixU (K := K)) (pe_lst (pa_cons (pe_call G__law_take (hr.mono (by decide)) rfl T.g__law_take T.F__law_take.kp T.b__law_take .nil pass0 (pa_cons (pv 3) (pa_cons (pe_op (opAddU (K := K)) pe_int (pe_fldK (K := K) (pv 0) rfl)) pa_nil))) (pa_cons (pe_call G__law_take (hr.mono (by decide)) rfl T.g__law_take T.F__law_take.kp T.b__law_take .nil pass0 (pa_cons (pv 3) (pa_cons pe_int pa_nil))) pa_nil))) (pe_call G__law_take (hr.mono (by decide)) rfl T.g__law_take T.F__law_take.kp T.b__law_take .nil pass0 (pa_cons (pv 3) (pa_cons pe_int pa_nil))) (fun _ _ => rfl)))
      (pss_cons (ps_set (i := 8) sc__law_deed.nd rfl (by first | exact Or.inl rfl | exact Or.inr rfl) (pe_ix (ixU (K := K)) (pe_lst (pa_cons (pe_call G__law_take (hr.mono (by decide)) rfl T.g__law_take T.F__law_take.kp T.b__law_take .nil pass0 (pa_cons (pv 3) (pa_cons pe_int pa_nil))) (pa_cons (pe_call G__law_take (hr.mono (by decide)) rfl T.g__law_take T.F__law_take.kp T.b__law_take .nil pass0 (pa_cons (pv 3) (pa_cons pe_int pa_nil))) pa_nil))) (pe_call G__law_take (hr.mono (by decide)) rfl T.g__law_take T.F__law_take.kp T.b__law_take .nil pass0 (pa_cons (pv 3) (pa_cons pe_int pa_nil))) (fun _ _ => rfl)))
      (pss_cons (ps_expr (pe_meth (pv 1) T.cl_Side T.m_Side_rot G_Side_rot (hr.mono (by decide)) T.b_Side_rot .nil pass0 (pa_cons (pv 5) (pa_cons (pv 7) (pa_cons (pv 8) pa_nil)))))
      (pss_one (ps_expr (pe_call G__law_rots (hr.mono (by decide)) rfl T.g__law_rots T.F__law_rots.kp T.b__law_rots .nil pass0 (pa_cons (pv 0) (pa_cons (pv 2) (pa_cons (pv 5) (pa_cons (pv 7) (pa_cons (pv 8) pa_nil))))))))))) (pss_cons (ps_set (i := 9) sc__law_deed.nd rfl (by first | exact Or.inl rfl | exact Or.inr rfl) (pe_callTy (callTupU (K := K)) (by rfl) T.n_tuple (by decide +kernel) (pa_cons (pe_lc (own := [("seat", 13)]) (g := gName 13) (tt := _) rfl sc__law_deed.nd (pi_range1 rfl T.n_range (pa_cons pe_int pa_nil)) (blkOk_by (N := N__law_deed) (sc := defScope s__law_deed) (by decide +kernel)) (fun _ _ _ _ _ => (pg_name (i := 13) sc__law_deed.nd rfl (by first | exact Or.inl rfl | exact Or.inr rfl))) (fun _ _ _ _ _ => pts_one (PW.pt (pw_or (pt_cmpR (opEqU (K := K) hr.units) (pv 13) (pe_dget (hu_of hr) (pv 2) pe_str (fun _ _ => rfl)) (nomark _)) (pw_or1 (pt_cmpR (opEqU (K := K) hr.units) (pe_call G__law_take (hr.mono (by decide)) rfl T.g__law_take T.F__law_take.kp T.b__law_take .nil pass0 (pa_cons (pv 3) (pa_cons pe_int pa_nil))) pe_int (nomark _)))))) (fun _ _ _ _ _ => (pv 13))) pa_nil)))
      (pss_cons (ps_set (i := 10) sc__law_deed.nd rfl (by first | exact Or.inl rfl | exact Or.inr rfl) (pe_callTy (callTupU (K := K)) (by rfl) T.n_tuple (by decide +kernel) (pa_cons (pe_lc (own := [("seat", 13)]) (g := gName 13) (tt := _) rfl sc__law_deed.nd (pi_range1 rfl T.n_range (pa_cons pe_int pa_nil)) (blkOk_by (N := N__law_deed) (sc := defScope s__law_deed) (by decide +kernel)) (fun _ _ _ _ _ => (pg_name (i := 13) sc__law_deed.nd rfl (by first | exact Or.inl rfl | exact Or.inr rfl))) (fun _ _ _ _ _ => pts_one (pt_cmpR (opEqU (K := K) hr.units) (pe_call G__law_take (hr.mono (by decide)) rfl T.g__law_take T.F__law_take.kp T.b__law_take .nil pass0 (pa_cons (pv 3) (pa_cons pe_int pa_nil))) pe_int (nomark _))) (fun _ _ _ _ _ => (pv 13))) pa_nil)))
      (pss_cons (ps_set (i := 11) sc__law_deed.nd rfl (by first | exact Or.inl rfl | exact Or.inr rfl) (pe_tup (pa_cons (pe_op (opAddU (K := K)) pe_int (pe_call G__law_take (hr.mono (by decide)) rfl T.g__law_take T.F__law_take.kp T.b__law_take .nil pass0 (pa_cons (pv 3) (pa_cons pe_int pa_nil)))) (pa_cons (pv 9) (pa_cons (pv 10) (pa_cons (pe_ix (ixU (K := K)) (pe_lst (pa_cons (pe_tup pa_nil) (pa_cons (pe_tup (pa_cons pe_int pa_nil)) (pa_cons (pe_tup (pa_cons pe_int (pa_cons pe_int pa_nil))) (pa_cons (pe_op (opRepTK (K := K)) (pe_tup (pa_cons pe_int pa_nil)) pe_int) pa_nil))))) (pe_call G__law_take (hr.mono (by decide)) rfl T.g__law_take T.F__law_take.kp T.b__law_take .nil pass0 (pa_cons (pv 3) (pa_cons pe_int pa_nil))) (fun _ _ => rfl)) pa_nil))))))
      (pss_cons (ps_expr (pe_meth (pv 1) T.cl_Side T.m_Side_write_label G_Side_write_label (hr.mono (by decide)) T.b_Side_write_label .nil pass0 (pa_cons (pv 11) pa_nil)))
      (pss_cons (ps_set (i := 12) sc__law_deed.nd rfl (by first | exact Or.inl rfl | exact Or.inr rfl) (pe_call G__law_label_cell (hr.mono (by decide)) rfl T.g__law_label_cell T.F__law_label_cell.kp T.b__law_label_cell .nil pass0 (pa_cons (pv 0) (pa_cons (pe_dget (hu_of hr) (pv 2) pe_str (fun _ _ => rfl)) (pa_cons (pv 11) (pa_cons (pe_call G__law_slot (hr.mono (by decide)) rfl T.g__law_slot T.F__law_slot.kp T.b__law_slot .nil pass0 (pa_cons (pv 0) (pa_cons (pe_dget (hu_of hr) (pv 2) pe_str (fun _ _ => rfl)) (pa_cons (pv 2) pa_nil)))) pa_nil))))))
      (pss_one (ps_expr (pe_call G__law_put (hr.mono (by decide)) rfl T.g__law_put T.F__law_put.kp T.b__law_put .nil pass0 (pa_cons (pv 2) (pa_cons (pe_ix (ixU (K := K)) (pv 12) pe_int (fun _ _ => rfl)) (pa_cons (pe_ix (ixU (K := K)) (pv 12) pe_int (fun _ _ => rfl)) pa_nil))))))))))))))))
      (pss_one (ps_ret pe_bl))))), ?_⟩
    try dsimp only [cxOf]
    have hOk := lays_ok L hL
    have haH := sR _ _ haf
    have o1 := hOk.o1
    fail "go"
    refine ⟨by fail "sz", ?_⟩
    fail "newM"
    rename_i Ha ga ha sa Hb gb hbb sb Hc gc hc sc Hd gd hd sd p1 H1 n1 g1 m1 h1 s1
    have gA : Mu [b] R H H1 := ⟨ga.g.trans (gb.g.trans (gc.g.trans (gd.g.trans g1.g.nil)))⟩
    have hb1 := g1.g.same _ _ hd
    have pb : p1 ≠ b := (ne_of_none hd n1).symm
    clear ga ha sa gb hbb sb gc hc sc gd sd g1 hd
    fail "go"
    rename_i H2 g2 h2 s2
    have hp2 := g2.g.hh _ _ (nin1 pb) h1
    have r1 := mod_rng (n / 9) (show (0 : Int) < L.device + 2 by omega)
    have r2 := mod_rng (n / 9 / (L.device + 2)) (show (0 : Int) < 5 by decide)
    have r3 := mod_rng (n / 9 / (L.device + 2) / 5) (show (0 : Int) < 2 by decide)
    obtain ⟨q, hq1, hq2⟩ := pick3 (x := n / 9 % (L.device + 2)) (y := n / 9 / (L.device + 2) % 5) (z := L.device + n / 9 / (L.device + 2) / 5 % 2) (mod_rng (n / 9 / (L.device + 2) / 5 / 2) (show (0 : Int) < 3 by decide))
    refine g_ixL (SqL.of hp2) hq1 ?_
    have dbig : 20 ≤ L.device := by
      have : ∀ L ∈ lays, 20 ≤ L.device := by decide
      exact this L hL
    have qr : 0 ≤ q ∧ q < L.device + 2 := by rcases hq2 with rfl | rfl | rfl <;> omega
    obtain ⟨ad, rfl⟩ := Int.eq_ofNat_of_zero_le qr.1
    have gB : Mu [b] R H H2 := ⟨gA.g.trans g2.g⟩
    have jb : ∀ {xs : List Addr}, b ∉ xs → ∀ x ∈ xs, x ∉ [b] := fun h x hx e => h (by rw [← List.mem_singleton.mp e]; exact hx)
    have so2 := hso.frame gB.g (jb bms)
    have mo2 := hmo.frame gB.g (jb bgs)
    have lsl := mw.ls
    have lnl := mw.ln
    have adl : ad < m.seen.length ∧ ad < m.sure.length := ⟨by omega, by omega⟩
    have wl := mw.lw
    have kd := mod_rng n (show (0 : Int) < 9 by decide)
    have hasS := hso.has
    have hasM := hmo.has
    generalize n % 9 = kv at kd
    generalize n / 9 / (L.device + 2) / 5 / 2 / 3 = n2 at h2
    clear gA g2 hb1 h1 hp2 m1 n1 pb hq1 hq2 r1 r2 r3 s1 sR haH hb hso hmo
    fail "go"
    refine g_ite (fun e => ?_) (fun e => ?_)
    · fail "go"
      refine ⟨R, a, b, L, _, rfl, s2, ⟨_, haf⟩, hL, Rb, h2, ?_⟩
      rintro v R3 H3 bk g3 ⟨m3, h3⟩ dk bx
      have so3 := so2.frame g3 (jb bms)
      have mo3 := mo2.frame g3 (jb bgs)
      have s3 := g3.rh
      have haf3 := g3.rr _ _ haf
      have Rb3 := g3.fr _ _ h2 Rb
      have gC : Gr [b] R H R3 H3 := gB.g.trans g3
      clear so2 mo2 g3 h2 s2 gB
      fail "gi"
      refine g_seqIN (fun σ H' => ∃ (v' : V) (bo : Option Blk), σ = [some (.ref a), some (.ref s), some (.ref g), some (.ref b), some (.int kv), some (.int (ad : Int)), some v', none, none, none, none, none, none, none] ∧ Mu [b] R3 H3 H' ∧ Dp K R3 v' (optD bo) ∧ (∀ x, bo = some x → BW L x)) ?_ (fun N rest => ?_)
      · rintro σ H4 ⟨v', bo, rfl, g4, dv, hbo⟩
        have so4 := so3.frame g4.g (jb bms)
        have mo4 := mo3.frame g4.g (jb bgs)
        have s4 := g4.g.rh
        have gD : Gr [b] R H R3 H4 := gC.trans g4.g
        have has4 := mo4.has
        obtain ⟨d, ds, _, ⟨⟨sx, hs4⟩, _, _, _⟩⟩ := id so4
        clear so3 mo3 g4 h3 s3 gC
        fail "go"
        refine ⟨R3, s, a, L, z, m, ms, v', ad, bo, rfl, s4, ⟨_, haf3⟩, hOk, so4, adl.1, by omega, dv, blkOk_of hOk fun x e => (hbo x e).x, fun R5 H5 g5 so5 => ?_⟩
        have mo5 := mo4.frame g5 dj.symm
        have s5 := g5.rh
        have gE : Gr (b :: (ms ++ gs)) R H R5 H5 := (gD.mono (by simp)).trans (g5.mono (fun x hx => by simp [hx]))
        have haf5 := g5.rr _ _ haf3
        have dv5 := dp_mono g5.rr dv
        clear so4 mo4 g5 s4 gD hs4
        fail "go"
        refine ⟨R5, a, v', L, _, bo, rfl, s5, ⟨_, haf5⟩, hOk, dv5, fullO_of fun x e => (hbo x e).x, fun w R6 H6 g6 dw => ?_⟩
        have so6 := so5.frame g6 (fun _ _ => List.not_mem_nil)
        have mo6 := mo5.frame g6 (fun _ _ => List.not_mem_nil)
        have s6 := g6.rh
        have gF : Gr (b :: (ms ++ gs)) R H R6 H6 := gE.trans g6.nil
        clear so5 mo5 g6 s5 gE
        fail "go"
        refine ⟨R6, g, z, m, gs, w, ad, _, rfl, s6, mo6, adl.1, by omega, dw, fun R7 H7 g7 mo7 => ?_⟩
        have so7 := so6.frame g7 dj
        have gG : Gr (b :: (ms ++ gs)) R H R7 H7 := gF.trans (g7.mono (fun x hx => by simp [hx]))
        clear so6 mo6 g7 s6 gF
        fail "go"
        exact hq R7 H7 _ ms gs gG so7 mo7 (mw.put adl.2 (sealW hbo)) Nw.refl Nw.refl dj
      · fail "go"
        rename_i H4 g4 h4 s4
        refine g_ite (fun e => ?_) (fun e => ?_)
        · fail "go"
          exact rest _ _ ⟨.non, none, rfl, g4, .non, fun x e => by cases e⟩
        · fail "go"
          exact rest _ _ ⟨v, some bk, rfl, g4, dk, fun x e => by cases e; exact bx⟩
    fail "go"
    refine g_ite (fun e => ?_) (fun e => ?_)
    · obtain ⟨d, ds, _, ⟨⟨sx, hs2⟩, _, _, _⟩⟩ := id so2
      fail "go"
      refine ⟨R, s, a, z, m, ms, rfl, s2, so2, mw.wi, fun H3 ms' g3 nw3 so3 => ?_⟩
      have mo3 := mo2.frame g3 dj.symm
      have s3 := g3.rh
      have has3 := mo3.has
      have dj3 : Dj ms' gs := dj.nw (Nw.refl) hasM |>.nw nw3 mo2.has
      have gC : Gr (b :: (ms ++ gs)) R H R H3 := (gB.g.mono (by simp)).trans (g3.mono (fun x hx => by simp [hx]))
      have nwH : Nw H ms ms' := fun x hx => (nw3 x hx).imp id fun h => gB.g.free h
      clear so2 mo2 g3 h2 s2 hs2
      fail "go"
      refine ⟨R, g, z, m, gs, rfl, s3, mo3, mw.wi, fun H4 gs' g4 nw4 mo4 => ?_⟩
      have so4 := so3.frame g4 dj3
      have gD : Mu (b :: (ms ++ gs)) R H H4 := ⟨gC.trans (g4.mono (fun x hx => by simp [hx]))⟩
      have dj4 : Dj ms' gs' := (dj3.symm.nw nw4 so3.has).symm
      have nwG : Nw H gs gs' := fun x hx => (nw4 x hx).imp id fun h => gC.free h
      clear gC g4 gB
      fail "go"
      exact hq R H4 _ ms' gs' gD.g so4 mo4 (mw.bar.up (by omega)) nwH nwG dj4
    fail "go"
    refine g_ite (fun e => ?_) (fun e => ?_)
    · fail "go"
      refine ⟨by fail "sz", ?_⟩
      fail "newM"
      rename_i Ha ga hha sa Hb gb hhb sb p1 H3 n3 g3 m3 h3 s3
      have hb3 := g3.g.same _ _ hhb
      have pb : p1 ≠ b := (ne_of_none hhb n3).symm
      have gC : Mu [b] R H H3 := ⟨gB.g.trans (ga.g.trans (gb.g.trans g3.g.nil))⟩
      have gC2 : Gr [b] R H2 R H3 := ga.g.trans (gb.g.trans g3.g.nil)
      have so3 := so2.frame gC2 (jb bms)
      have mo3 := mo2.frame gC2 (jb bgs)
      clear ga hha sa gb hhb sb g3 n3 h2 s2 gC2 so2 mo2 gB
      fail "go"
      rename_i H4 g4 h4 s4
      have hp4 := g4.g.hh _ _ (nin1 pb) h3
      have r1 := mod_rng n2 (show (0 : Int) < 16 + L.oct by omega)
      have r2 := mod_rng (n2 / (16 + L.oct)) (show (0 : Int) < 16 by decide)
      obtain ⟨pl, hp1, hp2⟩ := pickT (x := n2 % (16 + L.oct)) (y := n2 / (16 + L.oct) % 16) (mod_rng (n2 / (16 + L.oct) / 16) (show (0 : Int) < 2 by decide))
      refine g_ixL (SqL.of hp4) hp1 ?_
      have plr : 0 ≤ pl ∧ pl < 16 + L.oct := by rcases hp2 with rfl | rfl <;> omega
      obtain ⟨i, rfl⟩ := Int.eq_ofNat_of_zero_le plr.1
      have gD : Mu [b] R H H4 := ⟨gC.g.trans g4.g⟩
      have so4 := so3.frame g4.g (jb bms)
      have mo4 := mo3.frame g4.g (jb bgs)
      generalize n2 / (16 + L.oct) / 16 / 2 = n4 at h4
      clear g4 hp4 so3 mo3 hb3 h3 s3 gC hp1 hp2 r1 r2 pb m3
      fail "go"
      refine ⟨by fail "sz", ?_⟩
      fail "newM"
      rename_i Ha ga hha sa Hb gb hhb sb p2 H5 n5 g5 m5 h5 s5
      have hb5 := g5.g.same _ _ hhb
      have pb : p2 ≠ b := (ne_of_none hhb n5).symm
      have gC2 : Gr [b] R H4 R H5 := ga.g.trans (gb.g.trans g5.g.nil)
      have gE : Mu [b] R H H5 := ⟨gD.g.trans gC2⟩
      have so5 := so4.frame gC2 (jb bms)
      have mo5 := mo4.frame gC2 (jb bgs)
      clear ga hha sa gb hhb sb g5 n5 h4 s4 gC2 so4 mo4 gD
      fail "go"
      rename_i H6 g6 h6 s6
      have hp6 := g6.g.hh _ _ (nin1 pb) h5
      have r1 := mod_rng n4 (show (0 : Int) < 80 by decide)
      have r2 := mod_rng (n4 / 80) (show (0 : Int) < 6 by decide)
      obtain ⟨v, hp1, hp2⟩ := pickT (x := n4 % 80) (y := n4 / 80 % 6) (mod_rng (n4 / 80 / 6) (show (0 : Int) < 2 by decide))
      refine g_ixL (SqL.of hp6) hp1 ?_
      have vr : 0 ≤ v ∧ v < 80 := by rcases hp2 with rfl | rfl <;> omega
      have gF : Mu [b] R H H6 := ⟨gE.g.trans g6.g⟩
      have so6 := so5.frame g6.g (jb bms)
      have mo6 := mo5.frame g6.g (jb bgs)
      obtain ⟨d, ds, _, ⟨⟨sx, hs6⟩, _, _, _⟩⟩ := id so6
      clear g6 hp6 so5 mo5 hb5 h5 s5 gE hp1 hp2 r1 r2 pb m5 h6
      fail "go"
      refine ⟨R, s, a, L, z, m, ms, ad, i, v, rfl, s6, ⟨_, haf⟩, hOk, so6, mw.up (by omega), adl.2, by omega, vr.1, vr.2, fun R7 H7 g7 so7 => ?_⟩
      have mo7 := mo6.frame g7 dj.symm
      have s7 := g7.rh
      have haf7 := g7.rr _ _ haf
      have gG : Gr (b :: (ms ++ gs)) R H R7 H7 := (gF.g.mono (by simp)).trans (g7.mono (fun x hx => by simp [hx]))
      clear g7 so6 mo6 s6 gF hs6
      fail "go"
      refine ⟨R7, g, a, L, z, m, gs, ad, i, v, rfl, s7, ⟨_, haf7⟩, hOk, mo7, mw.up (by omega), adl.2, by omega, vr.1, vr.2, fun R8 H8 g8 mo8 => ?_⟩
      have so8 := so7.frame g8 dj
      have gH : Gr (b :: (ms ++ gs)) R H R8 H8 := gG.trans (g8.mono (fun x hx => by simp [hx]))
      clear g8 so7 mo7 s7 gG
      fail "go"
      exact hq R8 H8 _ ms gs gH so8 mo8 ((mw.rot hOk vr.1 vr.2).up (by omega)) Nw.refl Nw.refl dj
    · have lab : LabOk L m := ⟨mw.ln, ⟨by omega, by omega⟩, fun c hc => ⟨(mw.c2 c hc).ok hOk, (mw.c2 c hc).octblk hOk⟩⟩
      obtain ⟨g1', g2', g3', egs, hg2, _⟩ := id mo2
      have gb : g ≠ b := fun e => bgs (by rw [egs, e]; simp)
      fail "go"
      refine g_R1W (n := 3) rfl (by decide) fun D nD => ?_
      have RD := s2.free nD
      have DbD : b ≠ D := ne_of_none h2 nD
      have gD : g ≠ D := ne_of_none hg2 nD
      refine lc_range (lo := 0) (n := 3) (DrawInv R (upd H2 D (.lst [])) b D) (draw_0 s2 h2 nD) ?_ ?_
      · have hg0 : upd H2 D (.lst []) g = _ := (upd_ne gD).trans hg2
        rintro j H3 hj ⟨q, us, g3, h3, hE, ul⟩
        have s3 := g3.g.rh
        generalize upd H2 D (.lst []) = H0 at g3 hg0 ⊢
        have hg3 := g3.g.hh _ _ (nin2 gb gD) hg0
        clear h2 s2 so2 mo2 gB hg2
        have addl : ∀ (H4 : Hp) (q4 : Int), Gr [b, D] R H0 R H4 → H4 b = some (.lst [.int q4]) → H4 D = some (.lst (us.map V.int)) → DrawInv R H0 b D (j + 1) (upd H4 D (.lst (us.map V.int ++ [.int (0 + (j : Int))]))) := fun H4 q4 gx hb4 hD4 =>
          ⟨q4, us ++ [0 + (j : Int)], ⟨Gr.app gx RD hD4 (by simp)⟩, by rw [upd_ne DbD]; exact hb4, by rw [upd_same, List.map_append]; rfl, by rw [List.length_append, List.length_singleton]; omega⟩
        refine ⟨rfl, ?_⟩
        fail "go"
        refine g_ite (fun e => ?_) (fun e => ?_)
        · fail "go"
          exact ⟨_, hE, by rw [List.length_map]; fail "sz", addl _ _ g3.g h3 hE⟩
        · fail "go"
          rename_i H4 g4 h4 s4
          have h4E := g4.g.hh _ _ (nin1 (Ne.symm DbD)) hE
          have gX : Gr [b, D] R H0 R H4 := g3.g.trans (g4.g.mono (by simp))
          refine g_ite (fun e => ?_) (fun e => ?_)
          · fail "go"
            exact ⟨_, h4E, by rw [List.length_map]; fail "sz", addl _ _ gX h4 h4E⟩
          · exact ⟨_, us, ⟨gX⟩, h4, h4E, by omega⟩
      rintro H3 dr
      obtain ⟨q3, mem, g3, h3, hD3, ml⟩ := draw_end s2 nD dr
      have gC : Mu [b] R H H3 := ⟨gB.g.trans g3.g⟩
      have s3 := g3.g.rh
      have so3 := so2.frame g3.g (jb bms)
      have mo3 := mo2.frame g3.g (jb bgs)
      clear g3 h2 s2 so2 mo2 dr gB hg2 gD RD
      fail "go"
      refine g_tupL (SqL.of hD3) ?_
      fail "newR"
      rename_i pm H4 R4 n4 g4 hm4 s4
      have h4 := g4.same _ _ h3
      have Rb4 := g4.fr _ _ h3 Rb
      have haf4 := g4.rr _ _ haf
      have so4 := so3.frame g4 (fun _ _ => List.not_mem_nil)
      have mo4 := mo3.frame g4 (fun _ _ => List.not_mem_nil)
      have gE : Gr [b] R H R4 H4 := gC.g.trans g4.nil
      have hmR := hm4
      clear so3 mo3 g4 h3 s3 gC hD3 DbD nD
      fail "go"
      refine g_R1W (n := 3) rfl (by decide) fun E nE => ?_
      have RE := s4.free nE
      have DbE : b ≠ E := ne_of_none h4 nE
      refine lc_range (lo := 0) (n := 3) (DrawInv R4 (upd H4 E (.lst [])) b E) (draw_0 s4 h4 nE) ?_ ?_
      · clear s4 gE so4 mo4 hm4
        rintro j H5 hj ⟨q, us, g5, h5, hE, ul⟩
        have s5 := g5.g.rh
        clear h4
        generalize upd H4 E (.lst []) = H0 at g5 ⊢
        refine ⟨rfl, ?_⟩
        fail "go"
        rename_i H6 g6 h6 s6
        have h6E := g6.g.hh _ _ (nin1 (Ne.symm DbE)) hE
        have gX : Mu [b, E] R4 H0 H6 := ⟨g5.g.trans (g6.g.mono (by simp))⟩
        refine g_ite (fun e => ?_) (fun e => ?_)
        · fail "go"
          exact ⟨_, h6E, by rw [List.length_map]; fail "sz", _, us ++ [0 + (j : Int)], ⟨Gr.app gX.g RE h6E (by simp)⟩, by rw [upd_ne DbE]; exact h6, by rw [upd_same, List.map_append]; rfl, by rw [List.length_append, List.length_singleton]; omega⟩
        · exact ⟨_, us, gX, h6, h6E, by omega⟩
      rintro H5 dr
      obtain ⟨q5, bef, g5, h5, hE5, bl⟩ := draw_end s4 nE dr
      have gF : Gr [b] R H R4 H5 := gE.trans g5.g
      have s5 := g5.g.rh
      have so5 := so4.frame g5.g (jb bms)
      have mo5 := mo4.frame g5.g (jb bgs)
      clear g5 h4 s4 so4 mo4 dr gE RE hm4
      fail "go"
      refine g_tupL (SqL.of hE5) ?_
      fail "newR"
      rename_i pb H6 R6 n6 g6 hb6 s6
      have h6 := g6.same _ _ h5
      have Rb6 := g6.fr _ _ h5 Rb4
      have haf6 := g6.rr _ _ haf4
      have hm6 := g6.rr _ _ hmR
      have so6 := so5.frame g6 (fun _ _ => List.not_mem_nil)
      have mo6 := mo5.frame g6 (fun _ _ => List.not_mem_nil)
      have gG : Gr [b] R H R6 H6 := gF.trans g6.nil
      clear so5 mo5 g6 h5 s5 gF hE5 DbE nE hmR
      fail "go"
      rename_i H7 g7 h7 s7
      have so7 := so6.frame g7.g (jb bms)
      have mo7 := mo6.frame g7.g (jb bgs)
      have gH : Gr [b] R H R6 H7 := gG.trans g7.g
      have gen0 := mod_rng q5 (show (0 : Int) < 9 by decide)
      generalize q5 % 9 = gen at gen0
      clear so6 mo6 g7 h6 s6 gG
      refine ⟨by fail "sz", ?_⟩
      fail "newR"
      rename_i e0 H8 R8 n8 g8 he0 s8
      fail "go"
      refine ⟨by fail "sz", ?_⟩
      fail "newR"
      rename_i e1 H9 R9 n9 g9 he1 s9
      fail "go"
      refine ⟨by fail "sz", ?_⟩
      fail "newR"
      rename_i e2 HA RA nA gA heA sA
      fail "go"
      refine ⟨by fail "sz", ?_⟩
      fail "newR"
      rename_i e3' HB RB nB gB heB sB
      fail "go"
      refine ⟨e3', 16, [.int 1], rfl, rfl, SqT.of (sB _ _ heB), by simp, by decide, by decide, by decide, ?_⟩
      fail "newR"
      rename_i e3 HC RC nC gC heC sC
      have gJ : Gr [] R6 H7 RC HC := g8.trans (g9.trans (gA.trans (gB.trans gC)))
      have t0 : SqT K RC e0 [] := SqT.of (gC.rr _ _ (gB.rr _ _ (gA.rr _ _ (g9.rr _ _ he0))))
      have t1 : SqT K RC e1 [.int 70000] := SqT.of (gC.rr _ _ (gB.rr _ _ (gA.rr _ _ he1)))
      have t2 : SqT K RC e2 [.int 2, .int 1] := SqT.of (gC.rr _ _ (gB.rr _ _ heA))
      have t3 : SqT K RC e3 ((List.replicate 16 (1 : Int)).map V.int) := SqT.of heC
      have soC := so7.frame gJ (fun _ _ => List.not_mem_nil)
      have moC := mo7.frame gJ (fun _ _ => List.not_mem_nil)
      have hC := gJ.same _ _ h7
      have RbC := gJ.fr _ _ h7 Rb6
      have hafC := gJ.rr _ _ haf6
      have hmC := gJ.rr _ _ hm6
      have hbC := gJ.rr _ _ hb6
      have gK : Gr [b] R H RC HC := gH.trans gJ.nil
      clear g8 g9 gA gB gC gJ he0 he1 heA heB heC s8 s9 sA sB so7 mo7 h7 s7 gH n8 n9 nA nB nC
      fail "go"
      refine ⟨by fail "sz", ?_⟩
      fail "newM"
      rename_i pl HD nD' gD mD hpD sD
      have hD := gD.g.same _ _ hC
      have plb : pl ≠ b := (ne_of_none hC nD').symm
      have soD := soC.frame gD.g (fun _ _ => List.not_mem_nil)
      have moD := moC.frame gD.g (fun _ _ => List.not_mem_nil)
      have gL : Gr [b] R H RC HD := gK.trans gD.g.nil
      clear gD hC sC soC moC gK nD'
      fail "go"
      rename_i HE gE hE sE
      have hpE := gE.g.hh _ _ (nin1 plb) hpD
      have soE := soD.frame gE.g (jb bms)
      have moE := moD.frame gE.g (jb bgs)
      have gM : Gr [b] R H RC HE := gL.trans gE.g
      obtain ⟨fa, fs, hf1, hf2, fl, fr⟩ := pickF (mod_rng (q5 / 9) (show (0 : Int) < 4 by decide)) t0 t1 t2 t3
      refine g_ixL (SqL.of hpE) hf1 ?_
      clear gE hD sD soD moD gL hpD
      fail "go"
      refine ⟨by fail "sz", ?_⟩
      fail "newR"
      rename_i pL HF RF nF gF hL' sF
      have ml : Dp K HF (.ref pL) (Lb.d ⟨1 + gen, mem, bef, fs⟩) := mkLb (SqT.of (sF _ _ hL')) (SqT.of (sF _ _ (gF.rr _ _ hmC))) (SqT.of (sF _ _ (gF.rr _ _ hbC))) (sqT_mono sF (sqT_mono gF.rr hf2))
      have mlR : Dp K RF (.ref pL) (Lb.d ⟨1 + gen, mem, bef, fs⟩) := mkLb (SqT.of hL') (SqT.of (gF.rr _ _ hmC)) (SqT.of (gF.rr _ _ hbC)) (sqT_mono gF.rr hf2)
      have soF := soE.frame gF (fun _ _ => List.not_mem_nil)
      have moF := moE.frame gF (fun _ _ => List.not_mem_nil)
      have gN : Gr [b] R H RF HF := gM.trans gF.nil
      have hafF := gF.rr _ _ hafC
      have hbb : BW L (labelBlk L z ⟨1 + gen, mem, bef, fs⟩) := labelBlk_W hOk z0 z3 (by show 0 ≤ 1 + gen; omega) (by show 1 + gen < 281474976710656; omega) fl
      obtain ⟨d, ds, _, ⟨⟨sx, hsF⟩, _, _, _⟩⟩ := id soF
      clear gF hE sE soE moE gM hL' hmC hbC hpE t0 t1 t2 t3 hf1 hf2 hm6 hb6
      generalize hlb : Lb.mk (1 + gen) mem bef fs = lb at ml mlR hbb
      have lgen : 0 ≤ lb.gen := by rw [← hlb]; show 0 ≤ 1 + gen; omega
      have lfl : lb.forks.length ≤ 16 := by rw [← hlb]; exact fl
      have lfr : ∀ x ∈ lb.forks, 0 ≤ x ∧ x < 16777216 := by rw [← hlb]; exact fr
      clear hlb
      fail "go"
      refine ⟨RF, s, a, L, z, m, ms, _, lb, rfl, sF, ⟨_, hafF⟩, hOk, soF, lab, by omega, ml, by omega, blkOk_of hOk fun x e => by cases e; exact hbb.x, fun R5 H5 g5 so5 => ?_⟩
      have mo5 := moF.frame g5 dj.symm
      have s5 := g5.rh
      have gO : Gr (b :: (ms ++ gs)) R H R5 H5 := (gN.mono (by simp)).trans (g5.mono (fun x hx => by simp [hx]))
      have haf5 := g5.rr _ _ hafF
      have ml5 := dp_mono g5.rr mlR
      have ml5H := dp_mono s5 ml5
      obtain ⟨j1, j2, j3, ej, hg5, _⟩ := id mo5
      clear soF moF g5 sF gN hsF ml mlR
      fail "go"
      refine ⟨R5, a, g, L, z, z, m, gs, rfl, s5, ⟨_, haf5⟩, hOk, by omega, mo5, mw.up (by omega), z0, z3, fun H6 s6 => ?_⟩
      have gP := Mu.ofSame (M := []) s5 s6
      have so6 := so5.frame gP.g (fun _ _ => List.not_mem_nil)
      have mo6 := mo5.frame gP.g (fun _ _ => List.not_mem_nil)
      have s56 := gP.g.rh
      have ml6 := dp_mono s6 ml5H
      have gQ : Gr (b :: (ms ++ gs)) R H R5 H6 := gO.trans gP.g.nil
      clear so5 mo5 s5 gO gP s6 ml5H hg5
      fail "go"
      refine ⟨R5, a, _, L, z, lb, slotOf L z m, rfl, s56, ⟨_, haf5⟩, hOk, z0, z3, ml6, lgen, lfl, lfr, fun p w R7 H7 g7 np hp7 dw => ?_⟩
      have so7 := so6.frame g7 (fun _ _ => List.not_mem_nil)
      have mo7 := mo6.frame g7 (fun _ _ => List.not_mem_nil)
      have s7 := g7.rh
      have gS : Gr (b :: (ms ++ gs)) R H R7 H7 := gQ.trans g7.nil
      clear so6 mo6 s56 gQ g7
      have sl : slotOf L z m ≤ 1 := by unfold slotOf; split <;> omega
      fail "go"
      have ea : L.device + ((slotOf L z m : Nat) : Int) = ((L.device.toNat + slotOf L z m : Nat) : Int) := by omega
      rw [ea] at hp7 dw ⊢
      refine ⟨R7, g, z, m, gs, w, L.device.toNat + slotOf L z m, _, rfl, s7, mo7, by omega, by omega, dw, fun R8 H8 g8 mo8 => ?_⟩
      have so8 := so7.frame g8 dj
      have gT : Gr (b :: (ms ++ gs)) R H R8 H8 := gS.trans (g8.mono (fun x hx => by simp [hx]))
      clear so7 mo7 s7 gS g8
      fail "go"
      exact hq R8 H8 _ ms gs gT so8 mo8 (mw.put (by omega) (sealW fun x e => by cases e; exact hbb)) Nw.refl Nw.refl dj
end
def spDevPend (C : Addr) : Sp := fun vs H Q _ => ∃ (d a l1 l2 l3 : Addr) (ws : List V), vs = [.ref d] ∧ DevAt C H d a l1 l2 l3 ∧ H l3 = some (.lst ws) ∧ Q (.int (ws.length : Int)) H
section
variable {P : Program} {w : World} {K : PySem.W.Frag} {mg : Str → Option Value} {base : Heap}
theorem ok_Device_pending (T : Txt P K mg) : FnOk P w K mg base CX0 1 T.f_Device_pending T.fd_Device_pending ["self"] (spDevPend T.C_Device) := by
  have cl_Device := T.cl_Device
  have a_Device_waiting := T.a_Device_waiting
  refine T.F_Device_pending.ok sc_Device_pending (fun vs H Q E h => ?_) (fun cdv A outer s H vs Q E hr h => ?_)
  · obtain ⟨d, a, l1, l2, l3, ws, rfl, ⟨dx, hd⟩, h3, hq⟩ := h
    rfl
  · obtain ⟨d, a, l1, l2, l3, ws, rfl, ⟨dx, hd⟩, h3, hq⟩ := h
    refine ⟨_, (pss_one (ps_ret (pe_callB (callLenU (K := K)) (by rfl) T.n_len (by decide +kernel) (pa_cons (pe_fldK (K := K) (pv 0) rfl) pa_nil)))), ?_⟩
    try dsimp only [cxOf]
    have r0 := Same.refl H
    fail "go"
    exact hq
end
def spSidePend (CS CD : Addr) : Sp := fun vs H Q _ => ∃ (s d a l1 l2 l3 : Addr) (n : Int) (ws : List V), vs = [.ref s] ∧ SideIn CS H s a n d ∧ DevAt CD H d a l1 l2 l3 ∧ H l3 = some (.lst ws) ∧ Q (.int (ws.length : Int)) H
section
variable {P : Program} {w : World} {K : PySem.W.Frag} {mg : Str → Option Value} {base : Heap}
theorem ok_Side_pending (T : Txt P K mg) : FnOk P w K mg base CX0 2 T.f_Side_pending T.fd_Side_pending ["self"] (spSidePend T.C_Side T.C_Device) := by
  have cl_Side := T.cl_Side
  have a_Side_device := T.a_Side_device
  have G_Device_pending := ok_Device_pending (P := P) (w := w) (base := base) T
  refine T.F_Side_pending.ok sc_Side_pending (fun vs H Q E h => ?_) (fun cdv A outer s H vs Q E hr h => ?_)
  · obtain ⟨s, d, a, l1, l2, l3, n, ws, rfl, ⟨sx, hs⟩, ⟨dx, hd⟩, h3, hq⟩ := h
    rfl
  · obtain ⟨s, d, a, l1, l2, l3, n, ws, rfl, ⟨sx, hs⟩, ⟨dx, hd⟩, h3, hq⟩ := h
    refine ⟨_, (pss_one (ps_ret (pe_meth0 (pe_fldK (K := K) (pv 0) rfl) T.cl_Device T.m_Device_pending G_Device_pending (hr.mono (by decide)) T.b_Device_pending .nil pass0))), ?_⟩
    try dsimp only [cxOf]
    have r0 := Same.refl H
    fail "go"
    exact ⟨d, a, l1, l2, l3, ws, rfl, ⟨_, hd⟩, h3, hq⟩
end
def spDevSure (C : Addr) : Sp := fun vs H Q _ => ∃ (d a l1 l2 l3 : Addr) (us : List V), vs = [.ref d] ∧ DevAt C H d a l1 l2 l3 ∧ H l1 = some (.lst us) ∧ ∀ p, H p = none → Q (.ref p) (upd H p (.lst us))
section
variable {P : Program} {w : World} {K : PySem.W.Frag} {mg : Str → Option Value} {base : Heap}
theorem ok_Device_sure_blocks (T : Txt P K mg) : FnOk P w K mg base CX0 1 T.f_Device_sure_blocks T.fd_Device_sure_blocks ["self"] (spDevSure T.C_Device) := by
  have cl_Device := T.cl_Device
  have a_Device_sure := T.a_Device_sure
  refine T.F_Device_sure_blocks.ok sc_Device_sure_blocks (fun vs H Q E h => ?_) (fun cdv A outer s H vs Q E hr h => ?_)
  · obtain ⟨d, a, l1, l2, l3, us, rfl, ⟨dx, hd⟩, h1, hq⟩ := h
    rfl
  · obtain ⟨d, a, l1, l2, l3, us, rfl, ⟨dx, hd⟩, h1, hq⟩ := h
    refine ⟨_, (pss_one (ps_ret (pe_callTy (callListU (K := K)) (by rfl) T.n_list (by decide +kernel) (pa_cons (pe_fldK (K := K) (pv 0) rfl) pa_nil)))), ?_⟩
    try dsimp only [cxOf]
    have r0 := Same.refl H
    fail "go"
    exact g_listL (SqL.of h1) hq
end
def spSideRotten (K : PySem.W.Frag) (CL CS CD : Addr) : Sp := fun vs H Q _ => ∃ (R : Hp) (s a : Addr) (L : Lay) (z : Int) (m : Rows) (ms : List Addr) (n : Nat) (c : Cell), vs = [.ref s, .int (n : Int)] ∧ Same R H ∧ LayAt CL R a L ∧ L.Ok ∧ SideOk K CS CD R H s a z m ms ∧ m.seen[n]? = some c ∧ CellOk c ∧
  ∀ H', Same H H' → Q (.bl (rottenC L n c)) H'
section
variable {P : Program} {w : World} {K : PySem.W.Frag} {mg : Str → Option Value} {base : Heap}
theorem ok_Side_is_rotten (T : Txt P K mg) : FnOk P w K mg base CX0 7 T.f_Side_is_rotten T.fd_Side_is_rotten ["self", "address"] (spSideRotten K T.C_Layout T.C_Side T.C_Device) := by
  have cl_Side := T.cl_Side
  have a_Side_device := T.a_Side_device
  have a_Side_layout := T.a_Side_layout
  have G_Device_read := ok_Device_read (P := P) (w := w) (base := base) T
  have G_is_whole := ok_is_whole (P := P) (w := w) (base := base) T
  refine T.F_Side_is_rotten.ok sc_Side_is_rotten (fun vs H Q E h => ?_) (fun cdv A outer s H vs Q E hr h => ?_)
  · obtain ⟨R, s, a, L, z, m, ms, n, c, rfl, sR, ha, hL, hso, hn, hc, hq⟩ := h
    rfl
  · obtain ⟨R, s, a, L, z, m, ms, n, c, rfl, sR, ha, hL, hso, hn, hc, hq⟩ := h
    refine ⟨_, (pss_cons (ps_set (i := 2) sc_Side_is_rotten.nd rfl (by first | exact Or.inl rfl | exact Or.inr rfl) (pe_meth (pe_fldK (K := K) (pv 0) rfl) T.cl_Device T.m_Device_read G_Device_read (hr.mono (by decide)) T.b_Device_read .nil pass0 (pa_cons (pv 1) pa_nil)))
      (pss_one (ps_ret (pe_and (pe_cmpR opNotU (pv 2) pe_non (nomark _)) (pe_one (pe_not (pe_call G_is_whole (hr.mono (by decide)) rfl T.g_is_whole T.F_is_whole.kp T.b_is_whole .nil pass0 (pa_cons (pe_fldK (K := K) (pv 0) rfl) (pa_cons (pv 1) (pa_cons (pv 2) pa_nil)))))))))), ?_⟩
    try dsimp only [cxOf]
    obtain ⟨d, ds, rfl, ⟨⟨sx, hs⟩, nin, non, dev⟩⟩ := hso
    obtain ⟨l1, l2, l3, eds, ⟨dx, hd⟩, nd, non', u1, u2, u3, h1, h2, h3, d1, d2, d3⟩ := dev
    obtain ⟨v, hv, dv⟩ := cells_get d2 hn
    fail "go"
    refine ⟨d, a, l1, l2, l3, u2, v, n, rfl, ⟨_, hd⟩, SqL.of h2, hv, ?_⟩
    fail "go"
    rcases c with _ | ⟨b, k⟩
    · obtain rfl := dp_non dv
      fail "go"
      exact hq _ (Same.refl H)
    · obtain ⟨t, x, y, rfl, ht, hx, hy⟩ := dpT2 dv
      fail "go"
      refine ⟨a, _, L, n, some (b, k), rfl, ha.mono sR, hL, dp_mono sR dv, hc, fun H1 s1 => ?_⟩
      fail "go"
      exact hq _ s1
end
def spLabel (K : PySem.W.Frag) (CL CS CD : Addr) : Sp := fun vs H Q _ => ∃ (R : Hp) (s a : Addr) (L : Lay) (z : Int) (m : Rows) (ms : List Addr), vs = [.ref s] ∧ Same R H ∧ LayAt CL R a L ∧ L.Ok ∧ SideOk K CS CD R H s a z m ms ∧ LabOk L m ∧
  ∀ v H', Same H H' → Dp K H' v (lbD (labOf L z m)) → Q v H'
section
variable {P : Program} {w : World} {K : PySem.W.Frag} {mg : Str → Option Value} {base : Heap}
theorem ok_Side_label (T : Txt P K mg) : FnOk P w K mg base CX0 9 T.f_Side_label T.fd_Side_label ["self"] (spLabel K T.C_Layout T.C_Side T.C_Device) := by
  have G_newest_label := ok_newest_label (P := P) (w := w) (base := base) T
  have G_Side_labels := ok_Side_labels (P := P) (w := w) (base := base) T
  refine T.F_Side_label.ok sc_Side_label (fun vs H Q E h => ?_) (fun cdv A outer s H vs Q E hr h => ?_)
  · obtain ⟨R, s, a, L, z, m, ms, rfl, sR, ha, hL, hso, lo, hq⟩ := h
    rfl
  · obtain ⟨R, s, a, L, z, m, ms, rfl, sR, ha, hL, hso, lo, hq⟩ := h
    refine ⟨_, (pss_one (ps_ret (pe_call G_newest_label (hr.mono (by decide)) rfl T.g_newest_label T.F_newest_label.kp T.b_newest_label .nil pass0 (pa_cons (pe_meth0 (pv 0) T.cl_Side T.m_Side_labels G_Side_labels (hr.mono (by decide)) T.b_Side_labels .nil pass0) pa_nil)))), ?_⟩
    try dsimp only [cxOf]
    have hso0 := hso
    obtain ⟨d, ds, rfl, ⟨⟨sx, hs⟩, nin, non, dev⟩⟩ := hso
    fail "go"
    refine ⟨R, s, a, L, z, m, _, rfl, sR, ha, hL, hso0, lo, fun p H1 us s1 np hp du => ?_⟩
    fail "go"
    refine ⟨p, us, _, rfl, SqL.of hp, du, fun v dv => ?_⟩
    fail "go"
    exact hq _ _ s1 dv
end
def spOwnLab (K : PySem.W.Frag) (CL : Addr) : Sp := fun vs H Q _ => ∃ (R : Hp) (a g : Addr) (L : Lay) (n z : Int) (m : Rows) (gs : List Addr), vs = [.ref a, .int n, .ref g] ∧ Same R H ∧ LayAt CL R a L ∧ L.Ok ∧ 0 ≤ L.device ∧ ModOk K R H g z m gs ∧ RsW L 100 m ∧ 0 ≤ n ∧ n < 3 ∧
  ∀ w H', Same H H' → Dp K H' w (lbD (labOf L n m)) → Q w H'
section
variable {P : Program} {w : World} {K : PySem.W.Frag} {mg : Str → Option Value} {base : Heap}
theorem ok__law_own_label (T : Txt P K mg) : FnOk P w K mg base CX0 6 T.f__law_own_label T.fd__law_own_label ["layout", "seat", "row"] (spOwnLab K T.C_Layout) := by
  have G__law_label_at := ok__law_label_at (P := P) (w := w) (base := base) T
  have G__law_ahead := ok__law_ahead (P := P) (w := w) (base := base) T
  refine T.F__law_own_label.ok sc__law_own_label (fun vs H Q E h => ?_) (fun cdv A outer s H vs Q E hr h => ?_)
  · obtain ⟨R, a, g, L, n, z, m, gs, rfl, sR, ha, hL, dev0, hmo, mw, n0, n3, hq⟩ := h
    rfl
  · obtain ⟨R, a, g, L, n, z, m, gs, rfl, sR, ha, hL, dev0, hmo, mw, n0, n3, hq⟩ := h
    refine ⟨_, (pss_cons (ps_set (i := 3) sc__law_own_label.nd rfl (by first | exact Or.inl rfl | exact Or.inr rfl) (pe_call G__law_label_at (hr.mono (by decide)) rfl T.g__law_label_at T.F__law_label_at.kp T.b__law_label_at .nil pass0 (pa_cons (pv 0) (pa_cons (pv 1) (pa_cons (pv 2) (pa_cons pe_int pa_nil))))))
      (pss_cons (ps_set (i := 4) sc__law_own_label.nd rfl (by first | exact Or.inl rfl | exact Or.inr rfl) (pe_call G__law_label_at (hr.mono (by decide)) rfl T.g__law_label_at T.F__law_label_at.kp T.b__law_label_at .nil pass0 (pa_cons (pv 0) (pa_cons (pv 1) (pa_cons (pv 2) (pa_cons pe_int pa_nil))))))
      (pss_one (ps_ret (pe_ix (ixU (K := K)) (pe_lst (pa_cons (pv 3) (pa_cons (pv 4) pa_nil))) (pe_callTy callIntU (by rfl) T.n_int (by decide +kernel) (pa_cons (pe_call G__law_ahead (hr.mono (by decide)) rfl T.g__law_ahead T.F__law_ahead.kp T.b__law_ahead .nil pass0 (pa_cons (pv 4) (pa_cons (pv 3) pa_nil))) pa_nil)) (fun _ _ => rfl)))))), ?_⟩
    try dsimp only [cxOf]
    fail "go"
    refine ⟨R, a, g, L, n, z, m, gs, 0, rfl, sR, ha, hL, dev0, hmo, mw, n0, n3, by decide, fun v1 H1 s1 dv1 => ?_⟩
    have hmo1 := hmo.frame (Mu.ofSame sR s1).g (fun _ _ => List.not_mem_nil)
    fail "go"
    refine ⟨R, a, g, L, n, z, m, gs, 1, rfl, sR.trans s1, ha, hL, dev0, hmo1, mw, n0, n3, by decide, fun v2 H2 s2 dv2 => ?_⟩
    have dv1' := dp_mono s2 dv1
    have s02 := s1.trans s2
    have sR2 := sR.trans s02
    clear dv1 s1 s2 hmo1 hmo
    fail "go"
    refine ⟨by fail "sz", ?_⟩
    fail "newM"
    rename_i p H3 n3' g3 m3 h3 s3
    have e1 := dp_mono g3.g.same dv1'
    have e2 := dp_mono g3.g.same dv2
    have s03 := s02.trans g3.g.same
    clear g3 dv1' dv2 s02
    fail "go"
    refine ⟨v2, v1, _, _, rfl, e2, e1, ?_⟩
    fail "go"
    refine g_ixL (SqL.of h3) (bool_at _) ?_
    have en : labOf L n m = if ahead (labAt L n m 1) (labAt L n m 0) = true then labAt L n m 1 else labAt L n m 0 := by unfold labOf; rw [labs_eq, ahead_new]
    rw [en] at hq
    change Q (if ahead (labAt L n m 1) (labAt L n m 0) = true then v2 else v1) H3
    by_cases ea : ahead (labAt L n m 1) (labAt L n m 0) = true
    · rw [if_pos ea] at hq ⊢
      exact hq _ _ s03 e2
    · rw [if_neg ea] at hq ⊢
      exact hq _ _ s03 e1
end
theorem la_cell (c : Cell) : LaD (cellD c) 3 := by
  rcases c with _ | ⟨_ | b, k⟩
  · exact la_non
  · exact la_tup (la_cons la_non (la_cons la_int la_non'))
  · exact la_tup (la_cons (la_blk b) (la_cons la_int la_non'))
theorem clean_cell (c : Cell) : clean (cellD c) = true := by
  rcases c with _ | ⟨_ | b, k⟩
  · rfl
  · rfl
  · show clean (.tuple [b.d, .int k]) = true
    rw [clean, cleanAll, clean_blk b]; rfl
theorem clean_cells : ∀ cs : List Cell, cleanAll (cs.map cellD) = true
  | [] => rfl
  | c :: r => by rw [List.map_cons, cleanAll, clean_cell c, clean_cells r]; rfl
theorem la_cells {cs : List Cell} : LaD (.list (cs.map cellD)) 4 := la_lst fun d h => by obtain ⟨c, _, rfl⟩ := List.mem_map.mp h; exact la_cell c
theorem g_neCells {K : PySem.W.Frag} {H : Hp} {Q : VK} {p q : Addr} {us ws : List V} {cs : List Cell} (hp : SqL K H p us) (hq : SqL K H q ws) (d1 : DpAll K H us (cs.map cellD)) (d2 : DpAll K H ws (cs.map cellD)) (k : Q (.bl false) H) : rNeU K (.ref p) (.ref q) H Q := by
  refine g_neDa (.lst hp d1) (.lst hq d2) (la_shaped la_cells) (la_shaped la_cells) (.inl ⟨_, rfl⟩) ?_
  rw [eqv_same (by rw [clean]; exact clean_cells cs)]
  exact k
theorem g_neB {K : PySem.W.Frag} {H : Hp} {Q : VK} {a b : Bool} (q : Q (.bl (!decide (a = b))) H) : rNeU K (.bl a) (.bl b) H Q := q
def spAgrees (K : PySem.W.Frag) (CL CS CD : Addr) : Sp := fun vs H Q _ => ∃ (R : Hp) (s g a b : Addr) (L : Lay) (z : Int) (m : Rows) (ms gs : List Addr) (n : Int), vs = [.ref a, .ref s, .ref g, .ref b] ∧ Same R H ∧ LayAt CL R a L ∧ L ∈ lays ∧ (0 < L.device ∧ L.device < 120) ∧ SideOk K CS CD R H s a z m ms ∧ ModOk K R H g z m gs ∧ RsW L 100 m ∧ R b = none ∧ H b = some (.lst [.int n]) ∧ b ∉ ms ∧ b ∉ gs ∧ 0 ≤ z ∧ z < 3 ∧
  ∀ H', Gr [b] R H R H' → Q (.bl true) H'
def AgInv (R H : Hp) (a s g b p : Addr) (_ : Nat) (σ : St) (H' : Hp) : Prop := ∃ (x4 x6 x7 x8 x9 : Option V), σ = [some (.ref a), some (.ref s), some (.ref g), some (.ref b), x4, some (.ref p), x6, x7, x8, x9, none] ∧ Mu [b] R H H' ∧ ∃ q, H' b = some (.lst [.int q])
local macro_rules | `(tactic| fail "calls") => `(tactic| ((with_reducible show spTake _ _ _ _); refine ⟨_, _, _, rfl, by fail "hp", by fail "ar", by fail "ar", ?_⟩; fail "mut"))
section
variable {P : Program} {w : World} {K : PySem.W.Frag} {mg : Str → Option Value} {base : Heap}
theorem ok__law_agrees (T : Txt P K mg) : FnOk P w K mg base CX0 10 T.f__law_agrees T.fd__law_agrees ["layout", "side", "model", "box"] (spAgrees K T.C_Layout T.C_Side T.C_Device) := by
  have cl_Layout := T.cl_Layout
  have cl_Side := T.cl_Side
  have a_Layout_device_blocks := T.a_Layout_device_blocks
  have a_Side_device := T.a_Side_device
  have a_Layout_block_size := T.a_Layout_block_size
  have a_Side_layout := T.a_Side_layout
  have a_Side_seat := T.a_Side_seat
  have G_Device_read := ok_Device_read (P := P) (w := w) (base := base) T
  have G_Side_pending := ok_Side_pending (P := P) (w := w) (base := base) T
  have G_Device_sure_blocks := ok_Device_sure_blocks (P := P) (w := w) (base := base) T
  have G__law_take := ok__law_take (P := P) (w := w) (base := base) T
  have G__law_whole := ok__law_whole (P := P) (w := w) (base := base) T
  have G_Side_is_rotten := ok_Side_is_rotten (P := P) (w := w) (base := base) T
  have G_Side_read := ok_Side_read (P := P) (w := w) (base := base) T
  have G_Side_label := ok_Side_label (P := P) (w := w) (base := base) T
  have G__law_own_label := ok__law_own_label (P := P) (w := w) (base := base) T
  refine T.F__law_agrees.ok sc__law_agrees (fun vs H Q E h => ?_) (fun cdv A outer s H vs Q E hr h => ?_)
  · obtain ⟨R, s, g, a, b, L, z, m, ms, gs, n, rfl, sR, ⟨lx, haf⟩, hL, hdev, hso, hmo, mw, Rb, hb, bms, bgs, z0, z3, hq⟩ := h
    rfl
  · obtain ⟨R, s, g, a, b, L, z, m, ms, gs, n, rfl, sR, ⟨lx, haf⟩, hL, hdev, hso, hmo, mw, Rb, hb, bms, bgs, z0, z3, hq⟩ := h
    refine ⟨_, (pss_cons (ps_setLc (i := 5) (own := [("address", 4)]) (g := gName 4) (tt := tYes) rfl sc__law_agrees.nd rfl rfl (sw_true rfl rfl rfl (by decide +kernel)) (pi_range1 rfl T.n_range (pa_cons (pe_op (opAddU (K := K)) (pe_fldK (K := K) (pv 0) rfl) pe_int) pa_nil)) (blkOk_by (N := N__law_agrees) (sc := defScope s__law_agrees) (by decide +kernel)) (fun _ _ _ _ _ => (pg_name (i := 4) sc__law_agrees.nd rfl (by first | exact Or.inl rfl | exact Or.inr rfl))) (fun _ _ _ _ _ => pts_nil) (fun _ _ _ _ _ => (pe_meth (pe_fldK (K := K) (pv 1) rfl) T.cl_Device T.m_Device_read G_Device_read (hr.mono (by decide)) T.b_Device_read .nil pass0 (pa_cons (pv 4) pa_nil))))
      (pss_cons (ps_if (PW.pt (pw_or (pt_cmpR (opNeU (K := K) hr.units) (pv 5) (pe_dget (hu_of hr) (pv 2) pe_str (fun _ _ => rfl)) (nomark _)) (pw_or (pt_cmpR (opNeU (K := K) hr.units) (pe_meth0 (pe_fldK (K := K) (pv 1) rfl) T.cl_Device T.m_Device_sure_blocks G_Device_sure_blocks (hr.mono (by decide)) T.b_Device_sure_blocks .nil pass0) (pe_dget (hu_of hr) (pv 2) pe_str (fun _ _ => rfl)) (nomark _)) (pw_or1 (pt_cmpR (opNeU (K := K) hr.units) (pe_meth0 (pv 1) T.cl_Side T.m_Side_pending G_Side_pending (hr.mono (by decide)) T.b_Side_pending .nil pass0) (pe_callB (callLenU (K := K)) (by rfl) T.n_len (by decide +kernel) (pa_cons (pe_dget (hu_of hr) (pv 2) pe_str (fun _ _ => rfl)) pa_nil)) (nomark _)))))) (pss_one (ps_ret pe_bl)) pss_nil)
      (pss_cons (ps_for PassesOwn.never rfl (pi_range1 rfl T.n_range (pa_cons pe_int pa_nil)) (pg_name (i := 6) sc__law_agrees.nd rfl (by first | exact Or.inl rfl | exact Or.inr rfl)) (pss_cons (ps_set (i := 4) sc__law_agrees.nd rfl (by first | exact Or.inl rfl | exact Or.inr rfl) (pe_ix (ixU (K := K)) (pe_lst (pa_cons (pe_call G__law_take (hr.mono (by decide)) rfl T.g__law_take T.F__law_take.kp T.b__law_take .nil pass0 (pa_cons (pv 3) (pa_cons (pe_op (opAddU (K := K)) (pe_fldK (K := K) (pv 0) rfl) pe_int) pa_nil))) (pa_cons (pe_op (opAddU (K := K)) (pe_fldK (K := K) (pv 0) rfl) (pe_call G__law_take (hr.mono (by decide)) rfl T.g__law_take T.F__law_take.kp T.b__law_take .nil pass0 (pa_cons (pv 3) (pa_cons pe_int pa_nil)))) pa_nil))) (pe_callTy callIntU (by rfl) T.n_int (by decide +kernel) (pa_cons (pe_cmpR (opEqU (K := K) hr.units) (pv 6) pe_int (nomark _)) pa_nil)) (fun _ _ => rfl)))
      (pss_cons (ps_set (i := 7) sc__law_agrees.nd rfl (by first | exact Or.inl rfl | exact Or.inr rfl) (pe_call G__law_whole (hr.mono (by decide)) rfl T.g__law_whole T.F__law_whole.kp T.b__law_whole .nil pass0 (pa_cons (pv 0) (pa_cons (pv 4) (pa_cons (pe_ix (ixU (K := K)) (pe_dget (hu_of hr) (pv 2) pe_str (fun _ _ => rfl)) (pv 4) (fun _ _ => rfl)) pa_nil)))))
      (pss_cons (ps_set (i := 8) sc__law_agrees.nd rfl (by first | exact Or.inl rfl | exact Or.inr rfl) (pe_and (pe_cmpR opNotU (pe_ix (ixU (K := K)) (pe_dget (hu_of hr) (pv 2) pe_str (fun _ _ => rfl)) (pv 4) (fun _ _ => rfl)) pe_non (nomark _)) (pe_one (pe_not (pv 7)))))
      (pss_cons (ps_set (i := 9) sc__law_agrees.nd rfl (by first | exact Or.inl rfl | exact Or.inr rfl) (pe_meth (pv 1) T.cl_Side T.m_Side_is_rotten G_Side_is_rotten (hr.mono (by decide)) T.b_Side_is_rotten .nil pass0 (pa_cons (pv 4) pa_nil)))
      (pss_cons (ps_if (PW.pt (pw_or (pt_not (pt_truthK (K := K) (pe_callB (callIsU (K := K)) (by rfl) T.n_isinstance (by decide +kernel) (pa_cons (pv 9) (pa_cons (pe_bltn (v := .ty "bool") (by rfl) T.n_bool (by decide +kernel) rfl) pa_nil))) (by intro _; rfl))) (pw_or1 (pt_cmpR (opNeU (K := K) hr.units) (pv 9) (pv 8) (nomark _))))) (pss_one (ps_ret pe_bl)) pss_nil)
      (pss_cons (ps_set (i := 9) sc__law_agrees.nd rfl (by first | exact Or.inl rfl | exact Or.inr rfl) (pe_meth (pv 1) T.cl_Side T.m_Side_read G_Side_read (hr.mono (by decide)) T.b_Side_read .nil pass0 (pa_cons (pv 4) pa_nil)))
      (pss_one (ps_if (PW.pt (pw_or (PW.pt (pw_and (pt_truthK (K := K) (pv 7) (by intro _; rfl)) (pw_and1 (pt_cmpR (opNeU (K := K) hr.units) (pv 9) (pe_ix (ixU (K := K)) (pe_ix (ixU (K := K)) (pe_dget (hu_of hr) (pv 2) pe_str (fun _ _ => rfl)) (pv 4) (fun _ _ => rfl)) pe_int (fun _ _ => rfl)) (nomark _))))) (pw_or1 (PW.pt (pw_and (pt_not (pt_truthK (K := K) (pv 7) (by intro _; rfl))) (pw_and1 (pt_cmpR opNotU (pv 9) pe_non (nomark _)))))))) (pss_one (ps_ret pe_bl)) pss_nil)))))))))
      (pss_cons (ps_set (i := 10) sc__law_agrees.nd rfl (by first | exact Or.inl rfl | exact Or.inr rfl) (pe_tup (pa_cons (pe_fldK (K := K) (pe_fldK (K := K) (pv 1) rfl) rfl) (pa_cons (pe_fldK (K := K) (pe_fldK (K := K) (pv 1) rfl) rfl) pa_nil))))
      (pss_cons (ps_if (pt_cmpR (opNeU (K := K) hr.units) (pv 10) (pe_tup (pa_cons (pe_fldK (K := K) (pv 0) rfl) (pa_cons (pe_fldK (K := K) (pv 0) rfl) pa_nil))) (nomark _)) (pss_one (ps_ret pe_bl)) pss_nil)
      (pss_one (ps_ret (pe_and (pe_cmpR (opEqU (K := K) hr.units) (pe_meth0 (pv 1) T.cl_Side T.m_Side_label G_Side_label (hr.mono (by decide)) T.b_Side_label .nil pass0) (pe_call G__law_own_label (hr.mono (by decide)) rfl T.g__law_own_label T.F__law_own_label.kp T.b__law_own_label .nil pass0 (pa_cons (pv 0) (pa_cons (pe_dget (hu_of hr) (pv 2) pe_str (fun _ _ => rfl)) (pa_cons (pv 2) pa_nil)))) (nomark _)) (pe_one (pe_cmpR (opEqU (K := K) hr.units) (pe_fldK (K := K) (pv 1) rfl) (pe_dget (hu_of hr) (pv 2) pe_str (fun _ _ => rfl)) (nomark _))))))))))), ?_⟩
    try dsimp only [cxOf]
    have hOk := lays_ok L hL
    have haH := sR _ _ haf
    have ls := mw.ls
    have ln := mw.ln
    have jb : ∀ {xs : List Addr}, b ∉ xs → ∀ x ∈ xs, x ∉ [b] := fun h x hx e => h (by rw [← List.mem_singleton.mp e]; exact hx)
    obtain ⟨d, ds, ems, ⟨⟨sx, hs⟩, nin, nons, dev⟩⟩ := id hso
    obtain ⟨l1, l2, l3, eds, ⟨dx, hd⟩, ndd, nond, u1, u2, u3, h1, h2, h3, d1, d2, d3⟩ := dev
    obtain ⟨j1, j2, j3, ej, hg, ndg, nong, w1, w2, w3, k1, k2, k3, c1, c2, c3⟩ := id hmo
    have ul2 : u2.length = m.seen.length := by have := dpAll_len d2; simpa using this
    have wl3 : w3.length = m.wait.length := by have := dpAll_len c3; simpa using this
    have ul3 : u3.length = m.wait.length := by have := dpAll_len d3; simpa using this
    fail "go"
    refine g_R1W (n := m.seen.length) ln.symm (by omega) fun D nD => ?_
    have Db : D ≠ b := (ne_of_none hb nD).symm
    refine lc_range (lo := 0) (n := m.seen.length) (SetInv H D u2) ⟨(Gr.newM (M := []) sR nD).same, upd_same⟩ ?_ ?_
    · rintro i H1 hi ⟨s1, hD1⟩
      rw [Int.zero_add]
      have hs1 := s1 _ _ hs
      have hd1 := s1 _ _ hd
      have h21 := s1 _ _ h2
      obtain ⟨v, hv⟩ : ∃ v, u2[i]? = some v := ⟨u2[i], List.getElem?_eq_getElem (by omega)⟩
      clear sR haH hs hd h1 h2 h3
      refine ⟨rfl, ?_⟩
      fail "go"
      refine ⟨d, a, l1, l2, l3, u2, v, i, rfl, ⟨_, hd1⟩, SqL.of h21, hv, ?_⟩
      refine ⟨_, hD1, by rw [List.length_take]; exact Nat.lt_of_le_of_lt (show _ ≤ 1000 by omega) (by decide), fun b o e => ?_, ?_⟩
      · rw [upd_ne (ne_of_none e nD)]; exact s1 _ _ e
      · rw [upd_same, List.take_add_one, hv]; rfl
    rintro H1 ⟨s1, hD1⟩
    rw [← ul2, List.take_length] at hD1
    have gA : Mu [] R H H1 := Mu.ofSame sR s1
    have s01 := gA.g.rh
    have hs1 := s1 _ _ hs
    have hd1 := s1 _ _ hd
    have h11 := s1 _ _ h1
    have h31 := s1 _ _ h3
    have hg1 := s1 _ _ hg
    have k11 := s1 _ _ k1
    have k21 := s1 _ _ k2
    have k31 := s1 _ _ k3
    have hb1 := s1 _ _ hb
    have so1 := hso.frame gA.g (fun _ _ => List.not_mem_nil)
    have mo1 := hmo.frame gA.g (fun _ _ => List.not_mem_nil)
    have ha1 := s1 _ _ haH
    clear sR haH hs hd h1 h2 h3 hg k1 k2 k3 hso hmo s1 hb
    fail "gi"
    refine g_seqIN (fun σ H' => σ = [some (.ref a), some (.ref s), some (.ref g), some (.ref b), none, some (.ref D), none, none, none, none, none] ∧ Same H1 H') ?_ (fun N rest => ?_)
    · rintro σ H2 ⟨rfl, s2⟩
      have gB : Mu [] R H1 H2 := Mu.ofSame s01 s2
      have so2 := so1.frame gB.g (fun _ _ => List.not_mem_nil)
      have mo2 := mo1.frame gB.g (fun _ _ => List.not_mem_nil)
      have hb2 := s2 _ _ hb1
      have gC : Mu [] R H H2 := ⟨gA.g.trans gB.g⟩
      have s02 := gB.g.rh
      clear hs1 hd1 h11 h31 hg1 k11 k21 k31 so1 mo1 hb1 ha1 gB s2 s01 gA hD1
      fail "go"
      refine g_R1W (n := 4) rfl (by decide) ?_
      refine for_range (lo := 0) (n := 4) (AgInv R H2 a s g b D) ⟨none, none, none, none, none, rfl, ⟨Gr.refl s02⟩, _, hb2⟩ ?_ ?_
      · clear hb2
        rintro j σ H3 hj ⟨x4, x6, x7, x8, x9, rfl, g3, q3, h3⟩
        have s3 := g3.g.rh
        clear s02
        fail "go"
        refine ⟨by fail "sz", ?_⟩
        fail "newM"
        rename_i Ha ga hha sa Hb gb hhb sb p1 H4 n4 g4 m4 h4 s4
        have gX : Mu [b] R H2 H4 := ⟨g3.g.trans (ga.g.trans (gb.g.trans g4.g.nil))⟩
        have hb4 := g4.g.same _ _ hhb
        clear g3 ga hha sa gb hhb sb g4 h3 s3
        fail "go"
        refine g_ixL (SqL.of h4) (pick2 _) ?_
        have r1 := mod_rng q3 (show (0 : Int) < L.device + 2 by omega)
        have r2 := mod_rng (q3 / (L.device + 2)) (show (0 : Int) < 2 by decide)
        generalize hvq : (if decide (0 + (j : Int) = 3) = true then _ else _ : Int) = vq
        have vr : 0 ≤ vq ∧ vq < L.device + 2 := by rw [← hvq]; split <;> omega
        obtain ⟨ad, rfl⟩ := Int.eq_ofNat_of_zero_le vr.1
        obtain ⟨c, hc⟩ : ∃ c, m.seen[ad]? = some c := ⟨_, List.getElem?_eq_getElem (show ad < m.seen.length by omega)⟩
        obtain ⟨v, hv, dv⟩ := cells_get c2 hc
        have cw := mw.c2 c (List.mem_of_getElem? hc)
        have so4 := so2.frame gX.g (jb bms)
        have mo4 := mo2.frame gX.g (jb bgs)
        clear hvq r1 r2 h4 so2 mo2 d1 d2 d3 c1 c3
        obtain ⟨d', ds', ems', ⟨⟨sx', hs4⟩, _, _, dev4⟩⟩ := id so4
        obtain ⟨i1, i2, i3, ei, hg4, _, _, w1', w2', w3', k1', k2', k3', _, c2', _⟩ := id mo4
        obtain ⟨v', hv', dv'⟩ := cells_get c2' hc
        clear hv dv c2 dev4
        have haf4 := s4 _ _ haf
        have dvH := dp_mono s4 dv'
        fail "go"
        refine g_ixL (SqL.of k2') (atI_nat hv') ?_
        fail "go"
        refine ⟨a, v', L, ad, c, rfl, ⟨_, haf4⟩, hOk, dvH, cw, fun H5 s5 => ?_⟩
        have gY : Mu [] R H4 H5 := Mu.ofSame s4 s5
        have so5 := so4.frame gY.g (fun _ _ => List.not_mem_nil)
        have hs5 := s5 _ _ hs4
        have hg5 := s5 _ _ hg4
        have k25 := s5 _ _ k2'
        have hb5 := s5 _ _ hb4
        have gZ : Mu [b] R H2 H5 := ⟨gX.g.trans gY.g.nil⟩
        have s05 := gY.g.rh
        have dv5 := dp_mono s05 dv'
        clear so4 mo4 hs4 hg4 k1' k2' k3' hb4 gX gY s4 haf4 dvH s5
        try dsimp only
        refine g_seqN (fun σ H' => σ = [some (.ref a), some (.ref s), some (.ref g), some (.ref b), some (.int (ad : Int)), some (.ref D), some (.int (0 + (j : Int))), some (.bl (whole L ad c)), some (.bl (rottenC L ad c)), x9, none] ∧ H5 = H') ?_ (fun N rest => ?_)
        · rintro σ H6 ⟨rfl, rfl⟩
          fail "go"
          refine ⟨R, s, a, L, z, m, ms, ad, c, rfl, s05, ⟨_, haf⟩, hOk, so5, hc, cw.ok hOk, fun H6 s6 => ?_⟩
          have gY : Mu [] R H5 H6 := Mu.ofSame s05 s6
          have so6 := so5.frame gY.g (fun _ _ => List.not_mem_nil)
          have hs6 := s6 _ _ hs5
          have hg6 := s6 _ _ hg5
          have k26 := s6 _ _ k25
          have hb6 := s6 _ _ hb5
          have gW : Mu [b] R H2 H6 := ⟨gZ.g.trans gY.g.nil⟩
          have s06 := gY.g.rh
          clear so5 hs5 hg5 k25 hb5 gZ gY s05 dv5
          fail "go"
          refine g_isi (.base (.bl _)) (kit_ty (r := true) (by decide +kernel)) ⟨true, rfl, ?_⟩
          fail "go"
          refine g_neB ?_
          rw [decide_eq_true rfl]
          fail "go"
          refine ⟨R, s, a, L, z, m, ms, ad, c, rfl, s06, ⟨_, haf⟩, hOk, so6, hc, cw.ok hOk, fun v7 H7 s7 dv7 => ?_⟩
          have gY : Mu [] R H6 H7 := Mu.ofSame s06 s7
          have hg7 := s7 _ _ hg6
          have k27 := s7 _ _ k26
          have hb7 := s7 _ _ hb6
          have gV : Mu [b] R H2 H7 := ⟨gW.g.trans gY.g.nil⟩
          have s07 := gY.g.rh
          have dvH := dp_mono s07 dv'
          have dv7H := dp_mono s07 dv7
          clear so6 hs6 hg6 k26 hb6 gW gY s06 s6 s7
          fail "go"
          refine ⟨_, rfl, ?_⟩
          cases hwh : whole L (ad : Int) c with
          | true =>
            obtain ⟨bk, rfl, hrd⟩ := whole_read hwh
            rw [hrd] at dv7H
            obtain ⟨t, x, y, rfl, ht, hx, hy⟩ := dpT2 dvH
            fail "go"
            refine g_ixL (SqL.of k27) (atI_nat hv') ?_
            fail "go"
            refine g_neDa (d := bk.d) (e := bk.d) dv7H hx (la_shaped (la_blk _)) (la_shaped (la_blk bk)) (by obtain ⟨tt, uu, rfl, _⟩ := dpBlk dv7H; exact .inl ⟨_, rfl⟩) ?_
            rw [eqv_same (clean_blk bk)]
            fail "go"
            refine ⟨_, rfl, ?_⟩
            fail "go"
            exact ⟨_, _, _, _, _, rfl, gV, _, hb7⟩
          | false =>
            rw [readC_none hwh] at dv7H
            obtain rfl := dp_non dv7H
            fail "go"
            refine ⟨_, rfl, ?_⟩
            fail "go"
            exact ⟨_, _, _, _, _, rfl, gV, _, hb7⟩
        · fail "go"
          refine g_ixL (SqL.of k25) (atI_nat hv') ?_
          rcases c with _ | ⟨bo, kk⟩
          · obtain rfl := dp_non dv5
            fail "go"
            exact rest _ _ ⟨rfl, rfl⟩
          · obtain ⟨t, x, y, rfl, ht, hx, hy⟩ := dpT2 dv5
            fail "go"
            exact rest _ _ ⟨rfl, rfl⟩
      · rintro σ H3 ⟨x4, x6, x7, x8, x9, rfl, g3, q3, h3⟩
        have so3 := so2.frame g3.g (jb bms)
        have mo3 := mo2.frame g3.g (jb bgs)
        obtain ⟨d', ds', ems', ⟨⟨sx', hs3⟩, _, _, dev3⟩⟩ := id so3
        obtain ⟨i1, i2, i3, ei, hg3, _⟩ := id mo3
        have s3 := g3.g.rh
        have haf3 := s3 _ _ haf
        have gD : Mu [b] R H H3 := ⟨gC.g.nil.trans g3.g⟩
        clear so2 mo2 hb2 gC s02 g3 dev3
        fail "go"
        refine ⟨by fail "sz", ?_⟩
        fail "newM"
        rename_i p4 H4 n4 g4 m4 h4 s4
        have haf4 := s4 _ _ haf
        fail "go"
        refine ⟨by fail "sz", ?_⟩
        fail "newM"
        rename_i p5 H5 n5 g5 m5 h5 s5
        refine g_neDa (d := intsD [L.device, L.oct]) (e := intsD [L.device, L.oct]) (.tup (SqT.of (g5.g.same _ _ h4)) (dpAll_ints [L.device, L.oct])) (.tup (SqT.of h5) (dpAll_ints [L.device, L.oct])) (la_shaped (la_tup (n := 0) la_ints)) (la_shaped (la_tup (n := 0) la_ints)) (.inl ⟨_, rfl⟩) ?_
        rw [eqv_same (by rw [intsD, clean]; exact clean_ints _)]
        have gg : Gr [] R H3 R H5 := g4.g.trans g5.g
        have so5 := so3.frame gg (fun _ _ => List.not_mem_nil)
        have mo5 := mo3.frame gg (fun _ _ => List.not_mem_nil)
        have hs5 := gg.same _ _ hs3
        have hg5 := gg.same _ _ hg3
        have gE : Mu [b] R H H5 := ⟨gD.g.trans gg.nil⟩
        clear g4 g5 gg gD h4 h5 s4 so3 mo3 hs3 hg3 s3 haf3 haf4
        fail "go"
        have lab : LabOk L m := ⟨mw.ln, ⟨by omega, by omega⟩, fun c hc => ⟨(mw.c2 c hc).ok hOk, (mw.c2 c hc).octblk hOk⟩⟩
        refine ⟨R, s, a, L, z, m, ms, rfl, s5, ⟨_, haf⟩, hOk, so5, lab, fun v6 H6 s6 dv6 => ?_⟩
        have gY : Mu [] R H5 H6 := Mu.ofSame s5 s6
        have mo6 := mo5.frame gY.g (fun _ _ => List.not_mem_nil)
        have hs6 := s6 _ _ hs5
        have hg6 := s6 _ _ hg5
        have gF : Mu [b] R H H6 := ⟨gE.g.trans gY.g.nil⟩
        have s06 := gY.g.rh
        clear so5 mo5 hs5 hg5 gY gE s6
        fail "go"
        refine ⟨R, a, g, L, z, z, m, gs, rfl, s06, ⟨_, haf⟩, hOk, by omega, mo6, mw, z0, z3, fun v7 H7 s7 dv7 => ?_⟩
        have gY : Mu [] R H6 H7 := Mu.ofSame s06 s7
        have hs7 := s7 _ _ hs6
        have hg7 := s7 _ _ hg6
        have gG : Mu [b] R H H7 := ⟨gF.g.trans gY.g.nil⟩
        have dv67 := dp_mono s7 dv6
        have nn : (∃ a, v6 = .ref a) ∨ v6 = .non := by
          rcases lbV dv6 with ⟨_, h⟩ | ⟨_, t, _, h⟩
          · exact .inr h
          · exact .inl ⟨t, h⟩
        clear hs6 hg6 gY gF s06 mo6 dv6
        fail "go"
        refine g_eqDa dv67 dv7 (la_shaped (la_lbD _)) (la_shaped (la_lbD _)) nn ?_
        rw [eqv_same (clean_lbD _)]
        fail "go"
        rw [show decide (z = z) = true from decide_eq_true rfl]
        exact hq _ gG.g
    · fail "go"
      refine g_neCells (SqL.of hD1) (SqL.of k21) (dpAll_mono s01 d2) (dpAll_mono s01 c2) ?_
      fail "go"
      refine ⟨d, a, l1, l2, l3, u1, rfl, ⟨_, hd1⟩, h11, ?_⟩
      fail "newM"
      rename_i p2 H2 n2 g2 m2 h2 s2
      have k12 := g2.g.same _ _ k11
      have hg2 := g2.g.same _ _ hg1
      have hs2 := g2.g.same _ _ hs1
      have hd2 := g2.g.same _ _ hd1
      have k32 := g2.g.same _ _ k31
      have h32 := g2.g.same _ _ h31
      have s12 := g2.g.same
      clear g2 hg1 hs1 hd1 k11 k31 h31 k21 h11 hD1
      fail "go"
      refine g_neCells (SqL.of h2) (SqL.of k12) (dpAll_mono s2 d1) (dpAll_mono s2 c1) ?_
      fail "go"
      refine ⟨s, d, a, l1, l2, l3, z, u3, rfl, ⟨_, hs2⟩, ⟨_, hd2⟩, h32, ?_⟩
      fail "go"
      rw [ul3, wl3]
      rw [show decide ((m.wait.length : Int) = (m.wait.length : Int)) = true from decide_eq_true rfl]
      fail "go"
      exact rest _ _ ⟨rfl, s12⟩
end
def spLaw (K : PySem.W.Frag) : Sp := fun vs H Q _ => ∃ (a : Addr) (ns : List Int), vs = [.ref a] ∧ SqL K H a (ns.map V.int) ∧ ns.length ≤ 63 ∧ ∀ H', Q (.bl true) H'
theorem lays_dev : ∀ L ∈ lays, 0 < L.device ∧ L.device < 120 := by
  intro L h
  simp only [lays, List.mem_cons, List.not_mem_nil, or_false] at h
  rcases h with rfl | rfl | rfl | rfl | rfl | rfl <;> exact ⟨by decide, by decide⟩
def Inv1 (K : PySem.W.Frag) (L : Lay) (R0 H0 : Hp) (a b p D : Addr) (seat : Int) (_ : Nat) (σ : St) (H : Hp) : Prop := ∃ (R1 : Hp) (us : List V) (cs : List Cell) (x5 x6 x7 : Option V),
  σ = [some (.ref a), some (.ref b), some (.ref p), some (.int seat), some (.ref D), x5, x6, x7, none, none, none, none, none] ∧ Gr [D] R0 H0 R1 H ∧ H D = some (.lst us) ∧ DpAll K R1 us (cs.map cellD) ∧ (cs.length : Int) = L.device + 2 ∧ (∀ c ∈ cs, CW L c)
def Inv2 (K : PySem.W.Frag) (CS CD : Addr) (L : Lay) (R0 : Hp) (a p D P : Addr) (seat : Int) (j : Nat) (σ : St) (H : Hp) : Prop := ∃ (R1 : Hp) (s g : Addr) (m : Rows) (ms gs : List Addr) (x1 x5 x6 x7 x11 x12 : Option V),
  σ = [some (.ref a), x1, some (.ref p), some (.int seat), some (.ref D), x5, x6, x7, some (.ref P), some (.ref s), some (.ref g), x11, x12] ∧ Same R0 R1 ∧ Same R1 H ∧ SideOk K CS CD R1 H s p seat m ms ∧ ModOk K R1 H g seat m gs ∧ Dj ms gs ∧ RsW L j m
def LeftOk (K : PySem.W.Frag) (CS CD : Addr) (L : Lay) (R H : Hp) (p b : Addr) (seat : Int) (xl xk : V) (ms gs : List Addr) : Prop := xl = .non ∨ ∃ s0 g0 m0 ms0 gs0, xl = .ref s0 ∧ xk = .ref g0 ∧ SideOk K CS CD R H s0 p seat m0 ms0 ∧ ModOk K R H g0 seat m0 gs0 ∧ RsW L 100 m0 ∧ Dj ms0 (b :: (ms ++ gs)) ∧ Dj gs0 (b :: (ms ++ gs))
theorem LeftOk.frame {K : PySem.W.Frag} {CS CD : Addr} {L : Lay} {R H R' H' : Hp} {p b b' : Addr} {seat : Int} {xl xk : V} {ms gs ms' gs' M : List Addr} (h : LeftOk K CS CD L R H p b seat xl xk ms gs) (g : Gr M R H R' H') (hM : ∀ x ∈ M, x ∈ b :: (ms ++ gs) ∨ H x = none) (nb : b' = b ∨ H b' = none) (n1 : Nw H ms ms') (n2 : Nw H gs gs') : LeftOk K CS CD L R' H' p b' seat xl xk ms' gs' := by
  rcases h with h | ⟨s0, g0, m0, ms0, gs0, e1, e2, so, mo, mw, d1, d2⟩
  · exact .inl h
  · have key : ∀ xs : List Addr, (∀ x ∈ xs, ∃ o, H x = some o) → Dj xs (b :: (ms ++ gs)) → Dj xs (b' :: (ms' ++ gs')) := fun xs has dj x hx hn => by
      obtain ⟨o, ho⟩ := has x hx
      have no : ¬ H x = none := fun z => by rw [z] at ho; cases ho
      rcases List.mem_cons.mp hn with rfl | hn
      · rcases nb with rfl | nb
        · exact dj x hx List.mem_cons_self
        · exact no nb
      · rcases List.mem_append.mp hn with hn | hn
        · rcases n1 x hn with q | q
          · exact dj x hx (by simp [q])
          · exact no q
        · rcases n2 x hn with q | q
          · exact dj x hx (by simp [q])
          · exact no q
    have fr : ∀ xs : List Addr, (∀ x ∈ xs, ∃ o, H x = some o) → Dj xs (b :: (ms ++ gs)) → ∀ x ∈ xs, x ∉ M := fun xs has dj x hx hn => by
      rcases hM x hn with q | q
      · exact dj x hx q
      · obtain ⟨o, ho⟩ := has x hx; rw [q] at ho; cases ho
    exact .inr ⟨s0, g0, m0, ms0, gs0, e1, e2, so.frame g (fr _ so.has d1), mo.frame g (fr _ mo.has d2), mw, key _ so.has d1, key _ mo.has d2⟩
local macro_rules | `(tactic| fail "calls") => `(tactic| ((with_reducible show spTake _ _ _ _); refine ⟨_, _, _, rfl, by fail "hp", by fail "ar", by fail "ar", ?_⟩; fail "mut"))
section
variable {P : Program} {w : World} {K : PySem.W.Frag} {mg : Str → Option Value} {base : Heap}
theorem ok_law (T : Txt P K mg) : FnOk P w K mg base CX0 11 T.f_law T.fd_law ["script"] (spLaw K) := by
  have cl_Layout := T.cl_Layout
  have cl_Side := T.cl_Side
  have a_Layout_device_blocks := T.a_Layout_device_blocks
  have a_Side_device := T.a_Side_device
  have G__law_number := ok__law_number (P := P) (w := w) (base := base) T
  have G__law_layout := ok__law_layout (P := P) (w := w) (base := base) T
  have G__law_take := ok__law_take (P := P) (w := w) (base := base) T
  have G__law_cell := ok__law_cell (P := P) (w := w) (base := base) T
  have G_Side___init__ := ok_Side___init__ (P := P) (w := w) (base := base) T
  have G__law_copy := ok__law_copy (P := P) (w := w) (base := base) T
  have G__law_next := ok__law_next (P := P) (w := w) (base := base) T
  have G__law_deed := ok__law_deed (P := P) (w := w) (base := base) T
  have G__law_agrees := ok__law_agrees (P := P) (w := w) (base := base) T
  have G_Device_sure_blocks := ok_Device_sure_blocks (P := P) (w := w) (base := base) T
  refine T.F_law.ok sc_law (fun vs H Q E h => ?_) (fun cdv A outer s H vs Q E hr h => ?_)
  · obtain ⟨a, ns, rfl, hS, hlen, hq⟩ := h
    rfl
  · obtain ⟨a, ns, rfl, hS, hlen, hq⟩ := h
    refine ⟨_, (pss_cons (ps_set (i := 1) sc_law.nd rfl (by first | exact Or.inl rfl | exact Or.inr rfl) (pe_lst (pa_cons (pe_call G__law_number (hr.mono (by decide)) rfl T.g__law_number T.F__law_number.kp T.b__law_number .nil pass0 (pa_cons (pv 0) (pa_cons pe_int pa_nil))) pa_nil)))
      (pss_cons (ps_set (i := 2) sc_law.nd rfl (by first | exact Or.inl rfl | exact Or.inr rfl) (pe_call G__law_layout (hr.mono (by decide)) rfl T.g__law_layout T.F__law_layout.kp T.b__law_layout .nil pass0 (pa_cons (pv 1) pa_nil)))
      (pss_cons (ps_set (i := 3) sc_law.nd rfl (by first | exact Or.inl rfl | exact Or.inr rfl) (pe_call G__law_take (hr.mono (by decide)) rfl T.g__law_take T.F__law_take.kp T.b__law_take .nil pass0 (pa_cons (pv 1) (pa_cons pe_int pa_nil))))
      (pss_cons (ps_set (i := 4) sc_law.nd rfl (by first | exact Or.inl rfl | exact Or.inr rfl) (pe_op opMultU (pe_lst (pa_cons pe_non pa_nil)) (pe_op (opAddU (K := K)) (pe_fldK (K := K) (pv 2) rfl) pe_int)))
      (pss_cons (ps_for PassesOwn.never rfl (pi_range1 rfl T.n_range (pa_cons (pe_call G__law_take (hr.mono (by decide)) rfl T.g__law_take T.F__law_take.kp T.b__law_take .nil pass0 (pa_cons (pv 1) (pa_cons pe_int pa_nil))) pa_nil)) (pg_name (i := 5) sc_law.nd rfl (by first | exact Or.inl rfl | exact Or.inr rfl)) (pss_cons (ps_set (i := 6) sc_law.nd rfl (by first | exact Or.inl rfl | exact Or.inr rfl) (pe_lst (pa_cons (pe_call G__law_number (hr.mono (by decide)) rfl T.g__law_number T.F__law_number.kp T.b__law_number .nil pass0 (pa_cons (pv 0) (pa_cons (pe_op (opAddU (K := K)) pe_int (pv 5)) pa_nil))) pa_nil)))
      (pss_cons (ps_set (i := 7) sc_law.nd rfl (by first | exact Or.inl rfl | exact Or.inr rfl) (pe_ix (ixU (K := K)) (pe_lst (pa_cons (pe_call G__law_take (hr.mono (by decide)) rfl T.g__law_take T.F__law_take.kp T.b__law_take .nil pass0 (pa_cons (pv 6) (pa_cons (pe_op (opAddU (K := K)) (pe_fldK (K := K) (pv 2) rfl) pe_int) pa_nil))) (pa_cons (pe_call G__law_take (hr.mono (by decide)) rfl T.g__law_take T.F__law_take.kp T.b__law_take .nil pass0 (pa_cons (pv 6) (pa_cons pe_int pa_nil))) pa_nil))) (pe_call G__law_take (hr.mono (by decide)) rfl T.g__law_take T.F__law_take.kp T.b__law_take .nil pass0 (pa_cons (pv 6) (pa_cons pe_int pa_nil))) (fun _ _ => rfl)))
      (pss_one (ps_asg (pe_call G__law_cell (hr.mono (by decide)) rfl T.g__law_cell T.F__law_cell.kp T.b__law_cell .nil pass0 (pa_cons (pv 2) (pa_cons (pv 7) (pa_cons (pv 6) pa_nil)))) (pg_sub (pv 4) (pv 7) set_list))))))
      (pss_cons (ps_set (i := 8) sc_law.nd rfl (by first | exact Or.inl rfl | exact Or.inr rfl) (pe_callTy (callListU (K := K)) (by rfl) T.n_list (by decide +kernel) (pa_cons (pv 4) pa_nil)))
      (pss_cons (ps_set (i := 9) sc_law.nd rfl (by first | exact Or.inl rfl | exact Or.inr rfl) (pe_make T.mk_Side G_Side___init__ (hr.mono (by decide)) rfl T.g_Side T.b_Side___init__ .nil pass0 (pa_cons (pv 2) (pa_cons (pv 3) (pa_cons (pv 8) pa_nil)))))
      (pss_cons (ps_asg pe_int (pg_sub (pv 8) pe_int set_list))
      (pss_cons (ps_set (i := 10) sc_law.nd rfl (by first | exact Or.inl rfl | exact Or.inr rfl) (pe_disp (pps_cons pe_str (pv 3) (pps_cons pe_str (pe_callTy (callListU (K := K)) (by rfl) T.n_list (by decide +kernel) (pa_cons (pv 4) pa_nil)) (pps_cons pe_str (pe_callTy (callListU (K := K)) (by rfl) T.n_list (by decide +kernel) (pa_cons (pv 4) pa_nil)) (pps_cons pe_str (pe_lst pa_nil) pps_nil)))) (by rfl) (by rfl) (by simp) (by decide)))
      (pss_cons (ps_for PassesOwn.never rfl (pi_range1 rfl T.n_range (pa_cons pe_int pa_nil)) (pg_name (i := 5) sc_law.nd rfl (by first | exact Or.inl rfl | exact Or.inr rfl)) (pss_cons (ps_set (i := 1) sc_law.nd rfl (by first | exact Or.inl rfl | exact Or.inr rfl) (pe_lst (pa_cons (pe_call G__law_number (hr.mono (by decide)) rfl T.g__law_number T.F__law_number.kp T.b__law_number .nil pass0 (pa_cons (pv 0) (pa_cons (pe_op (opAddU (K := K)) pe_int (pv 5)) pa_nil))) pa_nil)))
      (pss_cons (ps_set (i := 11) sc_law.nd rfl (by first | exact Or.inl rfl | exact Or.inr rfl) pe_non)
      (pss_cons (ps_set (i := 12) sc_law.nd rfl (by first | exact Or.inl rfl | exact Or.inr rfl) pe_non)
      (pss_cons (ps_if (pt_cmpR (opEqU (K := K) hr.units) (pe_call G__law_take (hr.mono (by decide)) rfl T.g__law_take T.F__law_take.kp T.b__law_take .nil pass0 (pa_cons (pv 1) (pa_cons pe_int pa_nil))) pe_int (nomark _)) (pss_cons (ps_set (i := 11) sc_law.nd rfl (by first | exact Or.inl rfl | exact Or.inr rfl) (pv 9))
      (pss_cons (ps_set (i := 12) sc_law.nd rfl (by first | exact Or.inl rfl | exact Or.inr rfl) (pe_call G__law_copy (hr.mono (by decide)) rfl T.g__law_copy T.F__law_copy.kp T.b__law_copy .nil pass0 (pa_cons (pv 10) pa_nil)))
      (pss_one (ps_asg (pe_call G__law_next (hr.mono (by decide)) rfl T.g__law_next T.F__law_next.kp T.b__law_next .nil pass0 (pa_cons (pv 11) (pa_cons (pv 10) (pa_cons (pv 1) pa_nil)))) (pg_lstK (K := K) rfl (pgs_cons (pg_name (i := 9) sc_law.nd rfl (by first | exact Or.inl rfl | exact Or.inr rfl)) (pgs_cons (pg_name (i := 10) sc_law.nd rfl (by first | exact Or.inl rfl | exact Or.inr rfl)) pgs_nil))))))) pss_nil)
      (pss_cons (ps_expr (pe_call G__law_deed (hr.mono (by decide)) rfl T.g__law_deed T.F__law_deed.kp T.b__law_deed .nil pass0 (pa_cons (pv 2) (pa_cons (pv 9) (pa_cons (pv 10) (pa_cons (pv 1) pa_nil))))))
      (pss_cons (ps_if (pt_not (pt_truthK (K := K) (pe_call G__law_agrees (hr.mono (by decide)) rfl T.g__law_agrees T.F__law_agrees.kp T.b__law_agrees .nil pass0 (pa_cons (pv 2) (pa_cons (pv 9) (pa_cons (pv 10) (pa_cons (pe_lst (pa_cons (pe_call G__law_number (hr.mono (by decide)) rfl T.g__law_number T.F__law_number.kp T.b__law_number .nil pass0 (pa_cons (pv 0) (pa_cons (pe_op (opAddU (K := K)) pe_int (pv 5)) pa_nil))) pa_nil)) pa_nil))))) (by intro _; rfl))) (pss_one (ps_ret pe_bl)) pss_nil)
      (pss_one (ps_if (PW.pt (pw_and (pt_cmpR opNotU (pv 11) pe_non (nomark _)) (pw_and1 (pt_not (pt_truthK (K := K) (pe_call G__law_agrees (hr.mono (by decide)) rfl T.g__law_agrees T.F__law_agrees.kp T.b__law_agrees .nil pass0 (pa_cons (pv 2) (pa_cons (pv 11) (pa_cons (pv 12) (pa_cons (pe_lst (pa_cons (pe_call G__law_number (hr.mono (by decide)) rfl T.g__law_number T.F__law_number.kp T.b__law_number .nil pass0 (pa_cons (pv 0) (pa_cons (pe_op (opAddU (K := K)) pe_int (pv 5)) pa_nil))) pa_nil)) pa_nil))))) (by intro _; rfl)))))) (pss_one (ps_ret pe_bl)) pss_nil)))))))))
      (pss_one (ps_ret (pe_cmpR (opEqU (K := K) hr.units) (pe_meth0 (pe_fldK (K := K) (pe_make T.mk_Side G_Side___init__ (hr.mono (by decide)) rfl T.g_Side T.b_Side___init___2 T.d_Side___init___2 pass0 (pa_cons (pv 2) (pa_cons (pv 3) pa_nil))) rfl) T.cl_Device T.m_Device_sure_blocks G_Device_sure_blocks (hr.mono (by decide)) T.b_Device_sure_blocks .nil pass0) (pe_op opMultU (pe_lst (pa_cons pe_non pa_nil)) (pe_op (opAddU (K := K)) (pe_fldK (K := K) (pv 2) rfl) pe_int)) (nomark _)))))))))))))), ?_⟩
    try dsimp only [cxOf]
    have r0 := Same.refl H
    fail "go"
    refine ⟨_, _, _, rfl, hS, by omega, ?_⟩
    fail "go"
    refine ⟨by fail "sz", ?_⟩
    fail "newM"
    rename_i b H1 n1 g1 m1 h1 s1
    fail "go"
    refine ⟨H, b, _, rfl, s1, m1, h1, fun p H2 L s2 np hb2 ha hL => ?_⟩
    obtain ⟨m, hb2⟩ := hb2
    obtain ⟨lx, haf⟩ := ha
    have hOk := lays_ok L hL
    obtain ⟨d0, d1⟩ := lays_dev L hL
    have pb : p ≠ b := by rintro rfl; rw [haf] at hb2; cases hb2
    have sHW : Same H (wo H2 b) := same_wo s2 m1
    have haf2 : wo H2 b p = some (.ins T.C_Layout lx L.flds) := by unfold wo; rw [if_neg pb]; exact haf
    have hS2 := sqL_mono sHW hS
    have Wb : wo H2 b b = none := wo_self
    have sW : Same (wo H2 b) H2 := wo_same
    generalize wo H2 b = R2 at sHW haf2 hS2 Wb sW
    clear haf sHW s2 s1 g1 h1 n1 r0 hS
    fail "go"
    rename_i H3 g3 h3 s3
    have c0 := mod_rng m (show (0 : Int) < 3 by decide)
    generalize m % 3 = seat at c0 ⊢
    clear g3
    refine ⟨by fail "sz", ?_⟩
    fail "newM"
    rename_i p4 H4 n4 g4 m4 h4 s4
    have hb4 := g4.g.same _ _ h3
    clear g4 h3 s3 hb2 sW
    fail "go"
    refine g_rep h4 (by omega) (by omega) (by simp only [List.length_cons, List.length_nil]; fail "sz") ?_
    rw [show (List.replicate (L.device + 2).toNat [V.non]).flatten = List.replicate (L.device + 2).toNat V.non by simp]
    fail "newM"
    rename_i D H5 n5 g5 m5 h5 s5
    have hb5 := g5.g.same _ _ hb4
    have Db : D ∉ [b] := by rw [List.mem_singleton]; exact (ne_of_none hb4 n5).symm
    clear g5 h4 s4 hb4
    fail "go"
    rename_i H6 g6 h6 s6
    have hD6 := g6.g.hh _ _ Db h5
    have mN := mod_rng (m / 3) (show (0 : Int) < 12 by decide)
    clear g6 h5 s5 hb5
    refine g_R1W (n := (m / 3 % 12).toNat) (by omega) (by omega) ?_
    refine for_range (lo := 0) (n := (m / 3 % 12).toNat) (Inv1 K L R2 H6 a b p D seat) ⟨R2, _, List.replicate (L.device + 2).toNat none, none, none, none, rfl, Gr.refl s6, hD6, dp_nones _, by rw [List.length_replicate]; omega, fun c hc => by rw [List.eq_of_mem_replicate hc]; trivial⟩ ?_ ?_
    · have R2D : R2 D = none := m5
      have frD : ∀ {R1 H8 : Hp}, Gr [D] R2 H6 R1 H8 → R1 D = none := fun g => g.fr _ _ hD6 m5
      clear h6 hD6 s6
      rintro i σ H8 hi ⟨R1, us, cs, x5, x6, x7, rfl, gA, hD, du, clen, cx⟩
      rw [Int.zero_add]
      have haf1 := gA.rr _ _ haf2
      have hS1 := sqL_mono gA.rr hS2
      have R1D := frD gA
      have s18 := gA.rh
      have ul : us.length = cs.length := by have := dpAll_len du; simpa using this
      fail "go"
      refine ⟨_, _, _, rfl, sqL_mono s18 hS1, by omega, ?_⟩
      fail "go"
      refine ⟨by fail "sz", ?_⟩
      fail "newM"
      rename_i q H9 n9 g9 m9 h9 s9
      generalize lawNumber ns (50 + (i : Int)) = N at h9
      have hD9 := g9.g.same _ _ hD
      have Dq : D ≠ q := ne_of_none hD n9
      have gB : Mu [q] R1 H8 H9 := ⟨g9.g.nil⟩
      clear g9 s18
      fail "go"
      refine ⟨by fail "sz", ?_⟩
      fail "newM"
      rename_i Ha ga hha sa Hb gb hhb sb p2 H10 n10 g10 m10 h10 s10
      have pq : p2 ≠ q := (ne_of_none hhb n10).symm
      have gx : Gr [q] R1 H9 R1 H10 := ga.g.trans (gb.g.trans g10.g.nil)
      have hD10 := gx.hh _ _ (nin1 Dq) hD9
      have hq10 := g10.g.same _ _ hhb
      have gC : Mu [q] R1 H8 H10 := ⟨gB.g.trans gx⟩
      clear ga hha sa gb hhb sb g10 gx hD9 h9 s9 gB n10
      fail "go"
      rename_i H11 g11 h11 s11
      have hp11 := g11.g.hh _ _ (nin1 pq) h10
      have hD11 := g11.g.hh _ _ (nin1 Dq) hD10
      have gD : Mu [q] R1 H8 H11 := ⟨gC.g.trans g11.g⟩
      clear g11 h10 hD10 hq10 gC s10 pq
      have r1 := mod_rng N (show (0 : Int) < L.device + 2 by omega)
      have r2 := mod_rng (N / (L.device + 2)) (show (0 : Int) < 5 by decide)
      obtain ⟨ad, hp1, hp2⟩ := pickT (x := N % (L.device + 2)) (y := N / (L.device + 2) % 5) (mod_rng (N / (L.device + 2) / 5) (show (0 : Int) < 2 by decide))
      refine g_ixL (SqL.of hp11) hp1 ?_
      have dbig : 20 ≤ L.device := by
        have : ∀ L ∈ lays, 20 ≤ L.device := by decide
        exact this L hL
      have vr : 0 ≤ ad ∧ ad < L.device + 2 := by rcases hp2 with rfl | rfl <;> omega
      obtain ⟨n, rfl⟩ := Int.eq_ofNat_of_zero_le vr.1
      clear hp1 hp2 r1 r2 hp11
      fail "go"
      refine ⟨R1, p, q, L, (n : Int), _, rfl, s11, ⟨_, haf1⟩, hL, m9, h11, ?_⟩
      rintro v R3 H12 c g12 ⟨m12, hq12⟩ dc ccx
      have hD12 := g12.hh _ _ (nin1 Dq) hD11
      have gE : Gr [] R1 H8 R3 H12 := (gD.g.trans g12).forget (by intro y hy hn; rw [List.mem_singleton.mp hy]; exact n9)
      have s12 := gE.rh
      have R3D := gE.fr _ _ hD R1D
      clear g12 gD hD11 h11 s11
      fail "go"
      refine g_setL (j := n) hD12 (ixN_nat (by omega)) ?_
      fail "mut"
      rename_i H13 g13 hD13 s13
      refine ⟨R3, us.set n v, cs.set n c, _, _, _, rfl, gA.trans (gE.nil.trans g13.g), hD13, ?_, by rw [List.length_set]; exact clen, fun c' h => ?_⟩
      · rw [List.map_set]
        exact dpAll_set n (dpAll_mono gE.rr du) dc
      · rcases List.mem_or_eq_of_mem_set h with h | rfl
        · exact cx _ h
        · exact ccx
    · rintro σ H8 ⟨R1, us, cs, x5, x6, x7, rfl, gA, hD, du, clen, cx⟩
      have haf1 := gA.rr _ _ haf2
      have hS1 := sqL_mono gA.rr hS2
      have s8 := gA.rh
      have ul : us.length = cs.length := by have := dpAll_len du; simpa using this
      clear gA h6 hD6 s6 haf2 hS2 m5 Wb
      fail "go"
      refine g_listL (SqL.of hD) ?_
      fail "newM"
      rename_i P H9 n9 g9 m9 h9 s9
      have hD9 := g9.g.same _ _ hD
      have DP : D ≠ P := ne_of_none hD n9
      clear g9 s8 hD
      fail "go"
      intro x dx nx ndx nex
      have ms := made_same (C := T.C_Side) nx ndx
      have hPm := ms _ _ h9
      refine ⟨R1, x, dx, p, seat, .ref P, us, L, rfl, s9.trans ms, s9.free nx, upd_same, ⟨_, haf1⟩, hOk, ⟨by omega, by omega⟩, .inl ⟨P, rfl, SqL.of hPm⟩, fun HA d l1 l2 l3 g nd n1 n2 n3 e12 e13 e23 edx hs hd e1 e2 e3 => ⟨rfl, ?_⟩⟩
      obtain ⟨gN, fN, so⟩ := side_new (cs := cs) s9 nx ndx g nd n1 n2 n3 e12 e13 e23 hs hd e1 e2 e3 du
      have hDA := gN.same _ _ hD9
      have hPA := gN.same _ _ h9
      have Pn : P ∉ [x, d, l1, l2, l3] := nin_new fN h9
      have sA := gN.rh
      have RP := gN.fr _ _ h9 m9
      clear g gN fN hs hd e1 e2 e3 hPm ms h9 hD9 s9 n1 n2 n3 nd nx ndx
      fail "go"
      refine g_setL (j := 0) (k := 0) hPA (ixN_nat (j := 0) (by omega)) ?_
      fail "mut"
      rename_i HB gB hPB sB
      have so2 := so.frame gB.g (fun y hy hn => Pn (by rw [← List.mem_singleton.mp hn]; exact hy))
      have hDB := gB.g.hh _ _ (nin1 DP) hDA
      clear so gB hDA hPA sA Pn
      fail "go"
      fail "newM"
      rename_i y HC ny gC my hyC sC
      have hDC := gC.g.same _ _ hDB
      have so3 := so2.frame gC.g (fun _ _ => List.not_mem_nil)
      have ySo : y ∉ [x, d, l1, l2, l3] := fun h => by obtain ⟨o, ho⟩ := so2.has y h; rw [show HB y = none from ny] at ho; cases ho
      clear so2 gC hDB sB hPB
      fail "go"
      refine g_listL (SqL.of hDC) ?_
      fail "newM"
      rename_i p1 HD' np1 gD mp1 hp1 sD
      have hDD := gD.g.same _ _ hDC
      have hyD := gD.g.same _ _ hyC
      have so4 := so3.frame gD.g (fun _ _ => List.not_mem_nil)
      have yp1 := ne_of_none hyC np1
      have p1So : p1 ∉ [x, d, l1, l2, l3] := fun h => by obtain ⟨o, ho⟩ := so3.has p1 h; rw [show HC p1 = none from np1] at ho; cases ho
      clear so3 gD hDC hyC sC
      fail "go"
      refine g_listL (SqL.of hDD) ?_
      fail "newM"
      rename_i p2 HE np2 gE mp2 hp2 sE
      have hp1E := gE.g.same _ _ hp1
      have hyE := gE.g.same _ _ hyD
      have so5 := so4.frame gE.g (fun _ _ => List.not_mem_nil)
      have yp2 := ne_of_none hyD np2
      have p12 := ne_of_none hp1 np2
      have p2So : p2 ∉ [x, d, l1, l2, l3] := fun h => by obtain ⟨o, ho⟩ := so4.has p2 h; rw [show HD' p2 = none from np2] at ho; cases ho
      clear so4 gE hDD hyD sD hp1
      fail "go"
      refine ⟨by fail "sz", ?_⟩
      fail "newM"
      rename_i p3 HF np3 gF mp3 hp3 sF
      have hp1F := gF.g.same _ _ hp1E
      have hp2F := gF.g.same _ _ hp2
      have hyF := gF.g.same _ _ hyE
      have so6 := so5.frame gF.g (fun _ _ => List.not_mem_nil)
      have yp3 := ne_of_none hyE np3
      have p13 := ne_of_none hp1E np3
      have p23 := ne_of_none hp2 np3
      have p3So : p3 ∉ [x, d, l1, l2, l3] := fun h => by obtain ⟨o, ho⟩ := so5.has p3 h; rw [show HE p3 = none from np3] at ho; cases ho
      clear so5 gF hyE sE hp1E hp2
      fail "go"
      refine ⟨hyF, [(.inr "seat", .int seat), (.inr "sure", .ref p1), (.inr "seen", .ref p2), (.inr "waiting", .ref p3)], rfl, by simp, ?_⟩
      fail "go"
      fail "mut"
      rename_i HG gG hyG sG
      have so7 := so6.frame gG.g (fun q hq hn => ySo (by rw [← List.mem_singleton.mp hn]; exact hq))
      have mo7 : ModOk K R1 HG y seat ⟨cs, cs, []⟩ [y, p1, p2, p3] := ⟨p1, p2, p3, rfl, ⟨hyG, mk_nod4 yp1 yp2 yp3 p12 p13 p23, fun q hq => by
        simp only [List.mem_cons, List.not_mem_nil, or_false] at hq
        rcases hq with rfl | rfl | rfl | rfl
        · exact my
        · exact mp1
        · exact mp2
        · exact mp3, us, us, [], gG.g.hh _ _ (nin1 yp1.symm) hp1F, gG.g.hh _ _ (nin1 yp2.symm) hp2F, gG.g.hh _ _ (nin1 yp3.symm) hp3, du, du, .nil⟩⟩
      have dj7 : Dj [x, d, l1, l2, l3] [y, p1, p2, p3] := fun q hx hq => by
        simp only [List.mem_cons, List.not_mem_nil, or_false] at hq
        rcases hq with rfl | rfl | rfl | rfl
        · exact ySo hx
        · exact p1So hx
        · exact p2So hx
        · exact p3So hx
      have mw7 : RsW L 0 ⟨cs, cs, []⟩ := ⟨clen, clen, Nat.le_refl 0, fun q hq => absurd hq List.not_mem_nil, cx, cx, fun q hq => absurd hq List.not_mem_nil⟩
      clear so6 gG hyF sF hp1F hp2F hp3 hyG
      refine g_R1W (n := 40) rfl (by decide) ?_
      refine for_range (lo := 0) (n := 40) (Inv2 K T.C_Side T.C_Device L R1 a p D P seat) ⟨R1, x, y, _, _, _, _, _, _, _, none, none, rfl, Same.refl R1, sG, so7, mo7, dj7, mw7⟩ ?_ ?_
      · clear so7 mo7 dj7 mw7 sG du
        rintro j σ H20 hj ⟨R3, s, g, m', ms, gs, x1, x5, x6, x7, x11, x12, rfl, s13, s20, so, mo, dj, mw⟩
        rw [Int.zero_add]
        have haf3 := s13 _ _ haf1
        have hS3 := sqL_mono s13 hS1
        fail "go"
        refine ⟨_, _, _, rfl, sqL_mono s20 hS3, by omega, ?_⟩
        fail "go"
        refine ⟨by fail "sz", ?_⟩
        fail "newM"
        rename_i bx H21 n21 g21 m21 h21 s21
        generalize lawNumber ns (1 + (j : Int)) = N at h21
        have so1 := so.frame g21.g (fun _ _ => List.not_mem_nil)
        have mo1 := mo.frame g21.g (fun _ _ => List.not_mem_nil)
        have bms : bx ∉ ms := fun h => by obtain ⟨o, ho⟩ := so.has bx h; rw [show H20 bx = none from n21] at ho; cases ho
        have bgs : bx ∉ gs := fun h => by obtain ⟨o, ho⟩ := mo.has bx h; rw [show H20 bx = none from n21] at ho; cases ho
        clear so mo g21 s20
        fail "gi"
        refine g_seqIN (fun σ H' => ∃ (s g : Addr) (m : Rows) (ms gs : List Addr) (xl xk : V) (q : Int), σ = [some (.ref a), some (.ref bx), some (.ref p), some (.int seat), some (.ref D), some (.int (j : Int)), x6, x7, some (.ref P), some (.ref s), some (.ref g), some xl, some xk] ∧ Same R3 H' ∧ H' bx = some (.lst [.int q]) ∧ SideOk K T.C_Side T.C_Device R3 H' s p seat m ms ∧ ModOk K R3 H' g seat m gs ∧ Dj ms gs ∧ RsW L j m ∧ bx ∉ ms ∧ bx ∉ gs ∧ LeftOk K T.C_Side T.C_Device L R3 H' p bx seat xl xk ms gs) ?_ (fun N rest => ?_)
        · clear h21 s21 so1 mo1 dj mw bms bgs n21
          rintro σ H22 ⟨s, g, m, ms, gs, xl, xk, q, rfl, s22, hb22, so, mo, dj, mw, bms, bgs, lf⟩
          fail "go"
          refine ⟨R3, s, g, p, bx, L, seat, m, ms, gs, q, j, rfl, s22, ⟨_, haf3⟩, hL, ⟨d0, d1⟩, so, mo, mw, by omega, m21, hb22, bms, bgs, dj, c0.1, c0.2, fun R4 H4 m' ms' gs' g4 so4 mo4 mw4 nwS nwG dj4 => ?_⟩
          have lf4 := lf.frame g4 (fun x hx => .inl hx) (.inl rfl) nwS nwG
          have haf4 := g4.rr _ _ haf3
          have hS4 := sqL_mono g4.rr hS3
          have s04 := s13.trans g4.rr
          have s4 := g4.rh
          clear so mo dj mw bms bgs lf g4 hb22 s22 nwS nwG haf3 hS3 s13 m21
          fail "go"
          refine ⟨_, _, _, rfl, sqL_mono s4 hS4, by omega, ?_⟩
          fail "go"
          refine ⟨by fail "sz", ?_⟩
          fail "newM"
          rename_i b2 H5 n5 g5 m5 h5 s5
          have so5 := so4.frame g5.g (fun _ _ => List.not_mem_nil)
          have mo5 := mo4.frame g5.g (fun _ _ => List.not_mem_nil)
          have lf5 := lf4.frame (b' := b2) g5.g (fun x hx => absurd hx List.not_mem_nil) (.inr n5) Nw.refl Nw.refl
          have bms : b2 ∉ ms' := fun h => by obtain ⟨o, ho⟩ := so4.has b2 h; rw [show H4 b2 = none from n5] at ho; cases ho
          have bgs : b2 ∉ gs' := fun h => by obtain ⟨o, ho⟩ := mo4.has b2 h; rw [show H4 b2 = none from n5] at ho; cases ho
          clear so4 mo4 lf4 s4 n5 g5
          refine ⟨R4, s, g, p, b2, L, seat, m', ms', gs', _, rfl, s5, ⟨_, haf4⟩, hL, ⟨d0, d1⟩, so5, mo5, mw4.up (by omega), m5, h5, bms, bgs, c0.1, c0.2, fun H6 g6 => ?_⟩
          have so6 := so5.frame g6 (fun x hx hn => bms (by rw [← List.mem_singleton.mp hn]; exact hx))
          have mo6 := mo5.frame g6 (fun x hx hn => bgs (by rw [← List.mem_singleton.mp hn]; exact hx))
          have lf6 := lf5.frame g6 (fun x hx => .inl (by rw [List.mem_singleton.mp hx]; exact List.mem_cons_self)) (.inl rfl) Nw.refl Nw.refl
          have s6 := g6.rh
          clear so5 mo5 lf5 g6 h5 s5 m5
          fail "go"
          refine ⟨_, rfl, ?_⟩
          fail "go"
          rcases lf6 with rfl | ⟨s0, g0, m0, ms0, gs0, rfl, rfl, so0, mo0, mw0, d1', d2'⟩
          · fail "go"
            exact ⟨R4, s, g, m', ms', gs', _, _, _, _, _, _, rfl, s04, s6, so6, mo6, dj4, mw4⟩
          · fail "go"
            refine ⟨_, _, _, rfl, sqL_mono s6 hS4, by omega, ?_⟩
            fail "go"
            refine ⟨by fail "sz", ?_⟩
            fail "newM"
            rename_i b3 H7 n7 g7 m7 h7 s7
            have so7 := so6.frame g7.g (fun _ _ => List.not_mem_nil)
            have mo7 := mo6.frame g7.g (fun _ _ => List.not_mem_nil)
            have so07 := so0.frame g7.g (fun _ _ => List.not_mem_nil)
            have mo07 := mo0.frame g7.g (fun _ _ => List.not_mem_nil)
            have nn : ∀ {xs : List Addr}, (∀ x ∈ xs, ∃ o, H6 x = some o) → b3 ∉ xs := fun has h => by obtain ⟨o, ho⟩ := has b3 h; rw [show H6 b3 = none from n7] at ho; cases ho
            have e1 := nn so6.has
            have e2 := nn mo6.has
            have e3 := nn so0.has
            have e4 := nn mo0.has
            clear so6 mo6 so0 mo0 nn g7 s6 n7
            refine ⟨R4, s0, g0, p, b3, L, seat, m0, ms0, gs0, _, rfl, s7, ⟨_, haf4⟩, hL, ⟨d0, d1⟩, so07, mo07, mw0, m7, h7, e3, e4, c0.1, c0.2, fun H8 g8 => ?_⟩
            have so8 := so7.frame g8 (fun x hx hn => e1 (by rw [← List.mem_singleton.mp hn]; exact hx))
            have mo8 := mo7.frame g8 (fun x hx hn => e2 (by rw [← List.mem_singleton.mp hn]; exact hx))
            have s8 := g8.rh
            clear so7 mo7 so07 mo07 g8 h7 s7 m7
            fail "go"
            refine ⟨_, rfl, ?_⟩
            fail "go"
            exact ⟨R4, s, g, m', ms', gs', _, _, _, _, _, _, rfl, s04, s8, so8, mo8, dj4, mw4⟩
        · fail "go"
          rename_i H22 g22 h22 s22
          have so2 := so1.frame g22.g (fun x hx hn => bms (by rw [← List.mem_singleton.mp hn]; exact hx))
          have mo2 := mo1.frame g22.g (fun x hx hn => bgs (by rw [← List.mem_singleton.mp hn]; exact hx))
          clear so1 mo1 g22 h21 s21 n21
          refine g_ite (fun e => ?_) (fun e => ?_)
          · fail "go"
            refine ⟨R3, g, seat, m', gs, rfl, s22, mo2, fun H23 kg kgs g23 fk mok => ?_⟩
            have so3 := so2.frame g23 (fun _ _ => List.not_mem_nil)
            have mo3 := mo2.frame g23 (fun _ _ => List.not_mem_nil)
            have h23 := g23.same _ _ h22
            have s23 := g23.rh
            have bk : bx ∉ kgs := nin_new fk h22
            clear so2 mo2 g23 h22 s22 fk
            fail "go"
            refine ⟨R3, s, g, p, bx, L, seat, m', ms, gs, _, rfl, s23, ⟨_, haf3⟩, hOk, ⟨by omega, by omega⟩, so3, mo3, mw.up (by omega), m21, h23, bms, bgs, fun H24 pp x y mm xs ys g24 hb24 hpp soX moY mwc fxs fys djxy _ _ _ => ?_⟩
            obtain ⟨n', hb24⟩ := hb24
            have so4 := so3.frame g24 (fun x hx hn => bms (by rw [← List.mem_singleton.mp hn]; exact hx))
            have mok4 := mok.frame g24 (fun x hx hn => bk (by rw [← List.mem_singleton.mp hn]; exact hx))
            have s24 := g24.rh
            have key : ∀ zs : List Addr, (∀ x ∈ zs, ∃ o, H23 x = some o) → bx ∉ zs → Dj zs (bx :: (xs ++ ys)) := fun zs has nb x hx hn => by
              obtain ⟨o, ho⟩ := has x hx
              rcases List.mem_cons.mp hn with rfl | hn
              · exact nb hx
              · rcases List.mem_append.mp hn with hn | hn
                · rw [fxs x hn] at ho; cases ho
                · rw [fys x hn] at ho; cases ho
            have k1 := key ms so3.has bms
            have k2 := key kgs mok.has bk
            have bxs : bx ∉ xs := nin_new fxs h23
            have bys : bx ∉ ys := nin_new fys h23
            have mwm : RsW L j mm := by
              rcases mwc with h | rfl
              · exact h.up (by omega)
              · exact mw
            clear so3 mo3 mok h23 s23 g24 key
            fail "go"
            exact rest _ _ ⟨x, y, mm, xs, ys, .ref s, .ref kg, n', rfl, s24, hb24, soX, moY, djxy, mwm, bxs, bys, .inr ⟨s, kg, m', ms, kgs, rfl, rfl, so4, mok4, mw.up (by omega), k1, k2⟩⟩
          · fail "go"
            exact rest _ _ ⟨s, g, m', ms, gs, .non, .non, _, rfl, s22, h22, so2, mo2, dj, mw, bms, bgs, .inl rfl⟩
      · clear so7 mo7 dj7 mw7 sG du
        rintro σ H20 ⟨R3, s, g, m', ms, gs, x1, x5, x6, x7, x11, x12, rfl, s13, s20, so, mo, dj, mw⟩
        have haf3 := s13 _ _ haf1
        clear so mo dj mw hS1 haf1
        fail "go"
        intro x dx nx ndx nex
        have ms := made_same (C := T.C_Side) nx ndx
        refine ⟨R3, x, dx, p, seat, .non, _, L, rfl, s20.trans ms, s20.free nx, upd_same, ⟨_, haf3⟩, hOk, ⟨by omega, by omega⟩, .inr ⟨rfl, rfl⟩, fun HA d l1 l2 l3 g nd n1 n2 n3 e12 e13 e23 edx hs hd e1 e2 e3 => ⟨rfl, ?_⟩⟩
        obtain ⟨sx, hs⟩ := hs
        obtain ⟨ddx, hd⟩ := hd
        have sA := g.rh
        clear g ms s20 nx ndx nex n1 n2 n3 nd e2 e3
        fail "go"
        refine ⟨d, p, l1, l2, l3, _, rfl, ⟨_, hd⟩, e1, ?_⟩
        fail "newM"
        rename_i q1 HB nB gB mB hB sB
        have haf4 := sB _ _ haf3
        clear hs hd e1 gB
        fail "go"
        refine ⟨by fail "sz", ?_⟩
        fail "newM"
        rename_i q2 HC nC gC mC hC sC
        have hB2 := gC.g.same _ _ hB
        clear gC
        fail "go"
        refine g_rep hC (by omega) (by omega) (by simp only [List.length_cons, List.length_nil]; fail "sz") ?_
        rw [show (List.replicate (L.device + 2).toNat [V.non]).flatten = List.replicate (L.device + 2).toNat V.non by simp]
        fail "newM"
        rename_i q3 HD' nD gD mD hD3 sD
        refine g_eqDa (.lst (SqL.of (gD.g.same _ _ hB2)) (dp_nones (L.device + 2).toNat)) (.lst (SqL.of hD3) (dp_nones (L.device + 2).toNat)) (la_shaped la_cells) (la_shaped la_cells) (.inl ⟨_, rfl⟩) ?_
        rw [eqv_same (by rw [clean]; exact clean_cells _)]
        exact hq _
end
theorem all_mk {l : PySem.W.OpenLaw} {w : World} {K : PySem.W.Frag} {h : Heap} {mg : Str → Option Value} {fa C_Layout C_Device C_Side f__law_number f__law_take f_parts_of f_Layout___init__ f__law_layout f__law_block f__law_low f__law_octets f__law_check f__law_sealed f__law_cell f_Device___init__ f_Side___init__ f__law_copy f__law_left f_Device_left f_Side_left f_Device_read f_Side_settled f_Device_fork f_Side_fork f__law_next f_Device__count_command f_Device_write f_number_octets f_pairs_of f_summary_octets f_bits_of f_body_octets f_block_octets f_check_of f_sealed f_Side_write f__law_put f_Device_barrier f_Side_barrier f__law_bar f_Device_decay f_numbers_of f_used_of f_read_body f_number_of f_read_block f_Side_rot f__law_read_octets f__law_rots f_seats_of_bits f_bits_of_seats f_label_block f_label_of f_is_whole f_Side_read f_Side_labels f_is_newer f_newest_label f_Side_write_label f__law_label_block f__law_label_cell f__law_whole f__law_label_at f__law_ahead f__law_slot f__law_deed f_Device_pending f_Side_pending f_Device_sure_blocks f_Side_is_rotten f_Side_label f__law_own_label f__law_agrees f_law : Addr} {t_MOST_SEGMENTS t_LEAST_SEGMENTS t_MOST_BLOCKS t_LEAST_BLOCKS t_HEAD_OCTETS t_SLOTS t_LABELS t_HEADER t_COMMIT t_MOVE t_DATA t_SPARE t_FACTOR t_PRIME t_MOST_ACTION t_PART t_SEATS t_FORK_OCTETS t_MEMBERS_AT t_COUNT_AT t_MOST_FORKS t_FORKS_AT : Tok}
    {od0 an0 : Option Addr} {sl0 : Array (Option Value)} {oc0 kV0 dc0 pm0 cd0 ct0 : Value}
    {od1 an1 : Option Addr} {sl1 : Array (Option Value)} {oc1 kV1 dc1 pm1 cd1 ct1 : Value}
    {od2 an2 : Option Addr} {sl2 : Array (Option Value)} {oc2 kV2 dc2 pm2 cd2 ct2 : Value}
    {od3 an3 : Option Addr} {sl3 : Array (Option Value)} {oc3 kV3 dc3 pm3 cd3 ct3 : Value}
    {od4 an4 : Option Addr} {sl4 : Array (Option Value)} {oc4 kV4 dc4 pm4 cd4 ct4 : Value}
    {od5 an5 : Option Addr} {sl5 : Array (Option Value)} {oc5 kV5 dc5 pm5 cd5 ct5 : Value}
    {od6 an6 : Option Addr} {sl6 : Array (Option Value)} {oc6 kV6 dc6 pm6 cd6 ct6 : Value}
    {od7 an7 : Option Addr} {sl7 : Array (Option Value)} {oc7 kV7 dc7 pm7 cd7 ct7 : Value}
    {od8 an8 : Option Addr} {sl8 : Array (Option Value)} {oc8 kV8 dc8 pm8 cd8 ct8 : Value}
    {od9 an9 : Option Addr} {sl9 : Array (Option Value)} {oc9 kV9 dc9 pm9 cd9 ct9 : Value}
    {od10 an10 : Option Addr} {sl10 : Array (Option Value)} {oc10 kV10 dc10 pm10 cd10 ct10 : Value}
    {od11 an11 : Option Addr} {sl11 : Array (Option Value)} {oc11 kV11 dc11 pm11 cd11 ct11 : Value}
    {dT11 : Addr} {dO11 : Option Addr} {dN11 : Nat} {dS11 : Array (Option Value)}
    {od12 an12 : Option Addr} {sl12 : Array (Option Value)} {oc12 kV12 dc12 pm12 cd12 ct12 : Value}
    {dT12 : Addr} {dO12 : Option Addr} {dN12 : Nat} {dS12 : Array (Option Value)}
    {od13 an13 : Option Addr} {sl13 : Array (Option Value)} {oc13 kV13 dc13 pm13 cd13 ct13 : Value}
    {od14 an14 : Option Addr} {sl14 : Array (Option Value)} {oc14 kV14 dc14 pm14 cd14 ct14 : Value}
    {od15 an15 : Option Addr} {sl15 : Array (Option Value)} {oc15 kV15 dc15 pm15 cd15 ct15 : Value}
    {od16 an16 : Option Addr} {sl16 : Array (Option Value)} {oc16 kV16 dc16 pm16 cd16 ct16 : Value}
    {od17 an17 : Option Addr} {sl17 : Array (Option Value)} {oc17 kV17 dc17 pm17 cd17 ct17 : Value}
    {od18 an18 : Option Addr} {sl18 : Array (Option Value)} {oc18 kV18 dc18 pm18 cd18 ct18 : Value}
    {od19 an19 : Option Addr} {sl19 : Array (Option Value)} {oc19 kV19 dc19 pm19 cd19 ct19 : Value}
    {od20 an20 : Option Addr} {sl20 : Array (Option Value)} {oc20 kV20 dc20 pm20 cd20 ct20 : Value}
    {od21 an21 : Option Addr} {sl21 : Array (Option Value)} {oc21 kV21 dc21 pm21 cd21 ct21 : Value}
    {od22 an22 : Option Addr} {sl22 : Array (Option Value)} {oc22 kV22 dc22 pm22 cd22 ct22 : Value}
    {od23 an23 : Option Addr} {sl23 : Array (Option Value)} {oc23 kV23 dc23 pm23 cd23 ct23 : Value}
    {od24 an24 : Option Addr} {sl24 : Array (Option Value)} {oc24 kV24 dc24 pm24 cd24 ct24 : Value}
    {od25 an25 : Option Addr} {sl25 : Array (Option Value)} {oc25 kV25 dc25 pm25 cd25 ct25 : Value}
    {od26 an26 : Option Addr} {sl26 : Array (Option Value)} {oc26 kV26 dc26 pm26 cd26 ct26 : Value}
    {od27 an27 : Option Addr} {sl27 : Array (Option Value)} {oc27 kV27 dc27 pm27 cd27 ct27 : Value}
    {od28 an28 : Option Addr} {sl28 : Array (Option Value)} {oc28 kV28 dc28 pm28 cd28 ct28 : Value}
    {od29 an29 : Option Addr} {sl29 : Array (Option Value)} {oc29 kV29 dc29 pm29 cd29 ct29 : Value}
    {od30 an30 : Option Addr} {sl30 : Array (Option Value)} {oc30 kV30 dc30 pm30 cd30 ct30 : Value}
    {od31 an31 : Option Addr} {sl31 : Array (Option Value)} {oc31 kV31 dc31 pm31 cd31 ct31 : Value}
    {od32 an32 : Option Addr} {sl32 : Array (Option Value)} {oc32 kV32 dc32 pm32 cd32 ct32 : Value}
    {od33 an33 : Option Addr} {sl33 : Array (Option Value)} {oc33 kV33 dc33 pm33 cd33 ct33 : Value}
    {od34 an34 : Option Addr} {sl34 : Array (Option Value)} {oc34 kV34 dc34 pm34 cd34 ct34 : Value}
    {od35 an35 : Option Addr} {sl35 : Array (Option Value)} {oc35 kV35 dc35 pm35 cd35 ct35 : Value}
    {od36 an36 : Option Addr} {sl36 : Array (Option Value)} {oc36 kV36 dc36 pm36 cd36 ct36 : Value}
    {od37 an37 : Option Addr} {sl37 : Array (Option Value)} {oc37 kV37 dc37 pm37 cd37 ct37 : Value}
    {od38 an38 : Option Addr} {sl38 : Array (Option Value)} {oc38 kV38 dc38 pm38 cd38 ct38 : Value}
    {od39 an39 : Option Addr} {sl39 : Array (Option Value)} {oc39 kV39 dc39 pm39 cd39 ct39 : Value}
    {od40 an40 : Option Addr} {sl40 : Array (Option Value)} {oc40 kV40 dc40 pm40 cd40 ct40 : Value}
    {od41 an41 : Option Addr} {sl41 : Array (Option Value)} {oc41 kV41 dc41 pm41 cd41 ct41 : Value}
    {od42 an42 : Option Addr} {sl42 : Array (Option Value)} {oc42 kV42 dc42 pm42 cd42 ct42 : Value}
    {od43 an43 : Option Addr} {sl43 : Array (Option Value)} {oc43 kV43 dc43 pm43 cd43 ct43 : Value}
    {od44 an44 : Option Addr} {sl44 : Array (Option Value)} {oc44 kV44 dc44 pm44 cd44 ct44 : Value}
    {od45 an45 : Option Addr} {sl45 : Array (Option Value)} {oc45 kV45 dc45 pm45 cd45 ct45 : Value}
    {od46 an46 : Option Addr} {sl46 : Array (Option Value)} {oc46 kV46 dc46 pm46 cd46 ct46 : Value}
    {od47 an47 : Option Addr} {sl47 : Array (Option Value)} {oc47 kV47 dc47 pm47 cd47 ct47 : Value}
    {od48 an48 : Option Addr} {sl48 : Array (Option Value)} {oc48 kV48 dc48 pm48 cd48 ct48 : Value}
    {od49 an49 : Option Addr} {sl49 : Array (Option Value)} {oc49 kV49 dc49 pm49 cd49 ct49 : Value}
    {od50 an50 : Option Addr} {sl50 : Array (Option Value)} {oc50 kV50 dc50 pm50 cd50 ct50 : Value}
    {od51 an51 : Option Addr} {sl51 : Array (Option Value)} {oc51 kV51 dc51 pm51 cd51 ct51 : Value}
    {od52 an52 : Option Addr} {sl52 : Array (Option Value)} {oc52 kV52 dc52 pm52 cd52 ct52 : Value}
    {od53 an53 : Option Addr} {sl53 : Array (Option Value)} {oc53 kV53 dc53 pm53 cd53 ct53 : Value}
    {od54 an54 : Option Addr} {sl54 : Array (Option Value)} {oc54 kV54 dc54 pm54 cd54 ct54 : Value}
    {od55 an55 : Option Addr} {sl55 : Array (Option Value)} {oc55 kV55 dc55 pm55 cd55 ct55 : Value}
    {od56 an56 : Option Addr} {sl56 : Array (Option Value)} {oc56 kV56 dc56 pm56 cd56 ct56 : Value}
    {od57 an57 : Option Addr} {sl57 : Array (Option Value)} {oc57 kV57 dc57 pm57 cd57 ct57 : Value}
    {od58 an58 : Option Addr} {sl58 : Array (Option Value)} {oc58 kV58 dc58 pm58 cd58 ct58 : Value}
    {od59 an59 : Option Addr} {sl59 : Array (Option Value)} {oc59 kV59 dc59 pm59 cd59 ct59 : Value}
    {od60 an60 : Option Addr} {sl60 : Array (Option Value)} {oc60 kV60 dc60 pm60 cd60 ct60 : Value}
    {od61 an61 : Option Addr} {sl61 : Array (Option Value)} {oc61 kV61 dc61 pm61 cd61 ct61 : Value}
    {od62 an62 : Option Addr} {sl62 : Array (Option Value)} {oc62 kV62 dc62 pm62 cd62 ct62 : Value}
    {od63 an63 : Option Addr} {sl63 : Array (Option Value)} {oc63 kV63 dc63 pm63 cd63 ct63 : Value}
    {od64 an64 : Option Addr} {sl64 : Array (Option Value)} {oc64 kV64 dc64 pm64 cd64 ct64 : Value}
    {od65 an65 : Option Addr} {sl65 : Array (Option Value)} {oc65 kV65 dc65 pm65 cd65 ct65 : Value}
    {od66 an66 : Option Addr} {sl66 : Array (Option Value)} {oc66 kV66 dc66 pm66 cd66 ct66 : Value}
    {od67 an67 : Option Addr} {sl67 : Array (Option Value)} {oc67 kV67 dc67 pm67 cd67 ct67 : Value}
    {od68 an68 : Option Addr} {sl68 : Array (Option Value)} {oc68 kV68 dc68 pm68 cd68 ct68 : Value}
    {od69 an69 : Option Addr} {sl69 : Array (Option Value)} {oc69 kV69 dc69 pm69 cd69 ct69 : Value}
    {od70 an70 : Option Addr} {sl70 : Array (Option Value)} {oc70 kV70 dc70 pm70 cd70 ct70 : Value}
    {c_LETTERS_bodies : Addr} {od_LETTERS_bodies : Option Addr} {n_LETTERS_bodies : Nat} {sl_LETTERS_bodies : Array (Option Value)} {t_LETTERS_bodies_0 t_LETTERS_bodies_1 t_LETTERS_bodies_2 t_LETTERS_bodies_3 : Tok}
    {c_BITS : Addr} {od_BITS : Option Addr} {n_BITS : Nat} {sl_BITS : Array (Option Value)} {t_BITS_0 t_BITS_1 t_BITS_2 t_BITS_3 t_BITS_4 t_BITS_5 t_BITS_6 t_BITS_7 : Tok}
    {c_LETTERS_labels : Addr} {od_LETTERS_labels : Option Addr} {n_LETTERS_labels : Nat} {sl_LETTERS_labels : Array (Option Value)} {t_LETTERS_labels_0 t_LETTERS_labels_1 t_LETTERS_labels_2 t_LETTERS_labels_3 : Tok}
    (X : K.In h) (G : h.Ns mainGlobals mg) (hfa : mg "law" = some (.ref fa))
    (a0 : PySem.W.nsIn K mainGlobals "_law_number" = some (some (.ref f__law_number)))
    (l0 : K.lookup f__law_number = some ⟨oc0, od0, .func (PySem.W.fnOf "_law_number" "_law_number" (defArgs s__law_number) (defBody s__law_number) (defScope s__law_number) .none kV0 dc0 pm0 an0 cd0 ct0), sl0⟩)
    (c0 : PySem.W.codeIn K cd0 "_law_number" = true)
    (k0 : PySem.W.keepIn K (.ref f__law_number) = true)
    (a1 : PySem.W.nsIn K mainGlobals "_law_take" = some (some (.ref f__law_take)))
    (l1 : K.lookup f__law_take = some ⟨oc1, od1, .func (PySem.W.fnOf "_law_take" "_law_take" (defArgs s__law_take) (defBody s__law_take) (defScope s__law_take) .none kV1 dc1 pm1 an1 cd1 ct1), sl1⟩)
    (c1 : PySem.W.codeIn K cd1 "_law_take" = true)
    (k1 : PySem.W.keepIn K (.ref f__law_take) = true)
    (a2 : PySem.W.nsIn K mainGlobals "parts_of" = some (some (.ref f_parts_of)))
    (l2 : K.lookup f_parts_of = some ⟨oc2, od2, .func (PySem.W.fnOf "parts_of" "parts_of" (defArgs s_parts_of) (defBody s_parts_of) (defScope s_parts_of) .none kV2 dc2 pm2 an2 cd2 ct2), sl2⟩)
    (c2 : PySem.W.codeIn K cd2 "parts_of" = true)
    (k2 : PySem.W.keepIn K (.ref f_parts_of) = true)
    (a3 : PySem.W.findIn K (.ref C_Layout) "__init__" = some (some (.ref f_Layout___init__)))
    (i3 : PySem.W.isFn K (.ref f_Layout___init__) = true)
    (l3 : K.lookup f_Layout___init__ = some ⟨oc3, od3, .func (PySem.W.fnOf "__init__" "Layout.__init__" (defArgs s_Layout___init__) (defBody s_Layout___init__) (defScope s_Layout___init__) .none kV3 dc3 pm3 an3 cd3 ct3), sl3⟩)
    (c3 : PySem.W.codeIn K cd3 "Layout.__init__" = true)
    (k3 : PySem.W.keepIn K (.ref f_Layout___init__) = true)
    (a4 : PySem.W.nsIn K mainGlobals "_law_layout" = some (some (.ref f__law_layout)))
    (l4 : K.lookup f__law_layout = some ⟨oc4, od4, .func (PySem.W.fnOf "_law_layout" "_law_layout" (defArgs s__law_layout) (defBody s__law_layout) (defScope s__law_layout) .none kV4 dc4 pm4 an4 cd4 ct4), sl4⟩)
    (c4 : PySem.W.codeIn K cd4 "_law_layout" = true)
    (k4 : PySem.W.keepIn K (.ref f__law_layout) = true)
    (a5 : PySem.W.nsIn K mainGlobals "_law_block" = some (some (.ref f__law_block)))
    (l5 : K.lookup f__law_block = some ⟨oc5, od5, .func (PySem.W.fnOf "_law_block" "_law_block" (defArgs s__law_block) (defBody s__law_block) (defScope s__law_block) .none kV5 dc5 pm5 an5 cd5 ct5), sl5⟩)
    (c5 : PySem.W.codeIn K cd5 "_law_block" = true)
    (k5 : PySem.W.keepIn K (.ref f__law_block) = true)
    (a6 : PySem.W.nsIn K mainGlobals "_law_low" = some (some (.ref f__law_low)))
    (l6 : K.lookup f__law_low = some ⟨oc6, od6, .func (PySem.W.fnOf "_law_low" "_law_low" (defArgs s__law_low) (defBody s__law_low) (defScope s__law_low) .none kV6 dc6 pm6 an6 cd6 ct6), sl6⟩)
    (c6 : PySem.W.codeIn K cd6 "_law_low" = true)
    (k6 : PySem.W.keepIn K (.ref f__law_low) = true)
    (a7 : PySem.W.nsIn K mainGlobals "_law_octets" = some (some (.ref f__law_octets)))
    (l7 : K.lookup f__law_octets = some ⟨oc7, od7, .func (PySem.W.fnOf "_law_octets" "_law_octets" (defArgs s__law_octets) (defBody s__law_octets) (defScope s__law_octets) .none kV7 dc7 pm7 an7 cd7 ct7), sl7⟩)
    (c7 : PySem.W.codeIn K cd7 "_law_octets" = true)
    (k7 : PySem.W.keepIn K (.ref f__law_octets) = true)
    (a8 : PySem.W.nsIn K mainGlobals "_law_check" = some (some (.ref f__law_check)))
    (l8 : K.lookup f__law_check = some ⟨oc8, od8, .func (PySem.W.fnOf "_law_check" "_law_check" (defArgs s__law_check) (defBody s__law_check) (defScope s__law_check) .none kV8 dc8 pm8 an8 cd8 ct8), sl8⟩)
    (c8 : PySem.W.codeIn K cd8 "_law_check" = true)
    (k8 : PySem.W.keepIn K (.ref f__law_check) = true)
    (a9 : PySem.W.nsIn K mainGlobals "_law_sealed" = some (some (.ref f__law_sealed)))
    (l9 : K.lookup f__law_sealed = some ⟨oc9, od9, .func (PySem.W.fnOf "_law_sealed" "_law_sealed" (defArgs s__law_sealed) (defBody s__law_sealed) (defScope s__law_sealed) .none kV9 dc9 pm9 an9 cd9 ct9), sl9⟩)
    (c9 : PySem.W.codeIn K cd9 "_law_sealed" = true)
    (k9 : PySem.W.keepIn K (.ref f__law_sealed) = true)
    (a10 : PySem.W.nsIn K mainGlobals "_law_cell" = some (some (.ref f__law_cell)))
    (l10 : K.lookup f__law_cell = some ⟨oc10, od10, .func (PySem.W.fnOf "_law_cell" "_law_cell" (defArgs s__law_cell) (defBody s__law_cell) (defScope s__law_cell) .none kV10 dc10 pm10 an10 cd10 ct10), sl10⟩)
    (c10 : PySem.W.codeIn K cd10 "_law_cell" = true)
    (k10 : PySem.W.keepIn K (.ref f__law_cell) = true)
    (a11 : PySem.W.findIn K (.ref C_Device) "__init__" = some (some (.ref f_Device___init__)))
    (i11 : PySem.W.isFn K (.ref f_Device___init__) = true)
    (l11 : K.lookup f_Device___init__ = some ⟨oc11, od11, .func (PySem.W.fnOf "__init__" "Device.__init__" (defArgs s_Device___init__) (defBody s_Device___init__) (defScope s_Device___init__) (.ref dT11) kV11 dc11 pm11 an11 cd11 ct11), sl11⟩)
    (dl11 : K.lookup dT11 = some ⟨.type "tuple", dO11, .seq #[.none] dN11, dS11⟩)
    (c11 : PySem.W.codeIn K cd11 "Device.__init__" = true)
    (k11 : PySem.W.keepIn K (.ref f_Device___init__) = true)
    (a12 : PySem.W.findIn K (.ref C_Side) "__init__" = some (some (.ref f_Side___init__)))
    (i12 : PySem.W.isFn K (.ref f_Side___init__) = true)
    (l12 : K.lookup f_Side___init__ = some ⟨oc12, od12, .func (PySem.W.fnOf "__init__" "Side.__init__" (defArgs s_Side___init__) (defBody s_Side___init__) (defScope s_Side___init__) (.ref dT12) kV12 dc12 pm12 an12 cd12 ct12), sl12⟩)
    (dl12 : K.lookup dT12 = some ⟨.type "tuple", dO12, .seq #[.none] dN12, dS12⟩)
    (c12 : PySem.W.codeIn K cd12 "Side.__init__" = true)
    (k12 : PySem.W.keepIn K (.ref f_Side___init__) = true)
    (a13 : PySem.W.nsIn K mainGlobals "_law_copy" = some (some (.ref f__law_copy)))
    (l13 : K.lookup f__law_copy = some ⟨oc13, od13, .func (PySem.W.fnOf "_law_copy" "_law_copy" (defArgs s__law_copy) (defBody s__law_copy) (defScope s__law_copy) .none kV13 dc13 pm13 an13 cd13 ct13), sl13⟩)
    (c13 : PySem.W.codeIn K cd13 "_law_copy" = true)
    (k13 : PySem.W.keepIn K (.ref f__law_copy) = true)
    (a14 : PySem.W.nsIn K mainGlobals "_law_left" = some (some (.ref f__law_left)))
    (l14 : K.lookup f__law_left = some ⟨oc14, od14, .func (PySem.W.fnOf "_law_left" "_law_left" (defArgs s__law_left) (defBody s__law_left) (defScope s__law_left) .none kV14 dc14 pm14 an14 cd14 ct14), sl14⟩)
    (c14 : PySem.W.codeIn K cd14 "_law_left" = true)
    (k14 : PySem.W.keepIn K (.ref f__law_left) = true)
    (a15 : PySem.W.findIn K (.ref C_Device) "left" = some (some (.ref f_Device_left)))
    (i15 : PySem.W.isFn K (.ref f_Device_left) = true)
    (l15 : K.lookup f_Device_left = some ⟨oc15, od15, .func (PySem.W.fnOf "left" "Device.left" (defArgs s_Device_left) (defBody s_Device_left) (defScope s_Device_left) .none kV15 dc15 pm15 an15 cd15 ct15), sl15⟩)
    (c15 : PySem.W.codeIn K cd15 "Device.left" = true)
    (k15 : PySem.W.keepIn K (.ref f_Device_left) = true)
    (a16 : PySem.W.findIn K (.ref C_Side) "left" = some (some (.ref f_Side_left)))
    (i16 : PySem.W.isFn K (.ref f_Side_left) = true)
    (l16 : K.lookup f_Side_left = some ⟨oc16, od16, .func (PySem.W.fnOf "left" "Side.left" (defArgs s_Side_left) (defBody s_Side_left) (defScope s_Side_left) .none kV16 dc16 pm16 an16 cd16 ct16), sl16⟩)
    (c16 : PySem.W.codeIn K cd16 "Side.left" = true)
    (k16 : PySem.W.keepIn K (.ref f_Side_left) = true)
    (a17 : PySem.W.findIn K (.ref C_Device) "read" = some (some (.ref f_Device_read)))
    (i17 : PySem.W.isFn K (.ref f_Device_read) = true)
    (l17 : K.lookup f_Device_read = some ⟨oc17, od17, .func (PySem.W.fnOf "read" "Device.read" (defArgs s_Device_read) (defBody s_Device_read) (defScope s_Device_read) .none kV17 dc17 pm17 an17 cd17 ct17), sl17⟩)
    (c17 : PySem.W.codeIn K cd17 "Device.read" = true)
    (k17 : PySem.W.keepIn K (.ref f_Device_read) = true)
    (a18 : PySem.W.findIn K (.ref C_Side) "settled" = some (some (.ref f_Side_settled)))
    (i18 : PySem.W.isFn K (.ref f_Side_settled) = true)
    (l18 : K.lookup f_Side_settled = some ⟨oc18, od18, .func (PySem.W.fnOf "settled" "Side.settled" (defArgs s_Side_settled) (defBody s_Side_settled) (defScope s_Side_settled) .none kV18 dc18 pm18 an18 cd18 ct18), sl18⟩)
    (c18 : PySem.W.codeIn K cd18 "Side.settled" = true)
    (k18 : PySem.W.keepIn K (.ref f_Side_settled) = true)
    (a19 : PySem.W.findIn K (.ref C_Device) "fork" = some (some (.ref f_Device_fork)))
    (i19 : PySem.W.isFn K (.ref f_Device_fork) = true)
    (l19 : K.lookup f_Device_fork = some ⟨oc19, od19, .func (PySem.W.fnOf "fork" "Device.fork" (defArgs s_Device_fork) (defBody s_Device_fork) (defScope s_Device_fork) .none kV19 dc19 pm19 an19 cd19 ct19), sl19⟩)
    (c19 : PySem.W.codeIn K cd19 "Device.fork" = true)
    (k19 : PySem.W.keepIn K (.ref f_Device_fork) = true)
    (a20 : PySem.W.findIn K (.ref C_Side) "fork" = some (some (.ref f_Side_fork)))
    (i20 : PySem.W.isFn K (.ref f_Side_fork) = true)
    (l20 : K.lookup f_Side_fork = some ⟨oc20, od20, .func (PySem.W.fnOf "fork" "Side.fork" (defArgs s_Side_fork) (defBody s_Side_fork) (defScope s_Side_fork) .none kV20 dc20 pm20 an20 cd20 ct20), sl20⟩)
    (c20 : PySem.W.codeIn K cd20 "Side.fork" = true)
    (k20 : PySem.W.keepIn K (.ref f_Side_fork) = true)
    (a21 : PySem.W.nsIn K mainGlobals "_law_next" = some (some (.ref f__law_next)))
    (l21 : K.lookup f__law_next = some ⟨oc21, od21, .func (PySem.W.fnOf "_law_next" "_law_next" (defArgs s__law_next) (defBody s__law_next) (defScope s__law_next) .none kV21 dc21 pm21 an21 cd21 ct21), sl21⟩)
    (c21 : PySem.W.codeIn K cd21 "_law_next" = true)
    (k21 : PySem.W.keepIn K (.ref f__law_next) = true)
    (a22 : PySem.W.findIn K (.ref C_Device) "_count_command" = some (some (.ref f_Device__count_command)))
    (i22 : PySem.W.isFn K (.ref f_Device__count_command) = true)
    (l22 : K.lookup f_Device__count_command = some ⟨oc22, od22, .func (PySem.W.fnOf "_count_command" "Device._count_command" (defArgs s_Device__count_command) (defBody s_Device__count_command) (defScope s_Device__count_command) .none kV22 dc22 pm22 an22 cd22 ct22), sl22⟩)
    (c22 : PySem.W.codeIn K cd22 "Device._count_command" = true)
    (k22 : PySem.W.keepIn K (.ref f_Device__count_command) = true)
    (a23 : PySem.W.findIn K (.ref C_Device) "write" = some (some (.ref f_Device_write)))
    (i23 : PySem.W.isFn K (.ref f_Device_write) = true)
    (l23 : K.lookup f_Device_write = some ⟨oc23, od23, .func (PySem.W.fnOf "write" "Device.write" (defArgs s_Device_write) (defBody s_Device_write) (defScope s_Device_write) .none kV23 dc23 pm23 an23 cd23 ct23), sl23⟩)
    (c23 : PySem.W.codeIn K cd23 "Device.write" = true)
    (k23 : PySem.W.keepIn K (.ref f_Device_write) = true)
    (a24 : PySem.W.nsIn K mainGlobals "number_octets" = some (some (.ref f_number_octets)))
    (l24 : K.lookup f_number_octets = some ⟨oc24, od24, .func (PySem.W.fnOf "number_octets" "number_octets" (defArgs s_number_octets) (defBody s_number_octets) (defScope s_number_octets) .none kV24 dc24 pm24 an24 cd24 ct24), sl24⟩)
    (c24 : PySem.W.codeIn K cd24 "number_octets" = true)
    (k24 : PySem.W.keepIn K (.ref f_number_octets) = true)
    (a25 : PySem.W.nsIn K mainGlobals "pairs_of" = some (some (.ref f_pairs_of)))
    (l25 : K.lookup f_pairs_of = some ⟨oc25, od25, .func (PySem.W.fnOf "pairs_of" "pairs_of" (defArgs s_pairs_of) (defBody s_pairs_of) (defScope s_pairs_of) .none kV25 dc25 pm25 an25 cd25 ct25), sl25⟩)
    (c25 : PySem.W.codeIn K cd25 "pairs_of" = true)
    (k25 : PySem.W.keepIn K (.ref f_pairs_of) = true)
    (a26 : PySem.W.nsIn K mainGlobals "summary_octets" = some (some (.ref f_summary_octets)))
    (l26 : K.lookup f_summary_octets = some ⟨oc26, od26, .func (PySem.W.fnOf "summary_octets" "summary_octets" (defArgs s_summary_octets) (defBody s_summary_octets) (defScope s_summary_octets) .none kV26 dc26 pm26 an26 cd26 ct26), sl26⟩)
    (c26 : PySem.W.codeIn K cd26 "summary_octets" = true)
    (k26 : PySem.W.keepIn K (.ref f_summary_octets) = true)
    (a27 : PySem.W.nsIn K mainGlobals "bits_of" = some (some (.ref f_bits_of)))
    (l27 : K.lookup f_bits_of = some ⟨oc27, od27, .func (PySem.W.fnOf "bits_of" "bits_of" (defArgs s_bits_of) (defBody s_bits_of) (defScope s_bits_of) .none kV27 dc27 pm27 an27 cd27 ct27), sl27⟩)
    (c27 : PySem.W.codeIn K cd27 "bits_of" = true)
    (k27 : PySem.W.keepIn K (.ref f_bits_of) = true)
    (a28 : PySem.W.nsIn K mainGlobals "body_octets" = some (some (.ref f_body_octets)))
    (l28 : K.lookup f_body_octets = some ⟨oc28, od28, .func (PySem.W.fnOf "body_octets" "body_octets" (defArgs s_body_octets) (defBody s_body_octets) (defScope s_body_octets) .none kV28 dc28 pm28 an28 cd28 ct28), sl28⟩)
    (c28 : PySem.W.codeIn K cd28 "body_octets" = true)
    (k28 : PySem.W.keepIn K (.ref f_body_octets) = true)
    (a29 : PySem.W.nsIn K mainGlobals "block_octets" = some (some (.ref f_block_octets)))
    (l29 : K.lookup f_block_octets = some ⟨oc29, od29, .func (PySem.W.fnOf "block_octets" "block_octets" (defArgs s_block_octets) (defBody s_block_octets) (defScope s_block_octets) .none kV29 dc29 pm29 an29 cd29 ct29), sl29⟩)
    (c29 : PySem.W.codeIn K cd29 "block_octets" = true)
    (k29 : PySem.W.keepIn K (.ref f_block_octets) = true)
    (a30 : PySem.W.nsIn K mainGlobals "check_of" = some (some (.ref f_check_of)))
    (l30 : K.lookup f_check_of = some ⟨oc30, od30, .func (PySem.W.fnOf "check_of" "check_of" (defArgs s_check_of) (defBody s_check_of) (defScope s_check_of) .none kV30 dc30 pm30 an30 cd30 ct30), sl30⟩)
    (c30 : PySem.W.codeIn K cd30 "check_of" = true)
    (k30 : PySem.W.keepIn K (.ref f_check_of) = true)
    (a31 : PySem.W.nsIn K mainGlobals "sealed" = some (some (.ref f_sealed)))
    (l31 : K.lookup f_sealed = some ⟨oc31, od31, .func (PySem.W.fnOf "sealed" "sealed" (defArgs s_sealed) (defBody s_sealed) (defScope s_sealed) .none kV31 dc31 pm31 an31 cd31 ct31), sl31⟩)
    (c31 : PySem.W.codeIn K cd31 "sealed" = true)
    (k31 : PySem.W.keepIn K (.ref f_sealed) = true)
    (a32 : PySem.W.findIn K (.ref C_Side) "write" = some (some (.ref f_Side_write)))
    (i32 : PySem.W.isFn K (.ref f_Side_write) = true)
    (l32 : K.lookup f_Side_write = some ⟨oc32, od32, .func (PySem.W.fnOf "write" "Side.write" (defArgs s_Side_write) (defBody s_Side_write) (defScope s_Side_write) .none kV32 dc32 pm32 an32 cd32 ct32), sl32⟩)
    (c32 : PySem.W.codeIn K cd32 "Side.write" = true)
    (k32 : PySem.W.keepIn K (.ref f_Side_write) = true)
    (a33 : PySem.W.nsIn K mainGlobals "_law_put" = some (some (.ref f__law_put)))
    (l33 : K.lookup f__law_put = some ⟨oc33, od33, .func (PySem.W.fnOf "_law_put" "_law_put" (defArgs s__law_put) (defBody s__law_put) (defScope s__law_put) .none kV33 dc33 pm33 an33 cd33 ct33), sl33⟩)
    (c33 : PySem.W.codeIn K cd33 "_law_put" = true)
    (k33 : PySem.W.keepIn K (.ref f__law_put) = true)
    (a34 : PySem.W.findIn K (.ref C_Device) "barrier" = some (some (.ref f_Device_barrier)))
    (i34 : PySem.W.isFn K (.ref f_Device_barrier) = true)
    (l34 : K.lookup f_Device_barrier = some ⟨oc34, od34, .func (PySem.W.fnOf "barrier" "Device.barrier" (defArgs s_Device_barrier) (defBody s_Device_barrier) (defScope s_Device_barrier) .none kV34 dc34 pm34 an34 cd34 ct34), sl34⟩)
    (c34 : PySem.W.codeIn K cd34 "Device.barrier" = true)
    (k34 : PySem.W.keepIn K (.ref f_Device_barrier) = true)
    (a35 : PySem.W.findIn K (.ref C_Side) "barrier" = some (some (.ref f_Side_barrier)))
    (i35 : PySem.W.isFn K (.ref f_Side_barrier) = true)
    (l35 : K.lookup f_Side_barrier = some ⟨oc35, od35, .func (PySem.W.fnOf "barrier" "Side.barrier" (defArgs s_Side_barrier) (defBody s_Side_barrier) (defScope s_Side_barrier) .none kV35 dc35 pm35 an35 cd35 ct35), sl35⟩)
    (c35 : PySem.W.codeIn K cd35 "Side.barrier" = true)
    (k35 : PySem.W.keepIn K (.ref f_Side_barrier) = true)
    (a36 : PySem.W.nsIn K mainGlobals "_law_bar" = some (some (.ref f__law_bar)))
    (l36 : K.lookup f__law_bar = some ⟨oc36, od36, .func (PySem.W.fnOf "_law_bar" "_law_bar" (defArgs s__law_bar) (defBody s__law_bar) (defScope s__law_bar) .none kV36 dc36 pm36 an36 cd36 ct36), sl36⟩)
    (c36 : PySem.W.codeIn K cd36 "_law_bar" = true)
    (k36 : PySem.W.keepIn K (.ref f__law_bar) = true)
    (a37 : PySem.W.findIn K (.ref C_Device) "decay" = some (some (.ref f_Device_decay)))
    (i37 : PySem.W.isFn K (.ref f_Device_decay) = true)
    (l37 : K.lookup f_Device_decay = some ⟨oc37, od37, .func (PySem.W.fnOf "decay" "Device.decay" (defArgs s_Device_decay) (defBody s_Device_decay) (defScope s_Device_decay) .none kV37 dc37 pm37 an37 cd37 ct37), sl37⟩)
    (c37 : PySem.W.codeIn K cd37 "Device.decay" = true)
    (k37 : PySem.W.keepIn K (.ref f_Device_decay) = true)
    (a38 : PySem.W.nsIn K mainGlobals "numbers_of" = some (some (.ref f_numbers_of)))
    (l38 : K.lookup f_numbers_of = some ⟨oc38, od38, .func (PySem.W.fnOf "numbers_of" "numbers_of" (defArgs s_numbers_of) (defBody s_numbers_of) (defScope s_numbers_of) .none kV38 dc38 pm38 an38 cd38 ct38), sl38⟩)
    (c38 : PySem.W.codeIn K cd38 "numbers_of" = true)
    (k38 : PySem.W.keepIn K (.ref f_numbers_of) = true)
    (a39 : PySem.W.nsIn K mainGlobals "used_of" = some (some (.ref f_used_of)))
    (l39 : K.lookup f_used_of = some ⟨oc39, od39, .func (PySem.W.fnOf "used_of" "used_of" (defArgs s_used_of) (defBody s_used_of) (defScope s_used_of) .none kV39 dc39 pm39 an39 cd39 ct39), sl39⟩)
    (c39 : PySem.W.codeIn K cd39 "used_of" = true)
    (k39 : PySem.W.keepIn K (.ref f_used_of) = true)
    (a40 : PySem.W.nsIn K mainGlobals "read_body" = some (some (.ref f_read_body)))
    (l40 : K.lookup f_read_body = some ⟨oc40, od40, .func (PySem.W.fnOf "read_body" "read_body" (defArgs s_read_body) (defBody s_read_body) (defScope s_read_body) .none kV40 dc40 pm40 an40 cd40 ct40), sl40⟩)
    (c40 : PySem.W.codeIn K cd40 "read_body" = true)
    (k40 : PySem.W.keepIn K (.ref f_read_body) = true)
    (a41 : PySem.W.nsIn K mainGlobals "number_of" = some (some (.ref f_number_of)))
    (l41 : K.lookup f_number_of = some ⟨oc41, od41, .func (PySem.W.fnOf "number_of" "number_of" (defArgs s_number_of) (defBody s_number_of) (defScope s_number_of) .none kV41 dc41 pm41 an41 cd41 ct41), sl41⟩)
    (c41 : PySem.W.codeIn K cd41 "number_of" = true)
    (k41 : PySem.W.keepIn K (.ref f_number_of) = true)
    (a42 : PySem.W.nsIn K mainGlobals "read_block" = some (some (.ref f_read_block)))
    (l42 : K.lookup f_read_block = some ⟨oc42, od42, .func (PySem.W.fnOf "read_block" "read_block" (defArgs s_read_block) (defBody s_read_block) (defScope s_read_block) .none kV42 dc42 pm42 an42 cd42 ct42), sl42⟩)
    (c42 : PySem.W.codeIn K cd42 "read_block" = true)
    (k42 : PySem.W.keepIn K (.ref f_read_block) = true)
    (a43 : PySem.W.findIn K (.ref C_Side) "rot" = some (some (.ref f_Side_rot)))
    (i43 : PySem.W.isFn K (.ref f_Side_rot) = true)
    (l43 : K.lookup f_Side_rot = some ⟨oc43, od43, .func (PySem.W.fnOf "rot" "Side.rot" (defArgs s_Side_rot) (defBody s_Side_rot) (defScope s_Side_rot) .none kV43 dc43 pm43 an43 cd43 ct43), sl43⟩)
    (c43 : PySem.W.codeIn K cd43 "Side.rot" = true)
    (k43 : PySem.W.keepIn K (.ref f_Side_rot) = true)
    (a44 : PySem.W.nsIn K mainGlobals "_law_read_octets" = some (some (.ref f__law_read_octets)))
    (l44 : K.lookup f__law_read_octets = some ⟨oc44, od44, .func (PySem.W.fnOf "_law_read_octets" "_law_read_octets" (defArgs s__law_read_octets) (defBody s__law_read_octets) (defScope s__law_read_octets) .none kV44 dc44 pm44 an44 cd44 ct44), sl44⟩)
    (c44 : PySem.W.codeIn K cd44 "_law_read_octets" = true)
    (k44 : PySem.W.keepIn K (.ref f__law_read_octets) = true)
    (a45 : PySem.W.nsIn K mainGlobals "_law_rots" = some (some (.ref f__law_rots)))
    (l45 : K.lookup f__law_rots = some ⟨oc45, od45, .func (PySem.W.fnOf "_law_rots" "_law_rots" (defArgs s__law_rots) (defBody s__law_rots) (defScope s__law_rots) .none kV45 dc45 pm45 an45 cd45 ct45), sl45⟩)
    (c45 : PySem.W.codeIn K cd45 "_law_rots" = true)
    (k45 : PySem.W.keepIn K (.ref f__law_rots) = true)
    (a46 : PySem.W.nsIn K mainGlobals "seats_of_bits" = some (some (.ref f_seats_of_bits)))
    (l46 : K.lookup f_seats_of_bits = some ⟨oc46, od46, .func (PySem.W.fnOf "seats_of_bits" "seats_of_bits" (defArgs s_seats_of_bits) (defBody s_seats_of_bits) (defScope s_seats_of_bits) .none kV46 dc46 pm46 an46 cd46 ct46), sl46⟩)
    (c46 : PySem.W.codeIn K cd46 "seats_of_bits" = true)
    (k46 : PySem.W.keepIn K (.ref f_seats_of_bits) = true)
    (a47 : PySem.W.nsIn K mainGlobals "bits_of_seats" = some (some (.ref f_bits_of_seats)))
    (l47 : K.lookup f_bits_of_seats = some ⟨oc47, od47, .func (PySem.W.fnOf "bits_of_seats" "bits_of_seats" (defArgs s_bits_of_seats) (defBody s_bits_of_seats) (defScope s_bits_of_seats) .none kV47 dc47 pm47 an47 cd47 ct47), sl47⟩)
    (c47 : PySem.W.codeIn K cd47 "bits_of_seats" = true)
    (k47 : PySem.W.keepIn K (.ref f_bits_of_seats) = true)
    (a48 : PySem.W.nsIn K mainGlobals "label_block" = some (some (.ref f_label_block)))
    (l48 : K.lookup f_label_block = some ⟨oc48, od48, .func (PySem.W.fnOf "label_block" "label_block" (defArgs s_label_block) (defBody s_label_block) (defScope s_label_block) .none kV48 dc48 pm48 an48 cd48 ct48), sl48⟩)
    (c48 : PySem.W.codeIn K cd48 "label_block" = true)
    (k48 : PySem.W.keepIn K (.ref f_label_block) = true)
    (a49 : PySem.W.nsIn K mainGlobals "label_of" = some (some (.ref f_label_of)))
    (l49 : K.lookup f_label_of = some ⟨oc49, od49, .func (PySem.W.fnOf "label_of" "label_of" (defArgs s_label_of) (defBody s_label_of) (defScope s_label_of) .none kV49 dc49 pm49 an49 cd49 ct49), sl49⟩)
    (c49 : PySem.W.codeIn K cd49 "label_of" = true)
    (k49 : PySem.W.keepIn K (.ref f_label_of) = true)
    (a50 : PySem.W.nsIn K mainGlobals "is_whole" = some (some (.ref f_is_whole)))
    (l50 : K.lookup f_is_whole = some ⟨oc50, od50, .func (PySem.W.fnOf "is_whole" "is_whole" (defArgs s_is_whole) (defBody s_is_whole) (defScope s_is_whole) .none kV50 dc50 pm50 an50 cd50 ct50), sl50⟩)
    (c50 : PySem.W.codeIn K cd50 "is_whole" = true)
    (k50 : PySem.W.keepIn K (.ref f_is_whole) = true)
    (a51 : PySem.W.findIn K (.ref C_Side) "read" = some (some (.ref f_Side_read)))
    (i51 : PySem.W.isFn K (.ref f_Side_read) = true)
    (l51 : K.lookup f_Side_read = some ⟨oc51, od51, .func (PySem.W.fnOf "read" "Side.read" (defArgs s_Side_read) (defBody s_Side_read) (defScope s_Side_read) .none kV51 dc51 pm51 an51 cd51 ct51), sl51⟩)
    (c51 : PySem.W.codeIn K cd51 "Side.read" = true)
    (k51 : PySem.W.keepIn K (.ref f_Side_read) = true)
    (a52 : PySem.W.findIn K (.ref C_Side) "labels" = some (some (.ref f_Side_labels)))
    (i52 : PySem.W.isFn K (.ref f_Side_labels) = true)
    (l52 : K.lookup f_Side_labels = some ⟨oc52, od52, .func (PySem.W.fnOf "labels" "Side.labels" (defArgs s_Side_labels) (defBody s_Side_labels) (defScope s_Side_labels) .none kV52 dc52 pm52 an52 cd52 ct52), sl52⟩)
    (c52 : PySem.W.codeIn K cd52 "Side.labels" = true)
    (k52 : PySem.W.keepIn K (.ref f_Side_labels) = true)
    (a53 : PySem.W.nsIn K mainGlobals "is_newer" = some (some (.ref f_is_newer)))
    (l53 : K.lookup f_is_newer = some ⟨oc53, od53, .func (PySem.W.fnOf "is_newer" "is_newer" (defArgs s_is_newer) (defBody s_is_newer) (defScope s_is_newer) .none kV53 dc53 pm53 an53 cd53 ct53), sl53⟩)
    (c53 : PySem.W.codeIn K cd53 "is_newer" = true)
    (k53 : PySem.W.keepIn K (.ref f_is_newer) = true)
    (a54 : PySem.W.nsIn K mainGlobals "newest_label" = some (some (.ref f_newest_label)))
    (l54 : K.lookup f_newest_label = some ⟨oc54, od54, .func (PySem.W.fnOf "newest_label" "newest_label" (defArgs s_newest_label) (defBody s_newest_label) (defScope s_newest_label) .none kV54 dc54 pm54 an54 cd54 ct54), sl54⟩)
    (c54 : PySem.W.codeIn K cd54 "newest_label" = true)
    (k54 : PySem.W.keepIn K (.ref f_newest_label) = true)
    (a55 : PySem.W.findIn K (.ref C_Side) "write_label" = some (some (.ref f_Side_write_label)))
    (i55 : PySem.W.isFn K (.ref f_Side_write_label) = true)
    (l55 : K.lookup f_Side_write_label = some ⟨oc55, od55, .func (PySem.W.fnOf "write_label" "Side.write_label" (defArgs s_Side_write_label) (defBody s_Side_write_label) (defScope s_Side_write_label) .none kV55 dc55 pm55 an55 cd55 ct55), sl55⟩)
    (c55 : PySem.W.codeIn K cd55 "Side.write_label" = true)
    (k55 : PySem.W.keepIn K (.ref f_Side_write_label) = true)
    (a56 : PySem.W.nsIn K mainGlobals "_law_label_block" = some (some (.ref f__law_label_block)))
    (l56 : K.lookup f__law_label_block = some ⟨oc56, od56, .func (PySem.W.fnOf "_law_label_block" "_law_label_block" (defArgs s__law_label_block) (defBody s__law_label_block) (defScope s__law_label_block) .none kV56 dc56 pm56 an56 cd56 ct56), sl56⟩)
    (c56 : PySem.W.codeIn K cd56 "_law_label_block" = true)
    (k56 : PySem.W.keepIn K (.ref f__law_label_block) = true)
    (a57 : PySem.W.nsIn K mainGlobals "_law_label_cell" = some (some (.ref f__law_label_cell)))
    (l57 : K.lookup f__law_label_cell = some ⟨oc57, od57, .func (PySem.W.fnOf "_law_label_cell" "_law_label_cell" (defArgs s__law_label_cell) (defBody s__law_label_cell) (defScope s__law_label_cell) .none kV57 dc57 pm57 an57 cd57 ct57), sl57⟩)
    (c57 : PySem.W.codeIn K cd57 "_law_label_cell" = true)
    (k57 : PySem.W.keepIn K (.ref f__law_label_cell) = true)
    (a58 : PySem.W.nsIn K mainGlobals "_law_whole" = some (some (.ref f__law_whole)))
    (l58 : K.lookup f__law_whole = some ⟨oc58, od58, .func (PySem.W.fnOf "_law_whole" "_law_whole" (defArgs s__law_whole) (defBody s__law_whole) (defScope s__law_whole) .none kV58 dc58 pm58 an58 cd58 ct58), sl58⟩)
    (c58 : PySem.W.codeIn K cd58 "_law_whole" = true)
    (k58 : PySem.W.keepIn K (.ref f__law_whole) = true)
    (a59 : PySem.W.nsIn K mainGlobals "_law_label_at" = some (some (.ref f__law_label_at)))
    (l59 : K.lookup f__law_label_at = some ⟨oc59, od59, .func (PySem.W.fnOf "_law_label_at" "_law_label_at" (defArgs s__law_label_at) (defBody s__law_label_at) (defScope s__law_label_at) .none kV59 dc59 pm59 an59 cd59 ct59), sl59⟩)
    (c59 : PySem.W.codeIn K cd59 "_law_label_at" = true)
    (k59 : PySem.W.keepIn K (.ref f__law_label_at) = true)
    (a60 : PySem.W.nsIn K mainGlobals "_law_ahead" = some (some (.ref f__law_ahead)))
    (l60 : K.lookup f__law_ahead = some ⟨oc60, od60, .func (PySem.W.fnOf "_law_ahead" "_law_ahead" (defArgs s__law_ahead) (defBody s__law_ahead) (defScope s__law_ahead) .none kV60 dc60 pm60 an60 cd60 ct60), sl60⟩)
    (c60 : PySem.W.codeIn K cd60 "_law_ahead" = true)
    (k60 : PySem.W.keepIn K (.ref f__law_ahead) = true)
    (a61 : PySem.W.nsIn K mainGlobals "_law_slot" = some (some (.ref f__law_slot)))
    (l61 : K.lookup f__law_slot = some ⟨oc61, od61, .func (PySem.W.fnOf "_law_slot" "_law_slot" (defArgs s__law_slot) (defBody s__law_slot) (defScope s__law_slot) .none kV61 dc61 pm61 an61 cd61 ct61), sl61⟩)
    (c61 : PySem.W.codeIn K cd61 "_law_slot" = true)
    (k61 : PySem.W.keepIn K (.ref f__law_slot) = true)
    (a62 : PySem.W.nsIn K mainGlobals "_law_deed" = some (some (.ref f__law_deed)))
    (l62 : K.lookup f__law_deed = some ⟨oc62, od62, .func (PySem.W.fnOf "_law_deed" "_law_deed" (defArgs s__law_deed) (defBody s__law_deed) (defScope s__law_deed) .none kV62 dc62 pm62 an62 cd62 ct62), sl62⟩)
    (c62 : PySem.W.codeIn K cd62 "_law_deed" = true)
    (k62 : PySem.W.keepIn K (.ref f__law_deed) = true)
    (a63 : PySem.W.findIn K (.ref C_Device) "pending" = some (some (.ref f_Device_pending)))
    (i63 : PySem.W.isFn K (.ref f_Device_pending) = true)
    (l63 : K.lookup f_Device_pending = some ⟨oc63, od63, .func (PySem.W.fnOf "pending" "Device.pending" (defArgs s_Device_pending) (defBody s_Device_pending) (defScope s_Device_pending) .none kV63 dc63 pm63 an63 cd63 ct63), sl63⟩)
    (c63 : PySem.W.codeIn K cd63 "Device.pending" = true)
    (k63 : PySem.W.keepIn K (.ref f_Device_pending) = true)
    (a64 : PySem.W.findIn K (.ref C_Side) "pending" = some (some (.ref f_Side_pending)))
    (i64 : PySem.W.isFn K (.ref f_Side_pending) = true)
    (l64 : K.lookup f_Side_pending = some ⟨oc64, od64, .func (PySem.W.fnOf "pending" "Side.pending" (defArgs s_Side_pending) (defBody s_Side_pending) (defScope s_Side_pending) .none kV64 dc64 pm64 an64 cd64 ct64), sl64⟩)
    (c64 : PySem.W.codeIn K cd64 "Side.pending" = true)
    (k64 : PySem.W.keepIn K (.ref f_Side_pending) = true)
    (a65 : PySem.W.findIn K (.ref C_Device) "sure_blocks" = some (some (.ref f_Device_sure_blocks)))
    (i65 : PySem.W.isFn K (.ref f_Device_sure_blocks) = true)
    (l65 : K.lookup f_Device_sure_blocks = some ⟨oc65, od65, .func (PySem.W.fnOf "sure_blocks" "Device.sure_blocks" (defArgs s_Device_sure_blocks) (defBody s_Device_sure_blocks) (defScope s_Device_sure_blocks) .none kV65 dc65 pm65 an65 cd65 ct65), sl65⟩)
    (c65 : PySem.W.codeIn K cd65 "Device.sure_blocks" = true)
    (k65 : PySem.W.keepIn K (.ref f_Device_sure_blocks) = true)
    (a66 : PySem.W.findIn K (.ref C_Side) "is_rotten" = some (some (.ref f_Side_is_rotten)))
    (i66 : PySem.W.isFn K (.ref f_Side_is_rotten) = true)
    (l66 : K.lookup f_Side_is_rotten = some ⟨oc66, od66, .func (PySem.W.fnOf "is_rotten" "Side.is_rotten" (defArgs s_Side_is_rotten) (defBody s_Side_is_rotten) (defScope s_Side_is_rotten) .none kV66 dc66 pm66 an66 cd66 ct66), sl66⟩)
    (c66 : PySem.W.codeIn K cd66 "Side.is_rotten" = true)
    (k66 : PySem.W.keepIn K (.ref f_Side_is_rotten) = true)
    (a67 : PySem.W.findIn K (.ref C_Side) "label" = some (some (.ref f_Side_label)))
    (i67 : PySem.W.isFn K (.ref f_Side_label) = true)
    (l67 : K.lookup f_Side_label = some ⟨oc67, od67, .func (PySem.W.fnOf "label" "Side.label" (defArgs s_Side_label) (defBody s_Side_label) (defScope s_Side_label) .none kV67 dc67 pm67 an67 cd67 ct67), sl67⟩)
    (c67 : PySem.W.codeIn K cd67 "Side.label" = true)
    (k67 : PySem.W.keepIn K (.ref f_Side_label) = true)
    (a68 : PySem.W.nsIn K mainGlobals "_law_own_label" = some (some (.ref f__law_own_label)))
    (l68 : K.lookup f__law_own_label = some ⟨oc68, od68, .func (PySem.W.fnOf "_law_own_label" "_law_own_label" (defArgs s__law_own_label) (defBody s__law_own_label) (defScope s__law_own_label) .none kV68 dc68 pm68 an68 cd68 ct68), sl68⟩)
    (c68 : PySem.W.codeIn K cd68 "_law_own_label" = true)
    (k68 : PySem.W.keepIn K (.ref f__law_own_label) = true)
    (a69 : PySem.W.nsIn K mainGlobals "_law_agrees" = some (some (.ref f__law_agrees)))
    (l69 : K.lookup f__law_agrees = some ⟨oc69, od69, .func (PySem.W.fnOf "_law_agrees" "_law_agrees" (defArgs s__law_agrees) (defBody s__law_agrees) (defScope s__law_agrees) .none kV69 dc69 pm69 an69 cd69 ct69), sl69⟩)
    (c69 : PySem.W.codeIn K cd69 "_law_agrees" = true)
    (k69 : PySem.W.keepIn K (.ref f__law_agrees) = true)
    (a70 : PySem.W.nsIn K mainGlobals "law" = some (some (.ref f_law)))
    (l70 : K.lookup f_law = some ⟨oc70, od70, .func (PySem.W.fnOf "law" "law" (defArgs s_law) (defBody s_law) (defScope s_law) .none kV70 dc70 pm70 an70 cd70 ct70), sl70⟩)
    (c70 : PySem.W.codeIn K cd70 "law" = true)
    (k70 : PySem.W.keepIn K (.ref f_law) = true)
    (x_Layout : PySem.W.nsIn K mainGlobals "Layout" = some (some (.ref C_Layout)))
    (x_Device : PySem.W.nsIn K mainGlobals "Device" = some (some (.ref C_Device)))
    (x_Side : PySem.W.nsIn K mainGlobals "Side" = some (some (.ref C_Side)))
    (pg_Layout : PySem.W.plainGet K C_Layout Str.empty = true)
    (hd_Layout : PySem.W.hasDictIn K C_Layout = true)
    (po_Layout : PySem.W.plainOver K C_Layout = true)
    (sa_Layout : PySem.W.findIn K (.ref C_Layout) "__setattr__" = some (some (.builtin "object.__setattr__")))
    (mk_Layout : PySem.W.makesIn K C_Layout = true)
    (kc_Layout : PySem.W.keepIn K (.ref C_Layout) = true)
    (pg_Device : PySem.W.plainGet K C_Device Str.empty = true)
    (hd_Device : PySem.W.hasDictIn K C_Device = true)
    (po_Device : PySem.W.plainOver K C_Device = true)
    (sa_Device : PySem.W.findIn K (.ref C_Device) "__setattr__" = some (some (.builtin "object.__setattr__")))
    (mk_Device : PySem.W.makesIn K C_Device = true)
    (kc_Device : PySem.W.keepIn K (.ref C_Device) = true)
    (pg_Side : PySem.W.plainGet K C_Side Str.empty = true)
    (hd_Side : PySem.W.hasDictIn K C_Side = true)
    (po_Side : PySem.W.plainOver K C_Side = true)
    (sa_Side : PySem.W.findIn K (.ref C_Side) "__setattr__" = some (some (.builtin "object.__setattr__")))
    (mk_Side : PySem.W.makesIn K C_Side = true)
    (kc_Side : PySem.W.keepIn K (.ref C_Side) = true)
    (at_Layout_segments : PySem.W.findIn K (.ref C_Layout) "segments" = some none)
    (at_Layout_segment_blocks : PySem.W.findIn K (.ref C_Layout) "segment_blocks" = some none)
    (at_Layout_block_size : PySem.W.findIn K (.ref C_Layout) "block_size" = some none)
    (at_Layout_payload : PySem.W.findIn K (.ref C_Layout) "payload" = some none)
    (at_Layout_limit : PySem.W.findIn K (.ref C_Layout) "limit" = some none)
    (at_Layout_last_id : PySem.W.findIn K (.ref C_Layout) "last_id" = some none)
    (at_Layout_fan : PySem.W.findIn K (.ref C_Layout) "fan" = some none)
    (at_Layout_region_blocks : PySem.W.findIn K (.ref C_Layout) "region_blocks" = some none)
    (at_Layout_device_blocks : PySem.W.findIn K (.ref C_Layout) "device_blocks" = some none)
    (at_Device_layout : PySem.W.findIn K (.ref C_Device) "layout" = some none)
    (at_Device_sure : PySem.W.findIn K (.ref C_Device) "sure" = some none)
    (at_Device_seen : PySem.W.findIn K (.ref C_Device) "seen" = some none)
    (at_Device_waiting : PySem.W.findIn K (.ref C_Device) "waiting" = some none)
    (at_Device_fuse : PySem.W.findIn K (.ref C_Device) "fuse" = some none)
    (at_Device_dark : PySem.W.findIn K (.ref C_Device) "dark" = some none)
    (at_Side_layout : PySem.W.findIn K (.ref C_Side) "layout" = some none)
    (at_Side_seat : PySem.W.findIn K (.ref C_Side) "seat" = some none)
    (at_Side_device : PySem.W.findIn K (.ref C_Side) "device" = some none)
    (z_len : PySem.W.nsIn K mainGlobals "len" = some none)
    (z_int : PySem.W.nsIn K mainGlobals "int" = some none)
    (z_tuple : PySem.W.nsIn K mainGlobals "tuple" = some none)
    (z_range : PySem.W.nsIn K mainGlobals "range" = some none)
    (z_list : PySem.W.nsIn K mainGlobals "list" = some none)
    (z_enumerate : PySem.W.nsIn K mainGlobals "enumerate" = some none)
    (z_reversed : PySem.W.nsIn K mainGlobals "reversed" = some none)
    (z_max : PySem.W.nsIn K mainGlobals "max" = some none)
    (z_isinstance : PySem.W.nsIn K mainGlobals "isinstance" = some none)
    (z_bool : PySem.W.nsIn K mainGlobals "bool" = some none)
    (g_MOST_SEGMENTS : PySem.W.nsIn K mainGlobals "MOST_SEGMENTS" = some (some (.int 16 t_MOST_SEGMENTS)))
    (g_LEAST_SEGMENTS : PySem.W.nsIn K mainGlobals "LEAST_SEGMENTS" = some (some (.int 4 t_LEAST_SEGMENTS)))
    (g_MOST_BLOCKS : PySem.W.nsIn K mainGlobals "MOST_BLOCKS" = some (some (.int 32 t_MOST_BLOCKS)))
    (g_LEAST_BLOCKS : PySem.W.nsIn K mainGlobals "LEAST_BLOCKS" = some (some (.int 16 t_LEAST_BLOCKS)))
    (g_HEAD_OCTETS : PySem.W.nsIn K mainGlobals "HEAD_OCTETS" = some (some (.int 16 t_HEAD_OCTETS)))
    (g_SLOTS : PySem.W.nsIn K mainGlobals "SLOTS" = some (some (.int 3 t_SLOTS)))
    (g_LABELS : PySem.W.nsIn K mainGlobals "LABELS" = some (some (.int 2 t_LABELS)))
    (g_LETTERS_bodies : PySem.W.nsIn K mainGlobals "LETTERS_bodies" = some (some (.ref c_LETTERS_bodies)))
    (k_LETTERS_bodies : K.lookup c_LETTERS_bodies = some ⟨.type "tuple", od_LETTERS_bodies, .seq #[.int 83 t_LETTERS_bodies_0, .int 71 t_LETTERS_bodies_1, .int 70 t_LETTERS_bodies_2, .int 83 t_LETTERS_bodies_3] n_LETTERS_bodies, sl_LETTERS_bodies⟩)
    (g_HEADER : PySem.W.nsIn K mainGlobals "HEADER" = some (some (.int 16 t_HEADER)))
    (g_BITS : PySem.W.nsIn K mainGlobals "BITS" = some (some (.ref c_BITS)))
    (k_BITS : K.lookup c_BITS = some ⟨.type "tuple", od_BITS, .seq #[.int 1 t_BITS_0, .int 2 t_BITS_1, .int 4 t_BITS_2, .int 8 t_BITS_3, .int 16 t_BITS_4, .int 32 t_BITS_5, .int 64 t_BITS_6, .int 128 t_BITS_7] n_BITS, sl_BITS⟩)
    (g_COMMIT : PySem.W.nsIn K mainGlobals "COMMIT" = some (some (.int 1 t_COMMIT)))
    (g_MOVE : PySem.W.nsIn K mainGlobals "MOVE" = some (some (.int 2 t_MOVE)))
    (g_DATA : PySem.W.nsIn K mainGlobals "DATA" = some (some (.int 3 t_DATA)))
    (g_SPARE : PySem.W.nsIn K mainGlobals "SPARE" = some (some (.int 16 t_SPARE)))
    (g_FACTOR : PySem.W.nsIn K mainGlobals "FACTOR" = some (some (.int 257 t_FACTOR)))
    (g_PRIME : PySem.W.nsIn K mainGlobals "PRIME" = some (some (.int 4294967291 t_PRIME)))
    (g_MOST_ACTION : PySem.W.nsIn K mainGlobals "MOST_ACTION" = some (some (.int 6 t_MOST_ACTION)))
    (g_PART : PySem.W.nsIn K mainGlobals "PART" = some (some (.int 5 t_PART)))
    (g_SEATS : PySem.W.nsIn K mainGlobals "SEATS" = some (some (.int 3 t_SEATS)))
    (g_LETTERS_labels : PySem.W.nsIn K mainGlobals "LETTERS_labels" = some (some (.ref c_LETTERS_labels)))
    (k_LETTERS_labels : K.lookup c_LETTERS_labels = some ⟨.type "tuple", od_LETTERS_labels, .seq #[.int 83 t_LETTERS_labels_0, .int 73 t_LETTERS_labels_1, .int 68 t_LETTERS_labels_2, .int 69 t_LETTERS_labels_3] n_LETTERS_labels, sl_LETTERS_labels⟩)
    (g_FORK_OCTETS : PySem.W.nsIn K mainGlobals "FORK_OCTETS" = some (some (.int 3 t_FORK_OCTETS)))
    (g_MEMBERS_AT : PySem.W.nsIn K mainGlobals "MEMBERS_AT" = some (some (.int 6 t_MEMBERS_AT)))
    (g_COUNT_AT : PySem.W.nsIn K mainGlobals "COUNT_AT" = some (some (.int 12 t_COUNT_AT)))
    (g_MOST_FORKS : PySem.W.nsIn K mainGlobals "MOST_FORKS" = some (some (.int 16 t_MOST_FORKS)))
    (g_FORKS_AT : PySem.W.nsIn K mainGlobals "FORKS_AT" = some (some (.int 13 t_FORKS_AT)))
    : ∃ fd : FuncData, (∀ (s : Shared) (v : Value), BindsTo s fd ⟨[v], []⟩ [("script", v)]) ∧ ∀ base : Heap, K.In base → base.Ns mainGlobals mg → FnOk l.prog w K mg base CX0 11 fa fd ["script"] (spLaw K) := by
  have e := hfa.symm.trans (PySem.W.mg_of X G a70)
  cases e
  have F__law_number := fun_mk (st := s__law_number) l0 c0 k0
  have b__law_number := F__law_number.binds (ps := ["script", "k"]) fun _ _ _ _ _ _ us hl => match us, hl with | [_, _], _ => rfl
  have F__law_take := fun_mk (st := s__law_take) l1 c1 k1
  have b__law_take := F__law_take.binds (ps := ["box", "size"]) fun _ _ _ _ _ _ us hl => match us, hl with | [_, _], _ => rfl
  have F_parts_of := fun_mk (st := s_parts_of) l2 c2 k2
  have b_parts_of := F_parts_of.binds (ps := ["number", "size"]) fun _ _ _ _ _ _ us hl => match us, hl with | [_, _], _ => rfl
  have F_Layout___init__ := fun_mk (st := s_Layout___init__) l3 c3 k3
  have b_Layout___init__ := F_Layout___init__.binds (ps := ["self", "segments", "segment_blocks", "block_size"]) fun _ _ _ _ _ _ us hl => match us, hl with | [_, _, _, _], _ => rfl
  have F__law_layout := fun_mk (st := s__law_layout) l4 c4 k4
  have b__law_layout := F__law_layout.binds (ps := ["box"]) fun _ _ _ _ _ _ us hl => match us, hl with | [_], _ => rfl
  have F__law_block := fun_mk (st := s__law_block) l5 c5 k5
  have b__law_block := F__law_block.binds (ps := ["layout", "box"]) fun _ _ _ _ _ _ us hl => match us, hl with | [_, _], _ => rfl
  have F__law_low := fun_mk (st := s__law_low) l6 c6 k6
  have b__law_low := F__law_low.binds (ps := ["number", "count"]) fun _ _ _ _ _ _ us hl => match us, hl with | [_, _], _ => rfl
  have F__law_octets := fun_mk (st := s__law_octets) l7 c7 k7
  have b__law_octets := F__law_octets.binds (ps := ["layout", "block"]) fun _ _ _ _ _ _ us hl => match us, hl with | [_, _], _ => rfl
  have F__law_check := fun_mk (st := s__law_check) l8 c8 k8
  have b__law_check := F__law_check.binds (ps := ["layout", "address", "block"]) fun _ _ _ _ _ _ us hl => match us, hl with | [_, _, _], _ => rfl
  have F__law_sealed := fun_mk (st := s__law_sealed) l9 c9 k9
  have b__law_sealed := F__law_sealed.binds (ps := ["layout", "address", "block"]) fun _ _ _ _ _ _ us hl => match us, hl with | [_, _, _], _ => rfl
  have F__law_cell := fun_mk (st := s__law_cell) l10 c10 k10
  have b__law_cell := F__law_cell.binds (ps := ["layout", "address", "box"]) fun _ _ _ _ _ _ us hl => match us, hl with | [_, _, _], _ => rfl
  have F_Device___init__ : FunD K "__init__" "Device.__init__" (defArgs s_Device___init__) (defBody s_Device___init__) (defScope s_Device___init__) [V.non] [] f_Device___init__ _ := ⟨⟨_, _, _, _, _, _, _, _, _, _, rfl, l11, c11, .inr ⟨by decide, _, _, [Value.none], _, rfl, dl11, rfl, .cons rfl (.nil)⟩, .inl rfl⟩, k11⟩
  obtain ⟨dz_Device___init__, dy_Device___init__, b_Device___init__⟩ := F_Device___init__.binds1 (ps := ["self", "layout", "blocks"]) 3 1 (by decide) rfl fun _ _ _ _ _ _ _ us its hl hi => match us, its, hl, hi with | [_, _, _], [_], _, _ => ⟨_, rfl, rfl⟩
  cases dy_Device___init__
  have F_Side___init__ : FunD K "__init__" "Side.__init__" (defArgs s_Side___init__) (defBody s_Side___init__) (defScope s_Side___init__) [V.non] [] f_Side___init__ _ := ⟨⟨_, _, _, _, _, _, _, _, _, _, rfl, l12, c12, .inr ⟨by decide, _, _, [Value.none], _, rfl, dl12, rfl, .cons rfl (.nil)⟩, .inl rfl⟩, k12⟩
  obtain ⟨dz_Side___init__, dy_Side___init__, b_Side___init__⟩ := F_Side___init__.binds1 (ps := ["self", "layout", "seat", "cells"]) 4 1 (by decide) rfl fun _ _ _ _ _ _ _ us its hl hi => match us, its, hl, hi with | [_, _, _, _], [_], _, _ => ⟨_, rfl, rfl⟩
  cases dy_Side___init__
  obtain ⟨ds_Side___init___2, d_Side___init___2, b_Side___init___2⟩ := F_Side___init__.binds1 (ps := ["self", "layout", "seat", "cells"]) 3 0 (by decide) rfl fun _ _ _ _ _ _ _ us its hl hi => match us, its, hl, hi with | [_, _, _], [_], _, _ => ⟨_, rfl, rfl⟩
  have F__law_copy := fun_mk (st := s__law_copy) l13 c13 k13
  have b__law_copy := F__law_copy.binds (ps := ["model"]) fun _ _ _ _ _ _ us hl => match us, hl with | [_], _ => rfl
  have F__law_left := fun_mk (st := s__law_left) l14 c14 k14
  have b__law_left := F__law_left.binds (ps := ["model", "kept", "torn"]) fun _ _ _ _ _ _ us hl => match us, hl with | [_, _, _], _ => rfl
  have F_Device_left := fun_mk (st := s_Device_left) l15 c15 k15
  have kb_Device_left : KBn K (PySem.W.fnOf "left" "Device.left" (defArgs s_Device_left) (defBody s_Device_left) (defScope s_Device_left) .none kV15 dc15 pm15 an15 cd15 ct15) ["self", "kept", "torn"] 2 ["torn"] (fun us ws => us ++ ws) (fun vs zs => vs ++ zs) := ⟨fun s us ws _ l1 l2 => match us, l1, ws, l2 with | [_, _], _, [_], _ => BindsTo.of_eq rfl, fun r1 r2 => r1.append r2⟩
  have F_Side_left := fun_mk (st := s_Side_left) l16 c16 k16
  have kb_Side_left : KBn K (PySem.W.fnOf "left" "Side.left" (defArgs s_Side_left) (defBody s_Side_left) (defScope s_Side_left) .none kV16 dc16 pm16 an16 cd16 ct16) ["self", "kept", "torn"] 2 ["torn"] (fun us ws => us ++ ws) (fun vs zs => vs ++ zs) := ⟨fun s us ws _ l1 l2 => match us, l1, ws, l2 with | [_, _], _, [_], _ => BindsTo.of_eq rfl, fun r1 r2 => r1.append r2⟩
  have F_Device_read := fun_mk (st := s_Device_read) l17 c17 k17
  have b_Device_read := F_Device_read.binds (ps := ["self", "address"]) fun _ _ _ _ _ _ us hl => match us, hl with | [_, _], _ => rfl
  have F_Side_settled := fun_mk (st := s_Side_settled) l18 c18 k18
  have b_Side_settled := F_Side_settled.binds (ps := ["self"]) fun _ _ _ _ _ _ us hl => match us, hl with | [_], _ => rfl
  have F_Device_fork := fun_mk (st := s_Device_fork) l19 c19 k19
  have b_Device_fork := F_Device_fork.binds (ps := ["self"]) fun _ _ _ _ _ _ us hl => match us, hl with | [_], _ => rfl
  have F_Side_fork := fun_mk (st := s_Side_fork) l20 c20 k20
  have b_Side_fork := F_Side_fork.binds (ps := ["self"]) fun _ _ _ _ _ _ us hl => match us, hl with | [_], _ => rfl
  have F__law_next := fun_mk (st := s__law_next) l21 c21 k21
  have b__law_next := F__law_next.binds (ps := ["side", "model", "box"]) fun _ _ _ _ _ _ us hl => match us, hl with | [_, _, _], _ => rfl
  have F_Device__count_command := fun_mk (st := s_Device__count_command) l22 c22 k22
  have b_Device__count_command := F_Device__count_command.binds (ps := ["self"]) fun _ _ _ _ _ _ us hl => match us, hl with | [_], _ => rfl
  have F_Device_write := fun_mk (st := s_Device_write) l23 c23 k23
  have b_Device_write := F_Device_write.binds (ps := ["self", "address", "block"]) fun _ _ _ _ _ _ us hl => match us, hl with | [_, _, _], _ => rfl
  have F_number_octets := fun_mk (st := s_number_octets) l24 c24 k24
  have b_number_octets := F_number_octets.binds (ps := ["number", "count"]) fun _ _ _ _ _ _ us hl => match us, hl with | [_, _], _ => rfl
  have F_pairs_of := fun_mk (st := s_pairs_of) l25 c25 k25
  have b_pairs_of := F_pairs_of.binds (ps := ["numbers"]) fun _ _ _ _ _ _ us hl => match us, hl with | [_], _ => rfl
  have F_summary_octets := fun_mk (st := s_summary_octets) l26 c26 k26
  have b_summary_octets := F_summary_octets.binds (ps := ["layout", "mark", "numbers", "action"]) fun _ _ _ _ _ _ us hl => match us, hl with | [_, _, _, _], _ => rfl
  have F_bits_of := fun_mk (st := s_bits_of) l27 c27 k27
  have b_bits_of := F_bits_of.binds (ps := ["used", "last_id"]) fun _ _ _ _ _ _ us hl => match us, hl with | [_, _], _ => rfl
  have F_body_octets := fun_mk (st := s_body_octets) l28 c28 k28
  have b_body_octets := F_body_octets.binds (ps := ["layout", "kind", "body"]) fun _ _ _ _ _ _ us hl => match us, hl with | [_, _, _], _ => rfl
  have F_block_octets := fun_mk (st := s_block_octets) l29 c29 k29
  have b_block_octets := F_block_octets.binds (ps := ["layout", "block"]) fun _ _ _ _ _ _ us hl => match us, hl with | [_, _], _ => rfl
  have F_check_of := fun_mk (st := s_check_of) l30 c30 k30
  have b_check_of := F_check_of.binds (ps := ["layout", "address", "block"]) fun _ _ _ _ _ _ us hl => match us, hl with | [_, _, _], _ => rfl
  have F_sealed := fun_mk (st := s_sealed) l31 c31 k31
  have b_sealed := F_sealed.binds (ps := ["layout", "address", "block"]) fun _ _ _ _ _ _ us hl => match us, hl with | [_, _, _], _ => rfl
  have F_Side_write := fun_mk (st := s_Side_write) l32 c32 k32
  have b_Side_write := F_Side_write.binds (ps := ["self", "address", "block"]) fun _ _ _ _ _ _ us hl => match us, hl with | [_, _, _], _ => rfl
  have F__law_put := fun_mk (st := s__law_put) l33 c33 k33
  have b__law_put := F__law_put.binds (ps := ["model", "address", "cell"]) fun _ _ _ _ _ _ us hl => match us, hl with | [_, _, _], _ => rfl
  have F_Device_barrier := fun_mk (st := s_Device_barrier) l34 c34 k34
  have b_Device_barrier := F_Device_barrier.binds (ps := ["self"]) fun _ _ _ _ _ _ us hl => match us, hl with | [_], _ => rfl
  have F_Side_barrier := fun_mk (st := s_Side_barrier) l35 c35 k35
  have b_Side_barrier := F_Side_barrier.binds (ps := ["self"]) fun _ _ _ _ _ _ us hl => match us, hl with | [_], _ => rfl
  have F__law_bar := fun_mk (st := s__law_bar) l36 c36 k36
  have b__law_bar := F__law_bar.binds (ps := ["model"]) fun _ _ _ _ _ _ us hl => match us, hl with | [_], _ => rfl
  have F_Device_decay := fun_mk (st := s_Device_decay) l37 c37 k37
  have b_Device_decay := F_Device_decay.binds (ps := ["self", "address", "block"]) fun _ _ _ _ _ _ us hl => match us, hl with | [_, _, _], _ => rfl
  have F_numbers_of := fun_mk (st := s_numbers_of) l38 c38 k38
  have b_numbers_of := F_numbers_of.binds (ps := ["octets"]) fun _ _ _ _ _ _ us hl => match us, hl with | [_], _ => rfl
  have F_used_of := fun_mk (st := s_used_of) l39 c39 k39
  have b_used_of := F_used_of.binds (ps := ["octets", "last_id"]) fun _ _ _ _ _ _ us hl => match us, hl with | [_, _], _ => rfl
  have F_read_body := fun_mk (st := s_read_body) l40 c40 k40
  have b_read_body := F_read_body.binds (ps := ["layout", "kind", "octets"]) fun _ _ _ _ _ _ us hl => match us, hl with | [_, _, _], _ => rfl
  have F_number_of := fun_mk (st := s_number_of) l41 c41 k41
  have b_number_of := F_number_of.binds (ps := ["octets"]) fun _ _ _ _ _ _ us hl => match us, hl with | [_], _ => rfl
  have F_read_block := fun_mk (st := s_read_block) l42 c42 k42
  have b_read_block := F_read_block.binds (ps := ["layout", "octets"]) fun _ _ _ _ _ _ us hl => match us, hl with | [_, _], _ => rfl
  have F_Side_rot := fun_mk (st := s_Side_rot) l43 c43 k43
  have b_Side_rot := F_Side_rot.binds (ps := ["self", "address", "place", "octet"]) fun _ _ _ _ _ _ us hl => match us, hl with | [_, _, _, _], _ => rfl
  have F__law_read_octets := fun_mk (st := s__law_read_octets) l44 c44 k44
  have b__law_read_octets := F__law_read_octets.binds (ps := ["layout", "octets"]) fun _ _ _ _ _ _ us hl => match us, hl with | [_, _], _ => rfl
  have F__law_rots := fun_mk (st := s__law_rots) l45 c45 k45
  have b__law_rots := F__law_rots.binds (ps := ["layout", "model", "address", "place", "octet"]) fun _ _ _ _ _ _ us hl => match us, hl with | [_, _, _, _, _], _ => rfl
  have F_seats_of_bits := fun_mk (st := s_seats_of_bits) l46 c46 k46
  have b_seats_of_bits := F_seats_of_bits.binds (ps := ["octets"]) fun _ _ _ _ _ _ us hl => match us, hl with | [_], _ => rfl
  have F_bits_of_seats := fun_mk (st := s_bits_of_seats) l47 c47 k47
  have b_bits_of_seats := F_bits_of_seats.binds (ps := ["seats"]) fun _ _ _ _ _ _ us hl => match us, hl with | [_], _ => rfl
  have F_label_block := fun_mk (st := s_label_block) l48 c48 k48
  have b_label_block := F_label_block.binds (ps := ["layout", "seat", "label"]) fun _ _ _ _ _ _ us hl => match us, hl with | [_, _, _], _ => rfl
  have F_label_of := fun_mk (st := s_label_of) l49 c49 k49
  have b_label_of := F_label_of.binds (ps := ["layout", "seat", "block"]) fun _ _ _ _ _ _ us hl => match us, hl with | [_, _, _], _ => rfl
  have F_is_whole := fun_mk (st := s_is_whole) l50 c50 k50
  have b_is_whole := F_is_whole.binds (ps := ["layout", "address", "cell"]) fun _ _ _ _ _ _ us hl => match us, hl with | [_, _, _], _ => rfl
  have F_Side_read := fun_mk (st := s_Side_read) l51 c51 k51
  have b_Side_read := F_Side_read.binds (ps := ["self", "address"]) fun _ _ _ _ _ _ us hl => match us, hl with | [_, _], _ => rfl
  have F_Side_labels := fun_mk (st := s_Side_labels) l52 c52 k52
  have b_Side_labels := F_Side_labels.binds (ps := ["self"]) fun _ _ _ _ _ _ us hl => match us, hl with | [_], _ => rfl
  have F_is_newer := fun_mk (st := s_is_newer) l53 c53 k53
  have b_is_newer := F_is_newer.binds (ps := ["label", "other"]) fun _ _ _ _ _ _ us hl => match us, hl with | [_, _], _ => rfl
  have F_newest_label := fun_mk (st := s_newest_label) l54 c54 k54
  have b_newest_label := F_newest_label.binds (ps := ["labels"]) fun _ _ _ _ _ _ us hl => match us, hl with | [_], _ => rfl
  have F_Side_write_label := fun_mk (st := s_Side_write_label) l55 c55 k55
  have b_Side_write_label := F_Side_write_label.binds (ps := ["self", "label"]) fun _ _ _ _ _ _ us hl => match us, hl with | [_, _], _ => rfl
  have F__law_label_block := fun_mk (st := s__law_label_block) l56 c56 k56
  have b__law_label_block := F__law_label_block.binds (ps := ["layout", "seat", "label"]) fun _ _ _ _ _ _ us hl => match us, hl with | [_, _, _], _ => rfl
  have F__law_label_cell := fun_mk (st := s__law_label_cell) l57 c57 k57
  have b__law_label_cell := F__law_label_cell.binds (ps := ["layout", "seat", "label", "slot"]) fun _ _ _ _ _ _ us hl => match us, hl with | [_, _, _, _], _ => rfl
  have F__law_whole := fun_mk (st := s__law_whole) l58 c58 k58
  have b__law_whole := F__law_whole.binds (ps := ["layout", "address", "cell"]) fun _ _ _ _ _ _ us hl => match us, hl with | [_, _, _], _ => rfl
  have F__law_label_at := fun_mk (st := s__law_label_at) l59 c59 k59
  have b__law_label_at := F__law_label_at.binds (ps := ["layout", "seat", "row", "slot"]) fun _ _ _ _ _ _ us hl => match us, hl with | [_, _, _, _], _ => rfl
  have F__law_ahead := fun_mk (st := s__law_ahead) l60 c60 k60
  have b__law_ahead := F__law_ahead.binds (ps := ["one", "two"]) fun _ _ _ _ _ _ us hl => match us, hl with | [_, _], _ => rfl
  have F__law_slot := fun_mk (st := s__law_slot) l61 c61 k61
  have b__law_slot := F__law_slot.binds (ps := ["layout", "seat", "row"]) fun _ _ _ _ _ _ us hl => match us, hl with | [_, _, _], _ => rfl
  have F__law_deed := fun_mk (st := s__law_deed) l62 c62 k62
  have b__law_deed := F__law_deed.binds (ps := ["layout", "side", "model", "box"]) fun _ _ _ _ _ _ us hl => match us, hl with | [_, _, _, _], _ => rfl
  have F_Device_pending := fun_mk (st := s_Device_pending) l63 c63 k63
  have b_Device_pending := F_Device_pending.binds (ps := ["self"]) fun _ _ _ _ _ _ us hl => match us, hl with | [_], _ => rfl
  have F_Side_pending := fun_mk (st := s_Side_pending) l64 c64 k64
  have b_Side_pending := F_Side_pending.binds (ps := ["self"]) fun _ _ _ _ _ _ us hl => match us, hl with | [_], _ => rfl
  have F_Device_sure_blocks := fun_mk (st := s_Device_sure_blocks) l65 c65 k65
  have b_Device_sure_blocks := F_Device_sure_blocks.binds (ps := ["self"]) fun _ _ _ _ _ _ us hl => match us, hl with | [_], _ => rfl
  have F_Side_is_rotten := fun_mk (st := s_Side_is_rotten) l66 c66 k66
  have b_Side_is_rotten := F_Side_is_rotten.binds (ps := ["self", "address"]) fun _ _ _ _ _ _ us hl => match us, hl with | [_, _], _ => rfl
  have F_Side_label := fun_mk (st := s_Side_label) l67 c67 k67
  have b_Side_label := F_Side_label.binds (ps := ["self"]) fun _ _ _ _ _ _ us hl => match us, hl with | [_], _ => rfl
  have F__law_own_label := fun_mk (st := s__law_own_label) l68 c68 k68
  have b__law_own_label := F__law_own_label.binds (ps := ["layout", "seat", "row"]) fun _ _ _ _ _ _ us hl => match us, hl with | [_, _, _], _ => rfl
  have F__law_agrees := fun_mk (st := s__law_agrees) l69 c69 k69
  have b__law_agrees := F__law_agrees.binds (ps := ["layout", "side", "model", "box"]) fun _ _ _ _ _ _ us hl => match us, hl with | [_, _, _, _], _ => rfl
  have F_law := fun_mk (st := s_law) l70 c70 k70
  have b_law := F_law.binds (ps := ["script"]) fun _ _ _ _ _ _ us hl => match us, hl with | [_], _ => rfl
  exact ⟨_, fun s v => .of_eq rfl, fun base _ _ => ok_law { f__law_number := f__law_number, fd__law_number := _, F__law_number := F__law_number, b__law_number := b__law_number, g__law_number := PySem.W.mg_of X G a0, f__law_take := f__law_take, fd__law_take := _, F__law_take := F__law_take, b__law_take := b__law_take, g__law_take := PySem.W.mg_of X G a1, f_parts_of := f_parts_of, fd_parts_of := _, F_parts_of := F_parts_of, b_parts_of := b_parts_of, g_parts_of := PySem.W.mg_of X G a2, f_Layout___init__ := f_Layout___init__, fd_Layout___init__ := _, F_Layout___init__ := F_Layout___init__, b_Layout___init__ := b_Layout___init__, mk_Layout := ⟨mk_Layout, a3, i3, kc_Layout⟩, f__law_layout := f__law_layout, fd__law_layout := _, F__law_layout := F__law_layout, b__law_layout := b__law_layout, g__law_layout := PySem.W.mg_of X G a4, f__law_block := f__law_block, fd__law_block := _, F__law_block := F__law_block, b__law_block := b__law_block, g__law_block := PySem.W.mg_of X G a5, f__law_low := f__law_low, fd__law_low := _, F__law_low := F__law_low, b__law_low := b__law_low, g__law_low := PySem.W.mg_of X G a6, f__law_octets := f__law_octets, fd__law_octets := _, F__law_octets := F__law_octets, b__law_octets := b__law_octets, g__law_octets := PySem.W.mg_of X G a7, f__law_check := f__law_check, fd__law_check := _, F__law_check := F__law_check, b__law_check := b__law_check, g__law_check := PySem.W.mg_of X G a8, f__law_sealed := f__law_sealed, fd__law_sealed := _, F__law_sealed := F__law_sealed, b__law_sealed := b__law_sealed, g__law_sealed := PySem.W.mg_of X G a9, f__law_cell := f__law_cell, fd__law_cell := _, F__law_cell := F__law_cell, b__law_cell := b__law_cell, g__law_cell := PySem.W.mg_of X G a10, f_Device___init__ := f_Device___init__, fd_Device___init__ := _, F_Device___init__ := F_Device___init__, b_Device___init__ := b_Device___init__, mk_Device := ⟨mk_Device, a11, i11, kc_Device⟩, f_Side___init__ := f_Side___init__, fd_Side___init__ := _, F_Side___init__ := F_Side___init__, b_Side___init__ := b_Side___init__, ds_Side___init___2 := ds_Side___init___2, d_Side___init___2 := d_Side___init___2, b_Side___init___2 := b_Side___init___2, mk_Side := ⟨mk_Side, a12, i12, kc_Side⟩, f__law_copy := f__law_copy, fd__law_copy := _, F__law_copy := F__law_copy, b__law_copy := b__law_copy, g__law_copy := PySem.W.mg_of X G a13, f__law_left := f__law_left, fd__law_left := _, F__law_left := F__law_left, b__law_left := b__law_left, g__law_left := PySem.W.mg_of X G a14, f_Device_left := f_Device_left, fd_Device_left := _, F_Device_left := F_Device_left, kb_Device_left := kb_Device_left, m_Device_left := ⟨a15, i15, k15⟩, f_Side_left := f_Side_left, fd_Side_left := _, F_Side_left := F_Side_left, kb_Side_left := kb_Side_left, m_Side_left := ⟨a16, i16, k16⟩, f_Device_read := f_Device_read, fd_Device_read := _, F_Device_read := F_Device_read, b_Device_read := b_Device_read, m_Device_read := ⟨a17, i17, k17⟩, f_Side_settled := f_Side_settled, fd_Side_settled := _, F_Side_settled := F_Side_settled, b_Side_settled := b_Side_settled, m_Side_settled := ⟨a18, i18, k18⟩, f_Device_fork := f_Device_fork, fd_Device_fork := _, F_Device_fork := F_Device_fork, b_Device_fork := b_Device_fork, m_Device_fork := ⟨a19, i19, k19⟩, f_Side_fork := f_Side_fork, fd_Side_fork := _, F_Side_fork := F_Side_fork, b_Side_fork := b_Side_fork, m_Side_fork := ⟨a20, i20, k20⟩, f__law_next := f__law_next, fd__law_next := _, F__law_next := F__law_next, b__law_next := b__law_next, g__law_next := PySem.W.mg_of X G a21, f_Device__count_command := f_Device__count_command, fd_Device__count_command := _, F_Device__count_command := F_Device__count_command, b_Device__count_command := b_Device__count_command, m_Device__count_command := ⟨a22, i22, k22⟩, f_Device_write := f_Device_write, fd_Device_write := _, F_Device_write := F_Device_write, b_Device_write := b_Device_write, m_Device_write := ⟨a23, i23, k23⟩, f_number_octets := f_number_octets, fd_number_octets := _, F_number_octets := F_number_octets, b_number_octets := b_number_octets, g_number_octets := PySem.W.mg_of X G a24, f_pairs_of := f_pairs_of, fd_pairs_of := _, F_pairs_of := F_pairs_of, b_pairs_of := b_pairs_of, g_pairs_of := PySem.W.mg_of X G a25, f_summary_octets := f_summary_octets, fd_summary_octets := _, F_summary_octets := F_summary_octets, b_summary_octets := b_summary_octets, g_summary_octets := PySem.W.mg_of X G a26, f_bits_of := f_bits_of, fd_bits_of := _, F_bits_of := F_bits_of, b_bits_of := b_bits_of, g_bits_of := PySem.W.mg_of X G a27, f_body_octets := f_body_octets, fd_body_octets := _, F_body_octets := F_body_octets, b_body_octets := b_body_octets, g_body_octets := PySem.W.mg_of X G a28, f_block_octets := f_block_octets, fd_block_octets := _, F_block_octets := F_block_octets, b_block_octets := b_block_octets, g_block_octets := PySem.W.mg_of X G a29, f_check_of := f_check_of, fd_check_of := _, F_check_of := F_check_of, b_check_of := b_check_of, g_check_of := PySem.W.mg_of X G a30, f_sealed := f_sealed, fd_sealed := _, F_sealed := F_sealed, b_sealed := b_sealed, g_sealed := PySem.W.mg_of X G a31, f_Side_write := f_Side_write, fd_Side_write := _, F_Side_write := F_Side_write, b_Side_write := b_Side_write, m_Side_write := ⟨a32, i32, k32⟩, f__law_put := f__law_put, fd__law_put := _, F__law_put := F__law_put, b__law_put := b__law_put, g__law_put := PySem.W.mg_of X G a33, f_Device_barrier := f_Device_barrier, fd_Device_barrier := _, F_Device_barrier := F_Device_barrier, b_Device_barrier := b_Device_barrier, m_Device_barrier := ⟨a34, i34, k34⟩, f_Side_barrier := f_Side_barrier, fd_Side_barrier := _, F_Side_barrier := F_Side_barrier, b_Side_barrier := b_Side_barrier, m_Side_barrier := ⟨a35, i35, k35⟩, f__law_bar := f__law_bar, fd__law_bar := _, F__law_bar := F__law_bar, b__law_bar := b__law_bar, g__law_bar := PySem.W.mg_of X G a36, f_Device_decay := f_Device_decay, fd_Device_decay := _, F_Device_decay := F_Device_decay, b_Device_decay := b_Device_decay, m_Device_decay := ⟨a37, i37, k37⟩, f_numbers_of := f_numbers_of, fd_numbers_of := _, F_numbers_of := F_numbers_of, b_numbers_of := b_numbers_of, g_numbers_of := PySem.W.mg_of X G a38, f_used_of := f_used_of, fd_used_of := _, F_used_of := F_used_of, b_used_of := b_used_of, g_used_of := PySem.W.mg_of X G a39, f_read_body := f_read_body, fd_read_body := _, F_read_body := F_read_body, b_read_body := b_read_body, g_read_body := PySem.W.mg_of X G a40, f_number_of := f_number_of, fd_number_of := _, F_number_of := F_number_of, b_number_of := b_number_of, g_number_of := PySem.W.mg_of X G a41, f_read_block := f_read_block, fd_read_block := _, F_read_block := F_read_block, b_read_block := b_read_block, g_read_block := PySem.W.mg_of X G a42, f_Side_rot := f_Side_rot, fd_Side_rot := _, F_Side_rot := F_Side_rot, b_Side_rot := b_Side_rot, m_Side_rot := ⟨a43, i43, k43⟩, f__law_read_octets := f__law_read_octets, fd__law_read_octets := _, F__law_read_octets := F__law_read_octets, b__law_read_octets := b__law_read_octets, g__law_read_octets := PySem.W.mg_of X G a44, f__law_rots := f__law_rots, fd__law_rots := _, F__law_rots := F__law_rots, b__law_rots := b__law_rots, g__law_rots := PySem.W.mg_of X G a45, f_seats_of_bits := f_seats_of_bits, fd_seats_of_bits := _, F_seats_of_bits := F_seats_of_bits, b_seats_of_bits := b_seats_of_bits, g_seats_of_bits := PySem.W.mg_of X G a46, f_bits_of_seats := f_bits_of_seats, fd_bits_of_seats := _, F_bits_of_seats := F_bits_of_seats, b_bits_of_seats := b_bits_of_seats, g_bits_of_seats := PySem.W.mg_of X G a47, f_label_block := f_label_block, fd_label_block := _, F_label_block := F_label_block, b_label_block := b_label_block, g_label_block := PySem.W.mg_of X G a48, f_label_of := f_label_of, fd_label_of := _, F_label_of := F_label_of, b_label_of := b_label_of, g_label_of := PySem.W.mg_of X G a49, f_is_whole := f_is_whole, fd_is_whole := _, F_is_whole := F_is_whole, b_is_whole := b_is_whole, g_is_whole := PySem.W.mg_of X G a50, f_Side_read := f_Side_read, fd_Side_read := _, F_Side_read := F_Side_read, b_Side_read := b_Side_read, m_Side_read := ⟨a51, i51, k51⟩, f_Side_labels := f_Side_labels, fd_Side_labels := _, F_Side_labels := F_Side_labels, b_Side_labels := b_Side_labels, m_Side_labels := ⟨a52, i52, k52⟩, f_is_newer := f_is_newer, fd_is_newer := _, F_is_newer := F_is_newer, b_is_newer := b_is_newer, g_is_newer := PySem.W.mg_of X G a53, f_newest_label := f_newest_label, fd_newest_label := _, F_newest_label := F_newest_label, b_newest_label := b_newest_label, g_newest_label := PySem.W.mg_of X G a54, f_Side_write_label := f_Side_write_label, fd_Side_write_label := _, F_Side_write_label := F_Side_write_label, b_Side_write_label := b_Side_write_label, m_Side_write_label := ⟨a55, i55, k55⟩, f__law_label_block := f__law_label_block, fd__law_label_block := _, F__law_label_block := F__law_label_block, b__law_label_block := b__law_label_block, g__law_label_block := PySem.W.mg_of X G a56, f__law_label_cell := f__law_label_cell, fd__law_label_cell := _, F__law_label_cell := F__law_label_cell, b__law_label_cell := b__law_label_cell, g__law_label_cell := PySem.W.mg_of X G a57, f__law_whole := f__law_whole, fd__law_whole := _, F__law_whole := F__law_whole, b__law_whole := b__law_whole, g__law_whole := PySem.W.mg_of X G a58, f__law_label_at := f__law_label_at, fd__law_label_at := _, F__law_label_at := F__law_label_at, b__law_label_at := b__law_label_at, g__law_label_at := PySem.W.mg_of X G a59, f__law_ahead := f__law_ahead, fd__law_ahead := _, F__law_ahead := F__law_ahead, b__law_ahead := b__law_ahead, g__law_ahead := PySem.W.mg_of X G a60, f__law_slot := f__law_slot, fd__law_slot := _, F__law_slot := F__law_slot, b__law_slot := b__law_slot, g__law_slot := PySem.W.mg_of X G a61, f__law_deed := f__law_deed, fd__law_deed := _, F__law_deed := F__law_deed, b__law_deed := b__law_deed, g__law_deed := PySem.W.mg_of X G a62, f_Device_pending := f_Device_pending, fd_Device_pending := _, F_Device_pending := F_Device_pending, b_Device_pending := b_Device_pending, m_Device_pending := ⟨a63, i63, k63⟩, f_Side_pending := f_Side_pending, fd_Side_pending := _, F_Side_pending := F_Side_pending, b_Side_pending := b_Side_pending, m_Side_pending := ⟨a64, i64, k64⟩, f_Device_sure_blocks := f_Device_sure_blocks, fd_Device_sure_blocks := _, F_Device_sure_blocks := F_Device_sure_blocks, b_Device_sure_blocks := b_Device_sure_blocks, m_Device_sure_blocks := ⟨a65, i65, k65⟩, f_Side_is_rotten := f_Side_is_rotten, fd_Side_is_rotten := _, F_Side_is_rotten := F_Side_is_rotten, b_Side_is_rotten := b_Side_is_rotten, m_Side_is_rotten := ⟨a66, i66, k66⟩, f_Side_label := f_Side_label, fd_Side_label := _, F_Side_label := F_Side_label, b_Side_label := b_Side_label, m_Side_label := ⟨a67, i67, k67⟩, f__law_own_label := f__law_own_label, fd__law_own_label := _, F__law_own_label := F__law_own_label, b__law_own_label := b__law_own_label, g__law_own_label := PySem.W.mg_of X G a68, f__law_agrees := f__law_agrees, fd__law_agrees := _, F__law_agrees := F__law_agrees, b__law_agrees := b__law_agrees, g__law_agrees := PySem.W.mg_of X G a69, f_law := fa, fd_law := _, F_law := F_law, b_law := b_law, g_law := hfa, C_Layout := C_Layout, g_Layout := PySem.W.mg_of X G x_Layout, C_Device := C_Device, g_Device := PySem.W.mg_of X G x_Device, C_Side := C_Side, g_Side := PySem.W.mg_of X G x_Side, cl_Layout := ⟨pg_Layout, hd_Layout, po_Layout, sa_Layout⟩, cl_Device := ⟨pg_Device, hd_Device, po_Device, sa_Device⟩, cl_Side := ⟨pg_Side, hd_Side, po_Side, sa_Side⟩, a_Layout_segments := at_Layout_segments, a_Layout_segment_blocks := at_Layout_segment_blocks, a_Layout_block_size := at_Layout_block_size, a_Layout_payload := at_Layout_payload, a_Layout_limit := at_Layout_limit, a_Layout_last_id := at_Layout_last_id, a_Layout_fan := at_Layout_fan, a_Layout_region_blocks := at_Layout_region_blocks, a_Layout_device_blocks := at_Layout_device_blocks, a_Device_layout := at_Device_layout, a_Device_sure := at_Device_sure, a_Device_seen := at_Device_seen, a_Device_waiting := at_Device_waiting, a_Device_fuse := at_Device_fuse, a_Device_dark := at_Device_dark, a_Side_layout := at_Side_layout, a_Side_seat := at_Side_seat, a_Side_device := at_Side_device, n_len := PySem.W.mg_none_of X G z_len, n_int := PySem.W.mg_none_of X G z_int, n_tuple := PySem.W.mg_none_of X G z_tuple, n_range := PySem.W.mg_none_of X G z_range, n_list := PySem.W.mg_none_of X G z_list, n_enumerate := PySem.W.mg_none_of X G z_enumerate, n_reversed := PySem.W.mg_none_of X G z_reversed, n_max := PySem.W.mg_none_of X G z_max, n_isinstance := PySem.W.mg_none_of X G z_isinstance, n_bool := PySem.W.mg_none_of X G z_bool, u_MOST_SEGMENTS := _, g_MOST_SEGMENTS := PySem.W.mg_of X G g_MOST_SEGMENTS, r_MOST_SEGMENTS := ⟨_, rfl⟩, u_LEAST_SEGMENTS := _, g_LEAST_SEGMENTS := PySem.W.mg_of X G g_LEAST_SEGMENTS, r_LEAST_SEGMENTS := ⟨_, rfl⟩, u_MOST_BLOCKS := _, g_MOST_BLOCKS := PySem.W.mg_of X G g_MOST_BLOCKS, r_MOST_BLOCKS := ⟨_, rfl⟩, u_LEAST_BLOCKS := _, g_LEAST_BLOCKS := PySem.W.mg_of X G g_LEAST_BLOCKS, r_LEAST_BLOCKS := ⟨_, rfl⟩, u_HEAD_OCTETS := _, g_HEAD_OCTETS := PySem.W.mg_of X G g_HEAD_OCTETS, r_HEAD_OCTETS := ⟨_, rfl⟩, u_SLOTS := _, g_SLOTS := PySem.W.mg_of X G g_SLOTS, r_SLOTS := ⟨_, rfl⟩, u_LABELS := _, g_LABELS := PySem.W.mg_of X G g_LABELS, r_LABELS := ⟨_, rfl⟩, c_LETTERS_bodies := c_LETTERS_bodies, g_LETTERS_bodies := PySem.W.mg_of X G g_LETTERS_bodies, r_LETTERS_bodies := rfl, q_LETTERS_bodies := fun _ => .inr ⟨_, _, _, k_LETTERS_bodies, rfl, rfl, (show (4 : Nat) ≤ sizeLine by decide), .cons ⟨_, rfl⟩ (.cons ⟨_, rfl⟩ (.cons ⟨_, rfl⟩ (.cons ⟨_, rfl⟩ (.nil))))⟩, u_HEADER := _, g_HEADER := PySem.W.mg_of X G g_HEADER, r_HEADER := ⟨_, rfl⟩, c_BITS := c_BITS, g_BITS := PySem.W.mg_of X G g_BITS, r_BITS := rfl, q_BITS := fun _ => .inr ⟨_, _, _, k_BITS, rfl, rfl, (show (8 : Nat) ≤ sizeLine by decide), .cons ⟨_, rfl⟩ (.cons ⟨_, rfl⟩ (.cons ⟨_, rfl⟩ (.cons ⟨_, rfl⟩ (.cons ⟨_, rfl⟩ (.cons ⟨_, rfl⟩ (.cons ⟨_, rfl⟩ (.cons ⟨_, rfl⟩ (.nil))))))))⟩, u_COMMIT := _, g_COMMIT := PySem.W.mg_of X G g_COMMIT, r_COMMIT := ⟨_, rfl⟩, u_MOVE := _, g_MOVE := PySem.W.mg_of X G g_MOVE, r_MOVE := ⟨_, rfl⟩, u_DATA := _, g_DATA := PySem.W.mg_of X G g_DATA, r_DATA := ⟨_, rfl⟩, u_SPARE := _, g_SPARE := PySem.W.mg_of X G g_SPARE, r_SPARE := ⟨_, rfl⟩, u_FACTOR := _, g_FACTOR := PySem.W.mg_of X G g_FACTOR, r_FACTOR := ⟨_, rfl⟩, u_PRIME := _, g_PRIME := PySem.W.mg_of X G g_PRIME, r_PRIME := ⟨_, rfl⟩, u_MOST_ACTION := _, g_MOST_ACTION := PySem.W.mg_of X G g_MOST_ACTION, r_MOST_ACTION := ⟨_, rfl⟩, u_PART := _, g_PART := PySem.W.mg_of X G g_PART, r_PART := ⟨_, rfl⟩, u_SEATS := _, g_SEATS := PySem.W.mg_of X G g_SEATS, r_SEATS := ⟨_, rfl⟩, c_LETTERS_labels := c_LETTERS_labels, g_LETTERS_labels := PySem.W.mg_of X G g_LETTERS_labels, r_LETTERS_labels := rfl, q_LETTERS_labels := fun _ => .inr ⟨_, _, _, k_LETTERS_labels, rfl, rfl, (show (4 : Nat) ≤ sizeLine by decide), .cons ⟨_, rfl⟩ (.cons ⟨_, rfl⟩ (.cons ⟨_, rfl⟩ (.cons ⟨_, rfl⟩ (.nil))))⟩, u_FORK_OCTETS := _, g_FORK_OCTETS := PySem.W.mg_of X G g_FORK_OCTETS, r_FORK_OCTETS := ⟨_, rfl⟩, u_MEMBERS_AT := _, g_MEMBERS_AT := PySem.W.mg_of X G g_MEMBERS_AT, r_MEMBERS_AT := ⟨_, rfl⟩, u_COUNT_AT := _, g_COUNT_AT := PySem.W.mg_of X G g_COUNT_AT, r_COUNT_AT := ⟨_, rfl⟩, u_MOST_FORKS := _, g_MOST_FORKS := PySem.W.mg_of X G g_MOST_FORKS, r_MOST_FORKS := ⟨_, rfl⟩, u_FORKS_AT := _, g_FORKS_AT := PySem.W.mg_of X G g_FORKS_AT, r_FORKS_AT := ⟨_, rfl⟩ }⟩
theorem walk {l : PySem.W.OpenLaw} {q : Program} {loose : List Str} {XP : (Str → Option Value) → Heap → Prop} {YP : World → Heap → Prop} {d : DefRec} {K : Params → PySem.W.Frag} (hn : l.most = some 63) (hdf : d.params.defaults = [])
    (hY : ∀ (w : World) (h : Heap), YP w h → (K w.params).In h)
    (F : ∀ (w : World) (mg : Str → Option Value) (fa : Addr) (h : Heap), (K w.params).In h → h.Ns mainGlobals mg → mg d.name = some (.ref fa) →
      ∃ fd : FuncData, (∀ (s : Shared) (u : Value), BindsTo s fd ⟨[u], []⟩ [("script", u)]) ∧ ∀ base : Heap, (K w.params).In base → base.Ns mainGlobals mg → FnOk l.prog w (K w.params) mg base CX0 11 fa fd ["script"] (spLaw (K w.params))) :
    PySem.W.WalkO q loose XP YP l.row.toRowW d [] (fun f vs => PySem.call f vs) :=
  L2.walk_of (n := 63) (k := 11) (x := "script") (CX := fun _ => CX0) (sp := fun w => spLaw (K w.params)) hn (by decide) hdf ⟨rfl, by decide, by decide⟩ hY F (fun _ _ a ns hl _ hS => ⟨a, ns, rfl, hS, hl, fun _ => rfl⟩) fun _ _ _ _ _ z => z
end Sk
open PySem PySem.W PyProof.Rows in
set_option maxRecDepth 100000 in
set_option maxHeartbeats 0 in
theorem PySem.Challenge.cw_sidekeep_k08_sides_are_rows_of_cells_holds : PySem.Challenge.rw_sidekeep_k08_sides_are_rows_of_cells.Holds := by
  w_on; o_law; k_head; (case hw => w_witness2)
  k_fill
  refine Sk.walk (l := PySem.Challenge.rw_sidekeep_k08_sides_are_rows_of_cells) rfl rfl (fun w h Y => PySem.W.kIn_of Y) ?F
  case F =>
    intro w mg fa h KX G hmg
    refine' Sk.all_mk KX G hmg ?a0 ?l0 ?c0 ?k0 ?a1 ?l1 ?c1 ?k1 ?a2 ?l2 ?c2 ?k2 ?a3 ?i3 ?l3 ?c3 ?k3 ?a4 ?l4 ?c4 ?k4 ?a5 ?l5 ?c5 ?k5 ?a6 ?l6 ?c6 ?k6 ?a7 ?l7 ?c7 ?k7 ?a8 ?l8 ?c8 ?k8 ?a9 ?l9 ?c9 ?k9 ?a10 ?l10 ?c10 ?k10 ?a11 ?i11 ?l11 ?dl11 ?c11 ?k11 ?a12 ?i12 ?l12 ?dl12 ?c12 ?k12 ?a13 ?l13 ?c13 ?k13 ?a14 ?l14 ?c14 ?k14 ?a15 ?i15 ?l15 ?c15 ?k15 ?a16 ?i16 ?l16 ?c16 ?k16 ?a17 ?i17 ?l17 ?c17 ?k17 ?a18 ?i18 ?l18 ?c18 ?k18 ?a19 ?i19 ?l19 ?c19 ?k19 ?a20 ?i20 ?l20 ?c20 ?k20 ?a21 ?l21 ?c21 ?k21 ?a22 ?i22 ?l22 ?c22 ?k22 ?a23 ?i23 ?l23 ?c23 ?k23 ?a24 ?l24 ?c24 ?k24 ?a25 ?l25 ?c25 ?k25 ?a26 ?l26 ?c26 ?k26 ?a27 ?l27 ?c27 ?k27 ?a28 ?l28 ?c28 ?k28 ?a29 ?l29 ?c29 ?k29 ?a30 ?l30 ?c30 ?k30 ?a31 ?l31 ?c31 ?k31 ?a32 ?i32 ?l32 ?c32 ?k32 ?a33 ?l33 ?c33 ?k33 ?a34 ?i34 ?l34 ?c34 ?k34 ?a35 ?i35 ?l35 ?c35 ?k35 ?a36 ?l36 ?c36 ?k36 ?a37 ?i37 ?l37 ?c37 ?k37 ?a38 ?l38 ?c38 ?k38 ?a39 ?l39 ?c39 ?k39 ?a40 ?l40 ?c40 ?k40 ?a41 ?l41 ?c41 ?k41 ?a42 ?l42 ?c42 ?k42 ?a43 ?i43 ?l43 ?c43 ?k43 ?a44 ?l44 ?c44 ?k44 ?a45 ?l45 ?c45 ?k45 ?a46 ?l46 ?c46 ?k46 ?a47 ?l47 ?c47 ?k47 ?a48 ?l48 ?c48 ?k48 ?a49 ?l49 ?c49 ?k49 ?a50 ?l50 ?c50 ?k50 ?a51 ?i51 ?l51 ?c51 ?k51 ?a52 ?i52 ?l52 ?c52 ?k52 ?a53 ?l53 ?c53 ?k53 ?a54 ?l54 ?c54 ?k54 ?a55 ?i55 ?l55 ?c55 ?k55 ?a56 ?l56 ?c56 ?k56 ?a57 ?l57 ?c57 ?k57 ?a58 ?l58 ?c58 ?k58 ?a59 ?l59 ?c59 ?k59 ?a60 ?l60 ?c60 ?k60 ?a61 ?l61 ?c61 ?k61 ?a62 ?l62 ?c62 ?k62 ?a63 ?i63 ?l63 ?c63 ?k63 ?a64 ?i64 ?l64 ?c64 ?k64 ?a65 ?i65 ?l65 ?c65 ?k65 ?a66 ?i66 ?l66 ?c66 ?k66 ?a67 ?i67 ?l67 ?c67 ?k67 ?a68 ?l68 ?c68 ?k68 ?a69 ?l69 ?c69 ?k69 ?a70 ?l70 ?c70 ?k70 ?x_Layout ?x_Device ?x_Side ?pg_Layout ?hd_Layout ?po_Layout ?sa_Layout ?mk_Layout ?kc_Layout ?pg_Device ?hd_Device ?po_Device ?sa_Device ?mk_Device ?kc_Device ?pg_Side ?hd_Side ?po_Side ?sa_Side ?mk_Side ?kc_Side ?at_Layout_segments ?at_Layout_segment_blocks ?at_Layout_block_size ?at_Layout_payload ?at_Layout_limit ?at_Layout_last_id ?at_Layout_fan ?at_Layout_region_blocks ?at_Layout_device_blocks ?at_Device_layout ?at_Device_sure ?at_Device_seen ?at_Device_waiting ?at_Device_fuse ?at_Device_dark ?at_Side_layout ?at_Side_seat ?at_Side_device ?z_len ?z_int ?z_tuple ?z_range ?z_list ?z_enumerate ?z_reversed ?z_max ?z_isinstance ?z_bool ?g_MOST_SEGMENTS ?g_LEAST_SEGMENTS ?g_MOST_BLOCKS ?g_LEAST_BLOCKS ?g_HEAD_OCTETS ?g_SLOTS ?g_LABELS ?g_LETTERS_bodies ?k_LETTERS_bodies ?g_HEADER ?g_BITS ?k_BITS ?g_COMMIT ?g_MOVE ?g_DATA ?g_SPARE ?g_FACTOR ?g_PRIME ?g_MOST_ACTION ?g_PART ?g_SEATS ?g_LETTERS_labels ?k_LETTERS_labels ?g_FORK_OCTETS ?g_MEMBERS_AT ?g_COUNT_AT ?g_MOST_FORKS ?g_FORKS_AT
    (case x_Layout => k_is)
    (case x_Device => k_is)
    (case x_Side => k_is)
    (case a0 => k_is)
    (case l0 => k_is)
    (case c0 => k_is)
    (case k0 => k_is)
    (case a1 => k_is)
    (case l1 => k_is)
    (case c1 => k_is)
    (case k1 => k_is)
    (case a2 => k_is)
    (case l2 => k_is)
    (case c2 => k_is)
    (case k2 => k_is)
    (case a3 => k_is)
    (case i3 => k_is)
    (case l3 => k_is)
    (case c3 => k_is)
    (case k3 => k_is)
    (case a4 => k_is)
    (case l4 => k_is)
    (case c4 => k_is)
    (case k4 => k_is)
    (case a5 => k_is)
    (case l5 => k_is)
    (case c5 => k_is)
    (case k5 => k_is)
    (case a6 => k_is)
    (case l6 => k_is)
    (case c6 => k_is)
    (case k6 => k_is)
    (case a7 => k_is)
    (case l7 => k_is)
    (case c7 => k_is)
    (case k7 => k_is)
    (case a8 => k_is)
    (case l8 => k_is)
    (case c8 => k_is)
    (case k8 => k_is)
    (case a9 => k_is)
    (case l9 => k_is)
    (case c9 => k_is)
    (case k9 => k_is)
    (case a10 => k_is)
    (case l10 => k_is)
    (case c10 => k_is)
    (case k10 => k_is)
    (case a11 => k_is)
    (case i11 => k_is)
    (case l11 => k_is)
    (case dl11 => k_is)
    (case c11 => k_is)
    (case k11 => k_is)
    (case a12 => k_is)
    (case i12 => k_is)
    (case l12 => k_is)
    (case dl12 => k_is)
    (case c12 => k_is)
    (case k12 => k_is)
    (case a13 => k_is)
    (case l13 => k_is)
    (case c13 => k_is)
    (case k13 => k_is)
    (case a14 => k_is)
    (case l14 => k_is)
    (case c14 => k_is)
    (case k14 => k_is)
    (case a15 => k_is)
    (case i15 => k_is)
    (case l15 => k_is)
    (case c15 => k_is)
    (case k15 => k_is)
    (case a16 => k_is)
    (case i16 => k_is)
    (case l16 => k_is)
    (case c16 => k_is)
    (case k16 => k_is)
    (case a17 => k_is)
    (case i17 => k_is)
    (case l17 => k_is)
    (case c17 => k_is)
    (case k17 => k_is)
    (case a18 => k_is)
    (case i18 => k_is)
    (case l18 => k_is)
    (case c18 => k_is)
    (case k18 => k_is)
    (case a19 => k_is)
    (case i19 => k_is)
    (case l19 => k_is)
    (case c19 => k_is)
    (case k19 => k_is)
    (case a20 => k_is)
    (case i20 => k_is)
    (case l20 => k_is)
    (case c20 => k_is)
    (case k20 => k_is)
    (case a21 => k_is)
    (case l21 => k_is)
    (case c21 => k_is)
    (case k21 => k_is)
    (case a22 => k_is)
    (case i22 => k_is)
    (case l22 => k_is)
    (case c22 => k_is)
    (case k22 => k_is)
    (case a23 => k_is)
    (case i23 => k_is)
    (case l23 => k_is)
    (case c23 => k_is)
    (case k23 => k_is)
    (case a24 => k_is)
    (case l24 => k_is)
    (case c24 => k_is)
    (case k24 => k_is)
    (case a25 => k_is)
    (case l25 => k_is)
    (case c25 => k_is)
    (case k25 => k_is)
    (case a26 => k_is)
    (case l26 => k_is)
    (case c26 => k_is)
    (case k26 => k_is)
    (case a27 => k_is)
    (case l27 => k_is)
    (case c27 => k_is)
    (case k27 => k_is)
    (case a28 => k_is)
    (case l28 => k_is)
    (case c28 => k_is)
    (case k28 => k_is)
    (case a29 => k_is)
    (case l29 => k_is)
    (case c29 => k_is)
    (case k29 => k_is)
    (case a30 => k_is)
    (case l30 => k_is)
    (case c30 => k_is)
    (case k30 => k_is)
    (case a31 => k_is)
    (case l31 => k_is)
    (case c31 => k_is)
    (case k31 => k_is)
    (case a32 => k_is)
    (case i32 => k_is)
    (case l32 => k_is)
    (case c32 => k_is)
    (case k32 => k_is)
    (case a33 => k_is)
    (case l33 => k_is)
    (case c33 => k_is)
    (case k33 => k_is)
    (case a34 => k_is)
    (case i34 => k_is)
    (case l34 => k_is)
    (case c34 => k_is)
    (case k34 => k_is)
    (case a35 => k_is)
    (case i35 => k_is)
    (case l35 => k_is)
    (case c35 => k_is)
    (case k35 => k_is)
    (case a36 => k_is)
    (case l36 => k_is)
    (case c36 => k_is)
    (case k36 => k_is)
    (case a37 => k_is)
    (case i37 => k_is)
    (case l37 => k_is)
    (case c37 => k_is)
    (case k37 => k_is)
    (case a38 => k_is)
    (case l38 => k_is)
    (case c38 => k_is)
    (case k38 => k_is)
    (case a39 => k_is)
    (case l39 => k_is)
    (case c39 => k_is)
    (case k39 => k_is)
    (case a40 => k_is)
    (case l40 => k_is)
    (case c40 => k_is)
    (case k40 => k_is)
    (case a41 => k_is)
    (case l41 => k_is)
    (case c41 => k_is)
    (case k41 => k_is)
    (case a42 => k_is)
    (case l42 => k_is)
    (case c42 => k_is)
    (case k42 => k_is)
    (case a43 => k_is)
    (case i43 => k_is)
    (case l43 => k_is)
    (case c43 => k_is)
    (case k43 => k_is)
    (case a44 => k_is)
    (case l44 => k_is)
    (case c44 => k_is)
    (case k44 => k_is)
    (case a45 => k_is)
    (case l45 => k_is)
    (case c45 => k_is)
    (case k45 => k_is)
    (case a46 => k_is)
    (case l46 => k_is)
    (case c46 => k_is)
    (case k46 => k_is)
    (case a47 => k_is)
    (case l47 => k_is)
    (case c47 => k_is)
    (case k47 => k_is)
    (case a48 => k_is)
    (case l48 => k_is)
    (case c48 => k_is)
    (case k48 => k_is)
    (case a49 => k_is)
    (case l49 => k_is)
    (case c49 => k_is)
    (case k49 => k_is)
    (case a50 => k_is)
    (case l50 => k_is)
    (case c50 => k_is)
    (case k50 => k_is)
    (case a51 => k_is)
    (case i51 => k_is)
    (case l51 => k_is)
    (case c51 => k_is)
    (case k51 => k_is)
    (case a52 => k_is)
    (case i52 => k_is)
    (case l52 => k_is)
    (case c52 => k_is)
    (case k52 => k_is)
    (case a53 => k_is)
    (case l53 => k_is)
    (case c53 => k_is)
    (case k53 => k_is)
    (case a54 => k_is)
    (case l54 => k_is)
    (case c54 => k_is)
    (case k54 => k_is)
    (case a55 => k_is)
    (case i55 => k_is)
    (case l55 => k_is)
    (case c55 => k_is)
    (case k55 => k_is)
    (case a56 => k_is)
    (case l56 => k_is)
    (case c56 => k_is)
    (case k56 => k_is)
    (case a57 => k_is)
    (case l57 => k_is)
    (case c57 => k_is)
    (case k57 => k_is)
    (case a58 => k_is)
    (case l58 => k_is)
    (case c58 => k_is)
    (case k58 => k_is)
    (case a59 => k_is)
    (case l59 => k_is)
    (case c59 => k_is)
    (case k59 => k_is)
    (case a60 => k_is)
    (case l60 => k_is)
    (case c60 => k_is)
    (case k60 => k_is)
    (case a61 => k_is)
    (case l61 => k_is)
    (case c61 => k_is)
    (case k61 => k_is)
    (case a62 => k_is)
    (case l62 => k_is)
    (case c62 => k_is)
    (case k62 => k_is)
    (case a63 => k_is)
    (case i63 => k_is)
    (case l63 => k_is)
    (case c63 => k_is)
    (case k63 => k_is)
    (case a64 => k_is)
    (case i64 => k_is)
    (case l64 => k_is)
    (case c64 => k_is)
    (case k64 => k_is)
    (case a65 => k_is)
    (case i65 => k_is)
    (case l65 => k_is)
    (case c65 => k_is)
    (case k65 => k_is)
    (case a66 => k_is)
    (case i66 => k_is)
    (case l66 => k_is)
    (case c66 => k_is)
    (case k66 => k_is)
    (case a67 => k_is)
    (case i67 => k_is)
    (case l67 => k_is)
    (case c67 => k_is)
    (case k67 => k_is)
    (case a68 => k_is)
    (case l68 => k_is)
    (case c68 => k_is)
    (case k68 => k_is)
    (case a69 => k_is)
    (case l69 => k_is)
    (case c69 => k_is)
    (case k69 => k_is)
    (case a70 => k_is)
    (case l70 => k_is)
    (case c70 => k_is)
    (case k70 => k_is)
    (case pg_Layout => k_is)
    (case hd_Layout => k_is)
    (case po_Layout => k_is)
    (case sa_Layout => k_is)
    (case mk_Layout => k_is)
    (case kc_Layout => k_is)
    (case pg_Device => k_is)
    (case hd_Device => k_is)
    (case po_Device => k_is)
    (case sa_Device => k_is)
    (case mk_Device => k_is)
    (case kc_Device => k_is)
    (case pg_Side => k_is)
    (case hd_Side => k_is)
    (case po_Side => k_is)
    (case sa_Side => k_is)
    (case mk_Side => k_is)
    (case kc_Side => k_is)
    (case at_Layout_segments => k_is)
    (case at_Layout_segment_blocks => k_is)
    (case at_Layout_block_size => k_is)
    (case at_Layout_payload => k_is)
    (case at_Layout_limit => k_is)
    (case at_Layout_last_id => k_is)
    (case at_Layout_fan => k_is)
    (case at_Layout_region_blocks => k_is)
    (case at_Layout_device_blocks => k_is)
    (case at_Device_layout => k_is)
    (case at_Device_sure => k_is)
    (case at_Device_seen => k_is)
    (case at_Device_waiting => k_is)
    (case at_Device_fuse => k_is)
    (case at_Device_dark => k_is)
    (case at_Side_layout => k_is)
    (case at_Side_seat => k_is)
    (case at_Side_device => k_is)
    (case z_len => k_is)
    (case z_int => k_is)
    (case z_tuple => k_is)
    (case z_range => k_is)
    (case z_list => k_is)
    (case z_enumerate => k_is)
    (case z_reversed => k_is)
    (case z_max => k_is)
    (case z_isinstance => k_is)
    (case z_bool => k_is)
    (case g_MOST_SEGMENTS => k_is)
    (case g_LEAST_SEGMENTS => k_is)
    (case g_MOST_BLOCKS => k_is)
    (case g_LEAST_BLOCKS => k_is)
    (case g_HEAD_OCTETS => k_is)
    (case g_SLOTS => k_is)
    (case g_LABELS => k_is)
    (case g_LETTERS_bodies => k_is)
    (case k_LETTERS_bodies => k_is)
    (case g_HEADER => k_is)
    (case g_BITS => k_is)
    (case k_BITS => k_is)
    (case g_COMMIT => k_is)
    (case g_MOVE => k_is)
    (case g_DATA => k_is)
    (case g_SPARE => k_is)
    (case g_FACTOR => k_is)
    (case g_PRIME => k_is)
    (case g_MOST_ACTION => k_is)
    (case g_PART => k_is)
    (case g_SEATS => k_is)
    (case g_LETTERS_labels => k_is)
    (case k_LETTERS_labels => k_is)
    (case g_FORK_OCTETS => k_is)
    (case g_MEMBERS_AT => k_is)
    (case g_COUNT_AT => k_is)
    (case g_MOST_FORKS => k_is)
    (case g_FORKS_AT => k_is)
#print axioms PySem.Challenge.cw_sidekeep_k08_sides_are_rows_of_cells_holds
