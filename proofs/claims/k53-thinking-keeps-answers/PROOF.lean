import PyProof.Rows.All
import Wide.All
import OpenK.AllK
import Wide.FinOn
import HandS.ForMost
import HandS.Evl
import HandS.Defaults
import HandS.HeadHook3
import HandS.Walk
import HandS.SortInts
import HandS.Sort
import HandS.SortKw
import HandS.WideBits
import HandS.Zip
import HandS.Style
import KE.DatumOrd
import HandS.HeadHook4
import PySem.Challenge.RW_cluemaker_k53_whole_thinking_keeps_answe
import KE.KStateDown
import HandS.Head2
import KE.SortData
import HandS.Conv
import HandS.IsInst
import HandS.Text
import KE.SortKeyHeap
import HandS.Lambda
import HandS.HeadWalk
import HandS.NestedK
set_option Elab.async false
set_option linter.all false
set_option maxRecDepth 100000
set_option maxHeartbeats 4000000
namespace Ck
open PySem PySem.Spec PyProof.Rows L2 Evl

/-! ### the readings by what the model does -/
section
variable {X : Cx} {e : Expr} {es : List Expr} {st : Stmt} {sts : List Stmt} {σ : L2.St} {H : Hp}
def semE (X : Cx) (e : Expr) : TE := fun σ H Q => ∀ (pins : List (Addr × Obj)) (s : Shared), Inv X pins σ H s → wpAny (model X.prog X.w) X.A (eval e X.env) (EP X pins σ Q) X.xe s
def semT (X : Cx) (e : Expr) : TT := fun σ H Q => ∀ (pins : List (Addr × Obj)) (s : Shared), Inv X pins σ H s → wpAny (model X.prog X.w) X.A (isTrue e X.env (eval e X.env)) (TP X pins σ Q) X.xe s
def semW (X : Cx) (e : Expr) : TT := fun σ H Q => ∀ (whole : Sem Value) (pins : List (Addr × Obj)) (s : Shared), Inv X pins σ H s → wpAny (model X.prog X.w) X.A (isTrue e X.env whole) (TP X pins σ Q) X.xe s
def semA (X : Cx) (es : List Expr) : TA := fun σ H Q => ∀ (pos : Pos) (pins : List (Addr × Obj)) (s : Shared), Inv X pins σ H s → wpAny (model X.prog X.w) X.A (spliced (backTo pos (starEach es X.env))) (AP X pins σ Q) X.xe s
def semS (X : Cx) (st : Stmt) : TS := fun D σ H => ∀ (pins : List (Addr × Obj)) (s : Shared), Inv X pins σ H s → wpAny (model X.prog X.w) X.A (exec st X.env) (SP X pins D) X.xe s
def semB (X : Cx) (sts : List Stmt) : TS := fun D σ H => ∀ (pins : List (Addr × Obj)) (s : Shared), Inv X pins σ H s → wpAny (model X.prog X.w) X.A (execs sts X.env) (SP X pins D) X.xe s
theorem pe_sem : PE X e (semE X e) := ⟨fun pins s _ _ _ I h => h pins s I⟩
theorem pt_sem : PT X e (semT X e) := ⟨fun pins s _ _ _ I h => h pins s I⟩
theorem pw_sem : PW X e (semW X e) := ⟨fun wh pins s _ _ _ I h => h wh pins s I⟩
theorem pa_sem : PA X es (semA X es) := ⟨fun pos pins s _ _ _ I h => h pos pins s I⟩
theorem ps_sem : PS X st (semS X st) := ⟨fun pins s _ _ _ I h => h pins s I⟩
theorem pb_sem : PSs X sts (semB X sts) := ⟨fun pins s _ _ _ I h => h pins s I⟩
theorem to_e {t : TE} (h : PE X e t) {Q : VK} (q : t σ H Q) : semE X e σ H Q := fun pins s I => h.run pins s σ H Q I q
theorem to_t {t : TT} (h : PT X e t) {Q : Bool → Hp → Prop} (q : t σ H Q) : semT X e σ H Q := fun pins s I => h.run pins s σ H Q I q
theorem to_w {t : TT} (h : PW X e t) {Q : Bool → Hp → Prop} (q : t σ H Q) : semW X e σ H Q := fun wh pins s I => h.run wh pins s σ H Q I q
theorem to_a {t : TA} (h : PA X es t) {Q : List V → Hp → Prop} (q : t σ H Q) : semA X es σ H Q := fun pos pins s I => h.run pos pins s σ H Q I q
theorem to_s {t : TS} {D : Ends} (h : PS X st t) (q : t D σ H) : semS X st D σ H := fun pins s I => h.run pins s σ H D I q
theorem to_b {t : TS} {D : Ends} (h : PSs X sts t) (q : t D σ H) : semB X sts D σ H := fun pins s I => h.run pins s σ H D I q
end

/-! ### what is handed back -/
inductive Rt where
  | val (v : V)
  | lst (xs : List V)
  | tup (xs : List V)
  | gen (P : V → Hp → Prop)
def Rt.go : Rt → Hp → V → Hp → Prop
  | .val v, _, u, _ => u = v
  | .lst xs, H, u, H' => ∃ p, u = .ref p ∧ H p = none ∧ H' p = some (.lst xs)
  | .tup xs, H, u, H' => ∃ p, u = .ref p ∧ H p = none ∧ H' p = some (.tup xs)
  | .gen P, _, u, H' => P u H'
theorem go_back {r : Rt} {H H1 H2 : Hp} {u : V} (e : Ex H H1) (h : r.go H1 u H2) : r.go H u H2 := by
  cases r with
  | val v => exact h
  | gen P => exact h
  | lst xs =>
    obtain ⟨p, rfl, a, b⟩ := h
    exact ⟨p, rfl, fresh_back e a, b⟩
  | tup xs =>
    obtain ⟨p, rfl, a, b⟩ := h
    exact ⟨p, rfl, fresh_back e a, b⟩
/-- e, from H and whatever has been added to it, gives r and only adds -/
def XG (X : Cx) (σ : L2.St) (H : Hp) (e : Expr) (r : Rt) : Prop := ∀ H1, Ex H H1 → ∀ Q : VK, (∀ v H2, Ex H1 H2 → r.go H1 v H2 → Q v H2) → semE X e σ H1 Q
abbrev XV (X : Cx) (σ : L2.St) (H : Hp) (e : Expr) (v : V) : Prop := XG X σ H e (.val v)
def XT (X : Cx) (σ : L2.St) (H : Hp) (e : Expr) (b : Bool) : Prop := ∀ H1, Ex H H1 → ∀ Q : Bool → Hp → Prop, (∀ H2, Ex H1 H2 → Q b H2) → semT X e σ H1 Q
def XW (X : Cx) (σ : L2.St) (H : Hp) (e : Expr) (b : Bool) : Prop := ∀ H1, Ex H H1 → ∀ Q : Bool → Hp → Prop, (∀ H2, Ex H1 H2 → Q b H2) → semW X e σ H1 Q
def XA (X : Cx) (σ : L2.St) (H : Hp) (es : List Expr) (P : List V → Hp → Prop) : Prop := ∀ H1, Ex H H1 → ∀ Q : List V → Hp → Prop, (∀ vs H2, Ex H1 H2 → P vs H2 → Q vs H2) → semA X es σ H1 Q

section
variable {X : Cx} {σ : L2.St} {H H' : Hp} {e a b : Expr} {es rest : List Expr} {r : Rt} {v x y z : V} {pos p apos : Pos}
theorem XG.mono (h : XG X σ H e r) (k : Ex H H') : XG X σ H' e r := fun H1 e1 Q q => h H1 (k.trans e1) Q q
theorem XT.mono {c : Bool} (h : XT X σ H e c) (k : Ex H H') : XT X σ H' e c := fun H1 e1 Q q => h H1 (k.trans e1) Q q
theorem XA.mono {P : List V → Hp → Prop} (h : XA X σ H es P) (k : Ex H H') : XA X σ H' es P := fun H1 e1 Q q => h H1 (k.trans e1) Q q
theorem XG.is (h : XV X σ H e v) (k : v = x) : XV X σ H e x := by rw [← k]; exact h
theorem XT.is {c d : Bool} (h : XT X σ H e c) (k : c = d) : XT X σ H e d := by rw [← k]; exact h
theorem XG.weak {P : V → Hp → Prop} (h : XG X σ H e r) (k : ∀ v H1 H2, Ex H H1 → Ex H1 H2 → r.go H1 v H2 → P v H2) : XG X σ H e (.gen P) := fun H1 e1 Q q => h H1 e1 Q fun v H2 e2 g => q v H2 e2 (k v H1 H2 e1 e2 g)
/-! names, constants -/
theorem x_v (i : Nat) {n : Str} (h : σ[i]? = some (some v) := by rfl) (hN : X.N[i]? = some n := by rfl) (hv : Vis X.env.scope n := by first | exact Or.inl rfl | exact Or.inr (Or.inl rfl) | exact Or.inr (Or.inr rfl))
    (hd : (n == ("__debug__" : Str)) = false := by decide) (hcd : (n == ("__classdict__" : Str)) = false := by decide) : XV X σ H (.Name n pos) v := fun H1 _ Q q => to_e (pe_var hN hv hd hcd) ⟨v, h, q v H1 (Ex.refl H1) rfl⟩
theorem x_int {i : Int} {j : Nat} : XV X σ H (.Constant (.int i) j pos) (.int i) := fun H1 _ Q q => to_e pe_int (q _ H1 (Ex.refl H1) rfl)
theorem x_bl {c : Bool} {j : Nat} : XV X σ H (.Constant (.bool c) j pos) (.bl c) := fun H1 _ Q q => to_e pe_bl (q _ H1 (Ex.refl H1) rfl)
theorem x_non {j : Nat} : XV X σ H (.Constant .none j pos) .non := fun H1 _ Q q => to_e pe_non (q _ H1 (Ex.refl H1) rfl)
theorem x_str {s : Str} {j : Nat} : XV X σ H (.Constant (.str s) j pos) (.str s) := fun H1 _ Q q => to_e pe_str (q _ H1 (Ex.refl H1) rfl)
theorem x_glob {n : Str} {u : Value} (hm : X.mg n = some u) (rr : RelV v u) (hg : Gl X n := by rfl) (hd : (n == ("__debug__" : Str)) = false := by decide) : XV X σ H (.Name n pos) v := fun H1 _ Q q => to_e (pe_glob hg hm rr hd) (q _ H1 (Ex.refl H1) rfl)
/-! two operands, by values -/
/-- an operation of two values -/
theorem x_op {op : Operator} {rr : R2} (ho : OpR X (binaryOp op) rr) (ha : XV X σ H a x) (hb : XV X σ H b y) (hr : ∀ H1, Ex H H1 → ∀ Q : VK, (∀ v H2, Ex H1 H2 → r.go H1 v H2 → Q v H2) → rr x y H1 Q) : XG X σ H (.BinOp a op b pos) r := fun H1 e1 Q q =>
  to_e (pe_op ho pe_sem pe_sem) (ha H1 e1 _ fun _ H2 e2 g2 => by
    cases g2
    exact hb H2 (e1.trans e2) _ fun _ H3 e3 g3 => by
      cases g3
      exact hr H3 ((e1.trans e2).trans e3) Q fun v H4 e4 g => q v H4 ((e2.trans e3).trans e4) (go_back (e2.trans e3) g))
theorem x_add {i j : Int} (ha : XV X σ H a (.int i)) (hb : XV X σ H b (.int j)) : XV X σ H (.BinOp a .Add b pos) (.int (i + j)) := x_op op_add ha hb fun H1 _ Q q => ⟨i, j, rfl, rfl, q _ H1 (Ex.refl H1) rfl⟩
theorem x_sub {i j : Int} (ha : XV X σ H a (.int i)) (hb : XV X σ H b (.int j)) : XV X σ H (.BinOp a .Sub b pos) (.int (i - j)) := x_op op_sub ha hb fun H1 _ Q q => ⟨i, j, rfl, rfl, q _ H1 (Ex.refl H1) rfl⟩
theorem x_mul {i j : Int} (ha : XV X σ H a (.int i)) (hb : XV X σ H b (.int j)) (hc : CMul i j) : XV X σ H (.BinOp a .Mult b pos) (.int (i * j)) := x_op op_mul ha hb fun H1 _ Q q => ⟨i, j, rfl, rfl, hc, q _ H1 (Ex.refl H1) rfl⟩
theorem x_div {i j : Int} (ha : XV X σ H a (.int i)) (hb : XV X σ H b (.int j)) (hc : 0 < j ∧ j < 1073741824) : XV X σ H (.BinOp a .FloorDiv b pos) (.int (i / j)) := x_op op_fdiv ha hb fun H1 _ Q q => ⟨i, j, rfl, rfl, hc, q _ H1 (Ex.refl H1) rfl⟩
theorem x_mod {i j : Int} (ha : XV X σ H a (.int i)) (hb : XV X σ H b (.int j)) (hc : 0 < j) : XV X σ H (.BinOp a .Mod b pos) (.int (i % j)) := x_op op_mod ha hb fun H1 _ Q q => ⟨i, j, rfl, rfl, hc, q _ H1 (Ex.refl H1) rfl⟩
theorem x_and {i j : Int} (ha : XV X σ H a (.int i)) (hb : XV X σ H b (.int j)) : XV X σ H (.BinOp a .BitAnd b pos) (.int (Builtin.bitAnd i j)) := x_op op_and ha hb fun H1 _ Q q => ⟨i, j, rfl, rfl, q _ H1 (Ex.refl H1) rfl⟩
theorem x_or {i j : Int} (ha : XV X σ H a (.int i)) (hb : XV X σ H b (.int j)) : XV X σ H (.BinOp a .BitOr b pos) (.int (Builtin.bitOr i j)) := x_op op_or ha hb fun H1 _ Q q => ⟨i, j, rfl, rfl, q _ H1 (Ex.refl H1) rfl⟩
theorem x_shl {i j : Int} (ha : XV X σ H a (.int i)) (hb : XV X σ H b (.int j)) (hc : 0 ≤ j ∧ j ≤ 1000000 ∧ i.natAbs < 2 ^ 64) : XV X σ H (.BinOp a .LShift b pos) (.int (i * 2 ^ j.toNat)) := x_op op_shl ha hb fun H1 _ Q q => ⟨i, j, rfl, rfl, hc, q _ H1 (Ex.refl H1) rfl⟩
/-! comparisons -/
/-- one comparison, both as a value and as a test -/
def semC (X : Cx) (op : CmpOp) (a b : Expr) : TE := fun σ H Q => ∀ (pins : List (Addr × Obj)) (s : Shared), Inv X pins σ H s →
  wpAny (model X.prog X.w) X.A (eval a X.env) (fun v s1 => wpAny (model X.prog X.w) X.A (eval b X.env) (fun u s2 => wpAny (model X.prog X.w) X.A (compareOp op v u) (EP X pins σ Q) X.xe s2) X.xe s1) X.xe s
theorem pc_sem {op : CmpOp} : PC X op a b (semC X op a b) := ⟨fun pins s _ _ _ I h => h pins s I⟩
theorem pc_op {op : CmpOp} {rr : R2} {ta tb : TE} (ho : OpR X (compareOp op) rr) (ha : PE X a ta) (hb : PE X b tb) : PC X op a b (tOp rr ta tb) :=
  ⟨fun pins s σ H Q I h => binT ha hb I h fun v u s2 x y H2 I2 rx ry q => ho pins s2 σ H2 x y v u Q I2 rx ry q⟩
def XC (X : Cx) (σ : L2.St) (H : Hp) (op : CmpOp) (a b : Expr) (z : V) : Prop := ∀ H1, Ex H H1 → ∀ Q : VK, (∀ H2, Ex H1 H2 → Q z H2) → semC X op a b σ H1 Q
theorem XC.is {op : CmpOp} (h : XC X σ H op a b x) (k : x = y) : XC X σ H op a b y := by rw [← k]; exact h
theorem x_c {op : CmpOp} (h : XC X σ H op a b z) (h1 : behindInMarks op b = false := by first | exact nobehind _ (by decide) (by decide) | rfl) : XV X σ H (.Compare a [op] [b] pos) z := fun H1 e1 Q q =>
  to_e (pe_cmp pc_sem h1) (h H1 e1 Q fun H2 e2 => q z H2 e2 rfl)
theorem t_c {op : CmpOp} {c : Bool} (h : XC X σ H op a b (.bl c)) (h1 : behindInMarks op b = false := by first | exact nobehind _ (by decide) (by decide) | rfl) : XT X σ H (.Compare a [op] [b] pos) c := fun H1 e1 Q q =>
  to_t (pt_cmp pc_sem h1) (h H1 e1 _ fun H2 e2 => ⟨c, rfl, q H2 e2⟩)
theorem c_op {op : CmpOp} {rr : R2} (ho : OpR X (compareOp op) rr) (ha : XG X σ H a r) (hb : ∀ v H1, Ex H H1 → r.go H v H1 → XV X σ H1 b y)
    (hr : ∀ v H1, Ex H H1 → r.go H v H1 → ∀ H2, Ex H1 H2 → ∀ Q : VK, (∀ H3, Ex H2 H3 → Q z H3) → rr v y H2 Q) : XC X σ H op a b z := fun H1 e1 Q q =>
  fun pins s I => (pc_op ho pe_sem pe_sem).run pins s σ H1 Q I (ha H1 e1 _ fun v H2 e2 g2 => hb v H2 (e1.trans e2) (go_back e1 g2) H2 (Ex.refl H2) _ fun _ H3 e3 g3 => by
    cases g3
    exact hr v H2 (e1.trans e2) (go_back e1 g2) H3 e3 Q fun H4 e4 => q H4 ((e2.trans e3).trans e4))
/-- the right one of any kind -/
theorem c_opR {op : CmpOp} {rr : R2} (ho : OpR X (compareOp op) rr) (ha : XV X σ H a x) (hb : XG X σ H b r)
    (hr : ∀ v H1, Ex H H1 → r.go H v H1 → ∀ Q : VK, (∀ H3, Ex H1 H3 → Q z H3) → rr x v H1 Q) : XC X σ H op a b z := fun H1 e1 Q q =>
  fun pins s I => (pc_op ho pe_sem pe_sem).run pins s σ H1 Q I (ha H1 e1 _ fun _ H2 e2 g2 => by
    cases g2
    exact hb H2 (e1.trans e2) _ fun v H3 e3 g3 => hr v H3 ((e1.trans e2).trans e3) (go_back (e1.trans e2) g3) Q fun H4 e4 => q H4 ((e2.trans e3).trans e4))
theorem c_opV {op : CmpOp} {rr : R2} (ho : OpR X (compareOp op) rr) (ha : XV X σ H a x) (hb : XV X σ H b y)
    (hr : ∀ H1, Ex H H1 → ∀ Q : VK, (∀ H2, Ex H1 H2 → Q z H2) → rr x y H1 Q) : XC X σ H op a b z :=
  c_opR ho ha hb fun v H1 e1 g Q q => by cases g; exact hr H1 e1 Q q
theorem c_lt {i j : Int} (ha : XV X σ H a (.int i)) (hb : XV X σ H b (.int j)) : XC X σ H .Lt a b (.bl (decide (i < j))) := c_opV op_lt ha hb fun H1 _ Q q => ⟨i, j, rfl, rfl, q H1 (Ex.refl H1)⟩
theorem c_le {i j : Int} (ha : XV X σ H a (.int i)) (hb : XV X σ H b (.int j)) : XC X σ H .LtE a b (.bl (decide (i ≤ j))) := c_opV op_le ha hb fun H1 _ Q q => ⟨i, j, rfl, rfl, q H1 (Ex.refl H1)⟩
theorem c_gt {i j : Int} (ha : XV X σ H a (.int i)) (hb : XV X σ H b (.int j)) : XC X σ H .Gt a b (.bl (decide (j < i))) := c_opV op_gt ha hb fun H1 _ Q q => ⟨i, j, rfl, rfl, q H1 (Ex.refl H1)⟩
theorem c_ge {i j : Int} (ha : XV X σ H a (.int i)) (hb : XV X σ H b (.int j)) : XC X σ H .GtE a b (.bl (decide (j ≤ i))) := c_opV op_ge ha hb fun H1 _ Q q => ⟨i, j, rfl, rfl, q H1 (Ex.refl H1)⟩
theorem c_eqI {i j : Int} (ha : XV X σ H a (.int i)) (hb : XV X σ H b (.int j)) : XC X σ H .Eq a b (.bl (decide (i = j))) := c_opV op_eq ha hb fun H1 _ Q q => ⟨rfl, by
  have k := q H1 (Ex.refl H1)
  rw [dec_int, show (i == j) = decide (i = j) from rfl]
  exact k⟩
theorem c_neI {i j : Int} (ha : XV X σ H a (.int i)) (hb : XV X σ H b (.int j)) : XC X σ H .NotEq a b (.bl (!decide (i = j))) := c_opV op_ne ha hb fun H1 _ Q q => ⟨rfl, by
  have k := q H1 (Ex.refl H1)
  rw [dec_int, show (i == j) = decide (i = j) from rfl]
  exact k⟩
theorem dec_strE {i j : Str} : decide (V.str i = V.str j) = decide (i = j) := decide_eq_decide.mpr ⟨fun h => V.str.inj h, fun h => congrArg V.str h⟩
theorem c_eqS {i j : Str} (ha : XV X σ H a (.str i)) (hb : XV X σ H b (.str j)) : XC X σ H .Eq a b (.bl (decide (i = j))) := c_opV op_eq ha hb fun H1 _ Q q => ⟨rfl, by
  have k := q H1 (Ex.refl H1)
  rw [dec_strE]
  exact k⟩
theorem c_neS {i j : Str} (ha : XV X σ H a (.str i)) (hb : XV X σ H b (.str j)) : XC X σ H .NotEq a b (.bl (!decide (i = j))) := c_opV op_ne ha hb fun H1 _ Q q => ⟨rfl, by
  have k := q H1 (Ex.refl H1)
  rw [dec_strE]
  exact k⟩
theorem c_isN {j : Nat} {pos' : Pos} (ha : XV X σ H a x) : XC X σ H .Is a (.Constant .none j pos') (.bl (decide (x = .non))) := c_opV op_isN ha x_non fun H1 _ Q q => ⟨rfl, q H1 (Ex.refl H1)⟩
theorem c_notN {j : Nat} {pos' : Pos} (ha : XV X σ H a x) : XC X σ H .IsNot a (.Constant .none j pos') (.bl (!decide (x = .non))) := c_opV op_notN ha x_non fun H1 _ Q q => ⟨rfl, q H1 (Ex.refl H1)⟩
/-- x in a list | a tuple of flat values -/
theorem c_inL {p : Addr} {xs : List V} (ha : XV X σ H a x) (hb : XV X σ H b (.ref p)) (hp : SqL X.K H p xs ∨ SqT X.K H p xs) (hx : flatV x = true) (hf : xs.all flatV = true) : XC X σ H .In a b (.bl (inV x xs)) :=
  c_opV op_in_seq ha hb fun H1 e1 Q q => ⟨p, xs, rfl, hp.elim (fun z => .inl (ex_l e1 z)) (fun z => .inr (ex_t e1 z)), hx, hf, q H1 (Ex.refl H1)⟩
theorem c_niL {p : Addr} {xs : List V} (ha : XV X σ H a x) (hb : XV X σ H b (.ref p)) (hp : SqL X.K H p xs ∨ SqT X.K H p xs) (hx : flatV x = true) (hf : xs.all flatV = true) : XC X σ H .NotIn a b (.bl (!inV x xs)) :=
  c_opV op_notIn_seq ha hb fun H1 e1 Q q => ⟨p, xs, rfl, hp.elim (fun z => .inl (ex_l e1 z)) (fun z => .inr (ex_t e1 z)), hx, hf, q H1 (Ex.refl H1)⟩
/-- x in a list made on the way -/
theorem c_inN {xs : List V} (ha : XV X σ H a x) (hb : XG X σ H b (.lst xs)) (hx : flatV x = true) (hf : xs.all flatV = true) : XC X σ H .In a b (.bl (inV x xs)) :=
  c_opR op_in_seq ha hb fun v H1 e1 g Q q => by
    obtain ⟨p, rfl, _, hp⟩ := g
    exact ⟨p, xs, rfl, .inl (SqL.of hp), hx, hf, q H1 (Ex.refl H1)⟩
theorem c_niN {xs : List V} (ha : XV X σ H a x) (hb : XG X σ H b (.lst xs)) (hx : flatV x = true) (hf : xs.all flatV = true) : XC X σ H .NotIn a b (.bl (!inV x xs)) :=
  c_opR op_notIn_seq ha hb fun v H1 e1 g Q q => by
    obtain ⟨p, rfl, _, hp⟩ := g
    exact ⟨p, xs, rfl, .inl (SqL.of hp), hx, hf, q H1 (Ex.refl H1)⟩
theorem c_inU {xs : List V} (ha : XV X σ H a x) (hb : XG X σ H b (.tup xs)) (hx : flatV x = true) (hf : xs.all flatV = true) : XC X σ H .In a b (.bl (inV x xs)) :=
  c_opR op_in_seq ha hb fun v H1 e1 g Q q => by
    obtain ⟨p, rfl, _, hp⟩ := g
    exact ⟨p, xs, rfl, .inr (SqT.of hp), hx, hf, q H1 (Ex.refl H1)⟩
theorem c_niU {xs : List V} (ha : XV X σ H a x) (hb : XG X σ H b (.tup xs)) (hx : flatV x = true) (hf : xs.all flatV = true) : XC X σ H .NotIn a b (.bl (!inV x xs)) :=
  c_opR op_notIn_seq ha hb fun v H1 e1 g Q q => by
    obtain ⟨p, rfl, _, hp⟩ := g
    exact ⟨p, xs, rfl, .inr (SqT.of hp), hx, hf, q H1 (Ex.refl H1)⟩
/-! tests -/
theorem t_val {c : Bool} (h : XV X σ H e (.bl c)) (he : ∀ whole, isTrue e X.env whole = (do let v ← whole; standAt e.pos; holding [v] (truthy v)) := by intro _; rfl) : XT X σ H e c := fun H1 e1 Q q =>
  to_t (pt_val pe_sem he) (h H1 e1 _ fun _ H2 e2 g => by cases g; exact ⟨c, rfl, q H2 e2⟩)
/-! and, or, not -/
theorem w_and1 {c : Bool} (h : XT X σ H a c) : XW X σ H (.BoolOp .And [a] pos) c := fun H1 e1 Q q => to_w (pw_and1 pt_sem) (h H1 e1 Q q)
theorem w_or1 {c : Bool} (h : XT X σ H a c) : XW X σ H (.BoolOp .Or [a] pos) c := fun H1 e1 Q q => to_w (pw_or1 pt_sem) (h H1 e1 Q q)
theorem w_and {c d : Bool} (h : XT X σ H a c) (k : c = true → XW X σ H (.BoolOp .And (b :: rest) pos) d) : XW X σ H (.BoolOp .And (a :: b :: rest) pos) (c && d) := fun H1 e1 Q q => to_w (pw_and pt_sem pw_sem) (h H1 e1 _ fun H2 e2 => by
  cases c with
  | true => exact k rfl H2 (e1.trans e2) Q fun H3 e3 => q H3 (e2.trans e3)
  | false => exact q H2 e2)
theorem w_or {c d : Bool} (h : XT X σ H a c) (k : c = false → XW X σ H (.BoolOp .Or (b :: rest) pos) d) : XW X σ H (.BoolOp .Or (a :: b :: rest) pos) (c || d) := fun H1 e1 Q q => to_w (pw_or pt_sem pw_sem) (h H1 e1 _ fun H2 e2 => by
  cases c with
  | true => exact q H2 e2
  | false => exact k rfl H2 (e1.trans e2) Q fun H3 e3 => q H3 (e2.trans e3))
theorem t_w {c : Bool} (h : XW X σ H e c) : XT X σ H e c := fun H1 e1 Q q => to_t pw_sem.pt (h H1 e1 Q q)
theorem t_and {c d : Bool} (h : XT X σ H a c) (k : c = true → XT X σ H b d) : XT X σ H (.BoolOp .And [a, b] pos) (c && d) := t_w (w_and h fun z => w_and1 (k z))
theorem t_or {c d : Bool} (h : XT X σ H a c) (k : c = false → XT X σ H b d) : XT X σ H (.BoolOp .Or [a, b] pos) (c || d) := t_w (w_or h fun z => w_or1 (k z))
theorem t_not {c : Bool} (h : XT X σ H a c) : XT X σ H (.UnaryOp .Not a pos) (!c) := fun H1 e1 Q q => to_t (pt_not pt_sem) (h H1 e1 _ q)
/-- as values -/
theorem x_b1 {op : BoolOp} {c : Bool} (h : XV X σ H a (.bl c)) : XV X σ H (.BoolOp op [a] pos) (.bl c) := fun H1 e1 Q q => to_e (pe_one pe_sem) (h H1 e1 Q q)
theorem x_band {c d : Bool} (h : XV X σ H a (.bl c)) (k : c = true → XV X σ H (.BoolOp .And (b :: rest) pos) (.bl d)) : XV X σ H (.BoolOp .And (a :: b :: rest) pos) (.bl (c && d)) := fun H1 e1 Q q => to_e (pe_and pe_sem pe_sem) (h H1 e1 _ fun v H2 e2 g => by
  cases g
  refine ⟨c, rfl, ?_⟩
  cases c with
  | true => exact k rfl H2 (e1.trans e2) Q fun v H3 e3 g3 => q v H3 (e2.trans e3) g3
  | false => exact q _ H2 e2 rfl)
theorem x_bor {c d : Bool} (h : XV X σ H a (.bl c)) (k : c = false → XV X σ H (.BoolOp .Or (b :: rest) pos) (.bl d)) : XV X σ H (.BoolOp .Or (a :: b :: rest) pos) (.bl (c || d)) := fun H1 e1 Q q => to_e (pe_or pe_sem pe_sem) (h H1 e1 _ fun v H2 e2 g => by
  cases g
  refine ⟨c, rfl, ?_⟩
  cases c with
  | true => exact q _ H2 e2 rfl
  | false => exact k rfl H2 (e1.trans e2) Q fun v H3 e3 g3 => q v H3 (e2.trans e3) g3)
theorem x_and2 {c d : Bool} (h : XV X σ H a (.bl c)) (k : c = true → XV X σ H b (.bl d)) : XV X σ H (.BoolOp .And [a, b] pos) (.bl (c && d)) := x_band h fun z => x_b1 (k z)
theorem x_or2 {c d : Bool} (h : XV X σ H a (.bl c)) (k : c = false → XV X σ H b (.bl d)) : XV X σ H (.BoolOp .Or [a, b] pos) (.bl (c || d)) := x_bor h fun z => x_b1 (k z)
theorem x_not {c : Bool} (h : XV X σ H a (.bl c)) : XV X σ H (.UnaryOp .Not a pos) (.bl (!c)) := fun H1 e1 Q q => to_e (pe_not pe_sem) (h H1 e1 _ fun v H2 e2 g => by
  cases g
  exact ⟨c, rfl, q _ H2 e2 rfl⟩)
/-- i <= e <= j -/
theorem x_chainLe {c : Expr} {i j k : Int} (ha : XV X σ H a (.int i)) (hb : XV X σ H b (.int j)) (hc : XV X σ H c (.int k)) (hm : lastMarks [.LtE, .LtE] [b, c] = false := by with_unfolding_all rfl) : XV X σ H (.Compare a [.LtE, .LtE] [b, c] pos) (.bl (decide (i ≤ j) && decide (j ≤ k))) := fun H1 e1 Q q =>
  to_e (pe_chain op_le op_le pe_sem pe_sem pe_sem hm) (ha H1 e1 _ fun _ H2 e2 g2 => by
    cases g2
    exact hb H2 (e1.trans e2) _ fun _ H3 e3 g3 => by
      cases g3
      refine ⟨i, j, rfl, rfl, decide (i ≤ j), rfl, ?_⟩
      cases hd : decide (i ≤ j) with
      | true => exact iteT (hc H3 ((e1.trans e2).trans e3) _ fun _ H4 e4 g4 => by
          cases g4
          exact ⟨j, k, rfl, rfl, q _ H4 ((e2.trans e3).trans e4) (by rw [hd]; rfl)⟩)
      | false => exact iteF (q _ H3 (e2.trans e3) (by rw [hd]; rfl)))
theorem t_chainLe {c : Expr} {i j k : Int} (ha : XV X σ H a (.int i)) (hb : XV X σ H b (.int j)) (hc : XV X σ H c (.int k)) (hm : lastMarks [.LtE, .LtE] [b, c] = false := by with_unfolding_all rfl) : XT X σ H (.Compare a [.LtE, .LtE] [b, c] pos) (decide (i ≤ j) && decide (j ≤ k)) := fun H1 e1 Q q =>
  to_t (pt_chain op_le op_le pe_sem pe_sem pe_sem hm) (ha H1 e1 _ fun _ H2 e2 g2 => by
    cases g2
    exact hb H2 (e1.trans e2) _ fun _ H3 e3 g3 => by
      cases g3
      refine ⟨i, j, rfl, rfl, decide (i ≤ j), rfl, ?_⟩
      cases hd : decide (i ≤ j) with
      | true => exact iteT (hc H3 ((e1.trans e2).trans e3) _ fun _ H4 e4 g4 => by
          cases g4
          refine ⟨j, k, rfl, rfl, decide (j ≤ k), rfl, ?_⟩
          have z := q H4 ((e2.trans e3).trans e4)
          rw [hd] at z
          exact z)
      | false =>
        refine iteF ⟨false, rfl, ?_⟩
        have z := q H3 (e2.trans e3)
        rw [hd] at z
        exact z)
/-! arguments -/
theorem a_nil {P : List V → Hp → Prop} (h : ∀ H1, Ex H H1 → P [] H1) : XA X σ H [] P := fun H1 e1 Q q => to_a pa_nil (q [] H1 (Ex.refl H1) (h H1 e1))
theorem a_cons {P : List V → Hp → Prop} (h : XG X σ H e r) (k : ∀ v H1, Ex H H1 → r.go H v H1 → XA X σ H1 es fun vs H2 => P (v :: vs) H2) (hs : starEach (e :: es) X.env = (false, eval e X.env) :: starEach es X.env := by rfl) : XA X σ H (e :: es) P := fun H1 e1 Q q =>
  to_a (pa_cons pe_sem pa_sem hs) (h H1 e1 _ fun v H2 e2 g => k v H2 (e1.trans e2) (go_back e1 g) H2 (Ex.refl H2) _ fun vs H3 e3 p => q _ H3 (e2.trans e3) p)
theorem a_v {P : List V → Hp → Prop} (h : XV X σ H e v) (k : XA X σ H es fun vs H2 => P (v :: vs) H2) (hs : starEach (e :: es) X.env = (false, eval e X.env) :: starEach es X.env := by rfl) : XA X σ H (e :: es) P :=
  a_cons h (fun u H1 e1 g => by cases g; exact k.mono e1) hs
/-- exact values -/
abbrev XE (X : Cx) (σ : L2.St) (H : Hp) (es : List Expr) (vs : List V) : Prop := XA X σ H es fun us _ => us = vs
theorem e_nil : XE X σ H [] [] := a_nil fun _ _ => rfl
theorem e_cons {vs : List V} (h : XV X σ H e v) (k : XE X σ H es vs) (hs : starEach (e :: es) X.env = (false, eval e X.env) :: starEach es X.env := by rfl) : XE X σ H (e :: es) (v :: vs) :=
  a_v h (fun H1 e1 Q q => k H1 e1 Q fun us H2 e2 g => q us H2 e2 (by rw [g])) hs
theorem e_1 (h : XV X σ H e v) (hs : starEach [e] X.env = (false, eval e X.env) :: starEach [] X.env := by rfl) : XE X σ H [e] [v] := e_cons h e_nil hs

/-! ### calls -/
/-- what a call of a def asks and gives: R of the values, the heap, what is handed back -/
abbrev Rl := List V → Hp → Rt → Prop
def spR (R : Rl) : Sp := fun vs H Q _ => ∃ r, R vs H r ∧ ∀ v H', Ex H H' → r.go H v H' → Q v H'
def FG (P : Program) (w : World) (K : PySem.W.Frag) (mg : Str → Option Value) (base : Heap) (k : Nat) (f : Addr) (ps : List Str) (R : Rl) : Prop := ∃ fd, FnOk P w K mg base CX0 k f fd ps (spR R) ∧ Binds K fd ps []
/-- the def that stands by the name x keeps R -/
def DF (P : Program) (w : World) (K : PySem.W.Frag) (mg : Str → Option Value) (base : Heap) (k : Nat) (x : Str) (ps : List Str) (R : Rl) : Prop := ∃ f, FG P w K mg base k f ps R ∧ mg x = some (.ref f) ∧ PySem.W.keepIn K (.ref f) = true
/-- the method m of the class at C keeps R -/
def MF (P : Program) (w : World) (K : PySem.W.Frag) (mg : Str → Option Value) (base : Heap) (k : Nat) (C : Addr) (m : Str) (ps : List Str) (R : Rl) : Prop := ∃ f, FG P w K mg base k f ps R ∧ Meth K C m f
theorem DF.up {P : Program} {w : World} {K : PySem.W.Frag} {mg : Str → Option Value} {base : Heap} {k j : Nat} {n : Str} {ps : List Str} {R : Rl} (h : DF P w K mg base k n ps R) (l : k ≤ j) : DF P w K mg base j n ps R := by
  obtain ⟨f, ⟨fd, F, b⟩, m, kp⟩ := h
  exact ⟨f, ⟨fd, F.mono l, b⟩, m, kp⟩
theorem MF.up {P : Program} {w : World} {K : PySem.W.Frag} {mg : Str → Option Value} {base : Heap} {k j : Nat} {C : Addr} {n : Str} {ps : List Str} {R : Rl} (h : MF P w K mg base k C n ps R) (l : k ≤ j) : MF P w K mg base j C n ps R := by
  obtain ⟨f, ⟨fd, F, b⟩, m⟩ := h
  exact ⟨f, ⟨fd, F.mono l, b⟩, m⟩
/-- f(e, ..) -/
theorem x_callA {n : Str} {k : Nat} {ps : List Str} {R : Rl} (D : DF X.prog X.w X.K X.mg X.base k n ps R) (hr : Room k X.A) (ha : XA X σ H (e :: es) fun vs H1 => ∃ r', R vs H1 r' ∧ ∀ v H2, Ex H1 H2 → r'.go H1 v H2 → r.go H1 v H2)
    (hg : Gl X n := by rfl) (hdb : (n == ("__debug__" : Str)) = false := by decide) (he : starEach (e :: es) X.env = (false, eval e X.env) :: starEach es X.env := by rfl) (hpl : (backTo pos (starEach es X.env)).any (·.1) = false := by rfl) :
    XG X σ H (.Call (.Name n p) (e :: es) [] pos) r := by
  obtain ⟨f, ⟨fd, F, b⟩, hm, kp⟩ := D
  exact fun H1 e1 Q q => to_e (pe_call (dvs := []) F hr hg hm kp b .nil pass0 pa_sem hdb he hpl) (ha H1 e1 _ fun vs H2 e2 ⟨r', h1, h2⟩ => ⟨r', by rw [List.append_nil]; exact h1, fun v H3 e3 g => q v H3 (e2.trans e3) (go_back e2 (h2 v H3 e3 g))⟩)
theorem x_call {n : Str} {k : Nat} {ps : List Str} {R : Rl} {vs : List V} (D : DF X.prog X.w X.K X.mg X.base k n ps R) (hr : Room k X.A) (ha : XE X σ H (e :: es) vs) (hR : ∀ H1, Ex H H1 → R vs H1 r)
    (hg : Gl X n := by rfl) (hdb : (n == ("__debug__" : Str)) = false := by decide) (he : starEach (e :: es) X.env = (false, eval e X.env) :: starEach es X.env := by rfl) (hpl : (backTo pos (starEach es X.env)).any (·.1) = false := by rfl) :
    XG X σ H (.Call (.Name n p) (e :: es) [] pos) r :=
  x_callA D hr (fun H1 e1 Q q => ha H1 e1 Q fun us H2 e2 g => q us H2 e2 ⟨r, by rw [g]; exact hR H2 (e1.trans e2), fun _ _ _ z => z⟩) hg hdb he hpl
theorem x_call0 {n : Str} {k : Nat} {ps : List Str} {R : Rl} (D : DF X.prog X.w X.K X.mg X.base k n ps R) (hr : Room k X.A) (hR : ∀ H1, Ex H H1 → R [] H1 r)
    (hg : Gl X n := by rfl) (hdb : (n == ("__debug__" : Str)) = false := by decide) : XG X σ H (.Call (.Name n p) [] [] pos) r := by
  obtain ⟨f, ⟨fd, F, b⟩, hm, kp⟩ := D
  exact fun H1 e1 Q q => to_e (pe_call0 (dvs := []) F hr hg hm kp b .nil pass0 hdb) ⟨r, hR H1 e1, fun v H3 e3 g => q v H3 e3 g⟩
/-- o.m(e, ..) -/
theorem x_meth {o : Expr} {m : Str} {k : Nat} {C dx i : Addr} {fs : List (Str × V)} {ps : List Str} {R : Rl} {vs : List V} (D : MF X.prog X.w X.K X.mg X.base k C m ps R) (c : Cls X.K C) (hr : Room k X.A) (ho : XV X σ H o (.ref i)) (hi : H i = some (.ins C dx fs)) (hn : fs.lookup m = none)
    (ha : XE X σ H (e :: es) vs) (hR : ∀ H1, Ex H H1 → R (.ref i :: vs) H1 r) {pl : Sem Bool}
    (hst : starEach (e :: es) X.env = (false, eval e X.env) :: starEach es X.env := by rfl) (hpl : (backTo pos (starEach es X.env)).any (·.1) = false := by rfl)
    (ht : eval (.Call (.Attribute o m apos) (e :: es) [] pos) X.env = (do
      let ov ← eval o X.env
      standAt apos.atName
      let (f, first) ← holding [ov] (getMethod ov m pl)
      callWith pos f first (backTo pos (starEach (e :: es) X.env)) (backToKw pos (keywordEach [] X.env))) := by rfl) : XG X σ H (.Call (.Attribute o m apos) (e :: es) [] pos) r := by
  obtain ⟨f, ⟨fd, F, b⟩, hm⟩ := D
  exact fun H1 e1 Q q => to_e (pe_meth (dvs := []) pe_sem c hm F hr b .nil pass0 pa_sem hst hpl ht) (ho H1 e1 _ fun _ H2 e2 g2 => by
    cases g2
    exact ⟨i, dx, fs, rfl, (e1.trans e2) i _ hi, hn, ha H2 (e1.trans e2) _ fun us H3 e3 g => ⟨r, by rw [g, List.append_nil]; exact hR H3 ((e1.trans e2).trans e3), fun v H4 e4 g4 => q v H4 ((e2.trans e3).trans e4) (go_back (e2.trans e3) g4)⟩⟩)
theorem x_meth0 {o : Expr} {m : Str} {k : Nat} {C dx i : Addr} {fs : List (Str × V)} {ps : List Str} {R : Rl} (D : MF X.prog X.w X.K X.mg X.base k C m ps R) (c : Cls X.K C) (hr : Room k X.A) (ho : XV X σ H o (.ref i)) (hi : H i = some (.ins C dx fs)) (hn : fs.lookup m = none)
    (hR : ∀ H1, Ex H H1 → R [.ref i] H1 r) {pl : Sem Bool}
    (ht : eval (.Call (.Attribute o m apos) [] [] pos) X.env = (do
      let ov ← eval o X.env
      standAt apos.atName
      let (f, first) ← holding [ov] (getMethod ov m pl)
      callWith pos f first (backTo pos (starEach [] X.env)) (backToKw pos (keywordEach [] X.env))) := by rfl) : XG X σ H (.Call (.Attribute o m apos) [] [] pos) r := by
  obtain ⟨f, ⟨fd, F, b⟩, hm⟩ := D
  exact fun H1 e1 Q q => to_e (pe_meth0 (dvs := []) pe_sem c hm F hr b .nil pass0 ht) (ho H1 e1 _ fun _ H2 e2 g2 => by
    cases g2
    exact ⟨i, dx, fs, rfl, (e1.trans e2) i _ hi, hn, r, hR H2 (e1.trans e2), fun v H4 e4 g4 => q v H4 (e2.trans e4) (go_back e2 g4)⟩)
/-- a built-in function, a built-in class, by values -/
theorem x_cbA {n : Str} {id : String} {rr : List V → Hp → VK → Prop} (hc : CallR X (.builtin id) rr) (hm : X.mg n = none) (hv : bootBuiltins n = some (.builtin id)) (ha : XA X σ H (e :: es) fun vs H1 => ∀ Q : VK, (∀ v H2, Ex H1 H2 → r.go H1 v H2 → Q v H2) → rr vs H1 Q)
    (hg : Gl X n := by rfl) (hn : n ≠ "__name__" := by decide) (hdb : (n == ("__debug__" : Str)) = false := by decide) (he : starEach (e :: es) X.env = (false, eval e X.env) :: starEach es X.env := by rfl) (hpl : (backTo pos (starEach es X.env)).any (·.1) = false := by rfl) :
    XG X σ H (.Call (.Name n p) (e :: es) [] pos) r := fun H1 e1 Q q =>
  to_e (pe_callB hc hg hm hv pa_sem hn hdb he hpl) (ha H1 e1 _ fun vs H2 e2 h => h Q fun v H3 e3 g => q v H3 (e2.trans e3) (go_back e2 g))
theorem x_ctA {n : Str} {T : String} {rr : List V → Hp → VK → Prop} (hc : CallR X (.type T) rr) (hm : X.mg n = none) (hv : bootBuiltins n = some (.type T)) (ha : XA X σ H (e :: es) fun vs H1 => ∀ Q : VK, (∀ v H2, Ex H1 H2 → r.go H1 v H2 → Q v H2) → rr vs H1 Q)
    (hg : Gl X n := by rfl) (hn : n ≠ "__name__" := by decide) (hdb : (n == ("__debug__" : Str)) = false := by decide) (he : starEach (e :: es) X.env = (false, eval e X.env) :: starEach es X.env := by rfl) (hpl : (backTo pos (starEach es X.env)).any (·.1) = false := by rfl) :
    XG X σ H (.Call (.Name n p) (e :: es) [] pos) r := fun H1 e1 Q q =>
  to_e (pe_callTy hc hg hm hv pa_sem hn hdb he hpl) (ha H1 e1 _ fun vs H2 e2 h => h Q fun v H3 e3 g => q v H3 (e2.trans e3) (go_back e2 g))
/-- len of a list | a tuple, of a list made on the way -/
theorem x_len {q : Addr} {xs : List V} (ha : XV X σ H e (.ref q)) (hq : SqL X.K H q xs ∨ SqT X.K H q xs) (hm : X.mg "len" = none) (hg : Gl X "len" := by rfl) (he : starEach [e] X.env = (false, eval e X.env) :: starEach [] X.env := by rfl) (hpl : (backTo pos (starEach [] X.env)).any (·.1) = false := by rfl) :
    XV X σ H (.Call (.Name "len" p) [e] [] pos) (.int (xs.length : Nat)) :=
  x_cbA call_len_seq hm boot_len (a_v ha (a_nil fun H1 e1 Q k => ⟨q, xs, rfl, hq.elim (fun z => .inl (ex_l e1 z)) (fun z => .inr (ex_t e1 z)), k _ H1 (Ex.refl H1) rfl⟩) he) hg (by decide) (by decide) he hpl
theorem x_lenN {xs : List V} (ha : XG X σ H e (.lst xs)) (hm : X.mg "len" = none) (hg : Gl X "len" := by rfl) (he : starEach [e] X.env = (false, eval e X.env) :: starEach [] X.env := by rfl) (hpl : (backTo pos (starEach [] X.env)).any (·.1) = false := by rfl) :
    XV X σ H (.Call (.Name "len" p) [e] [] pos) (.int (xs.length : Nat)) :=
  x_cbA call_len_seq hm boot_len (a_cons ha (fun v H1 e1 g => a_nil fun H2 e2 Q k => by
    obtain ⟨q, rfl, _, hq⟩ := g
    exact ⟨q, xs, rfl, .inl (SqL.of (e2 q _ hq)), k _ H2 (Ex.refl H2) rfl⟩) he) hg (by decide) (by decide) he hpl
/-- list(xs) -/
theorem x_list {q : Addr} {xs : List V} (ha : XV X σ H e (.ref q)) (hq : SqL X.K H q xs ∨ SqT X.K H q xs) (hm : X.mg "list" = none) (hg : Gl X "list" := by rfl) (he : starEach [e] X.env = (false, eval e X.env) :: starEach [] X.env := by rfl) (hpl : (backTo pos (starEach [] X.env)).any (·.1) = false := by rfl) :
    XG X σ H (.Call (.Name "list" p) [e] [] pos) (.lst xs) :=
  x_ctA call_list_of hm (by decide +kernel) (a_v ha (a_nil fun H1 e1 Q k => ⟨q, xs, rfl, hq.elim (fun z => .inl (ex_l e1 z)) (fun z => .inr (ex_t e1 z)), fun l hl => k _ _ (Ex.new hl) ⟨l, rfl, hl, upd_same⟩⟩) he) hg (by decide) (by decide) he hpl
/-- a[i] -/
theorem x_ixL {q : Addr} {xs : List V} {i : Int} (ha : XV X σ H a (.ref q)) (hb : XV X σ H b (.int i)) (hq : SqL X.K H q xs) (hi : atI xs i = some v) (hs : PlainIx b := by exact fun _ _ => rfl) : XV X σ H (.Subscript a b pos) v := fun H1 e1 Q k =>
  to_e (pe_ix ix_list pe_sem pe_sem hs) (ha H1 e1 _ fun _ H2 e2 g2 => by
    cases g2
    exact hb H2 (e1.trans e2) _ fun _ H3 e3 g3 => by
      cases g3
      exact ⟨q, xs, i, v, rfl, rfl, ex_l ((e1.trans e2).trans e3) hq, hi, k _ H3 (e2.trans e3) rfl⟩)
theorem x_ixT {q : Addr} {xs : List V} {i : Int} (ha : XV X σ H a (.ref q)) (hb : XV X σ H b (.int i)) (hq : SqT X.K H q xs) (hi : atI xs i = some v) (hs : PlainIx b := by exact fun _ _ => rfl) : XV X σ H (.Subscript a b pos) v := fun H1 e1 Q k =>
  to_e (pe_ix ix_tup pe_sem pe_sem hs) (ha H1 e1 _ fun _ H2 e2 g2 => by
    cases g2
    exact hb H2 (e1.trans e2) _ fun _ H3 e3 g3 => by
      cases g3
      exact ⟨q, xs, i, v, rfl, rfl, ex_t ((e1.trans e2).trans e3) hq, hi, k _ H3 (e2.trans e3) rfl⟩)
/-- of a list, a tuple made on the way -/
theorem x_ixN {xs : List V} {i : Int} (ha : XG X σ H a (.lst xs)) (hb : XV X σ H b (.int i)) (hi : atI xs i = some v) (hs : PlainIx b := by exact fun _ _ => rfl) : XV X σ H (.Subscript a b pos) v := fun H1 e1 Q k =>
  to_e (pe_ix ix_list pe_sem pe_sem hs) (ha H1 e1 _ fun _ H2 e2 g2 => by
    obtain ⟨q, rfl, _, hq⟩ := g2
    exact hb H2 (e1.trans e2) _ fun _ H3 e3 g3 => by
      cases g3
      exact ⟨q, xs, i, v, rfl, rfl, SqL.of (e3 q _ hq), hi, k _ H3 (e2.trans e3) rfl⟩)
/-- o.f -/
theorem x_fld {f : Str} {C dx i : Addr} {fs : List (Str × V)} (ho : XV X σ H e (.ref i)) (hi : H i = some (.ins C dx fs)) (c : Cls X.K C) (n : NoAttr X.K C f) (l : fs.lookup f = some v) (hb : attributeBase e f X.env (eval e X.env) = eval e X.env := by rfl) : XV X σ H (.Attribute e f pos) v := fun H1 e1 Q k =>
  to_e (pe_fld pe_sem hb) (ho H1 e1 _ fun _ H2 e2 g2 => by
    cases g2
    exact ⟨i, C, dx, fs, v, rfl, (e1.trans e2) i _ hi, c, n, l, k _ H2 e2 rfl⟩)
/-- (a, b, ..), [a, b, ..] -/
theorem x_tup {x1 : Nat} {vs : List V} (ha : XE X σ H es vs) (hl : vs.length ≤ 100000) : XG X σ H (.Tuple es x1 pos) (.tup vs) := fun H1 e1 Q k =>
  to_e (pe_tup pa_sem) (ha H1 e1 _ fun us H2 e2 g => by
    cases g
    exact ⟨sz_of hl, fun p hp => k _ _ (e2.trans (Ex.new hp)) ⟨p, rfl, fresh_back e2 hp, upd_same⟩⟩)
theorem x_lst {vs : List V} (ha : XE X σ H es vs) (hl : vs.length ≤ 100000) : XG X σ H (.List es pos) (.lst vs) := fun H1 e1 Q k =>
  to_e (pe_lst pa_sem) (ha H1 e1 _ fun us H2 e2 g => by
    cases g
    exact ⟨sz_of hl, fun p hp => k _ _ (e2.trans (Ex.new hp)) ⟨p, rfl, fresh_back e2 hp, upd_same⟩⟩)
/-- xs[lo:hi] -/
theorem x_sl {lo hi : Option Expr} {tl th : TO} {l h : Option Int} {q : Addr} {xs : List V} {p2 : Pos} (ha : XV X σ H e (.ref q)) (hl : PO X lo tl) (hu : PO X hi th) (el : EvO tl σ H l) (eu : EvO th σ H h) (hq : SqL X.K H q xs) : XG X σ H (.Subscript e (.Slice lo hi none p2) pos) (.lst (cutV xs l h)) := fun H1 e1 Q k =>
  to_e (pe_slice sl_list pe_sem hl hu) (ha H1 e1 _ fun _ H2 e2 g2 => by
    cases g2
    exact el H2 (e1.trans e2) _ fun H3 e3 => eu H3 ((e1.trans e2).trans e3) _ fun H4 e4 => ⟨q, xs, rfl, ex_l (((e1.trans e2).trans e3).trans e4) hq, fun p hp => k _ _ ((e2.trans e3).trans (e4.trans (Ex.new hp))) ⟨p, rfl, fresh_back ((e2.trans e3).trans e4) hp, upd_same⟩⟩)
end

/-! ### statements -/
section
variable {X : Cx} {σ : L2.St} {H H' : Hp} {D : Ends} {e a b o : Expr} {es : List Expr} {r : Rt} {v x y z : V} {st : Stmt} {sts body els : List Stmt} {pos p p' apos : Pos}
theorem s_nil (h : D.nx σ H) : semB X [] D σ H := to_b pss_nil h
theorem s_seq (h : semS X st { D with nx := fun σ' H' => semB X sts D σ' H' } σ H) : semB X (st :: sts) D σ H := to_b (pss_cons ps_sem pb_sem) h
theorem s_one (h : semS X st D σ H) : semB X [st] D σ H := to_b (pss_one ps_sem) h
/-- with a word between -/
theorem s_cut (M : L2.St → Hp → Prop) (h : semS X st { D with nx := M } σ H) (k : ∀ σ' H', M σ' H' → semB X sts D σ' H') : semB X (st :: sts) D σ H := to_b (pss_cut ps_sem pb_sem) ⟨M, h, k⟩
/-- x = e -/
theorem s_set (i : Nat) {n : Str} (hN : X.N.Nodup) (h : XG X σ H e r) (k : ∀ v H1, Ex H H1 → r.go H v H1 → D.nx (σ.set i (some v)) H1) (hi : X.N[i]? = some n := by rfl) (hx : Loc X.env.scope n := by first | exact Or.inl rfl | exact Or.inr rfl)
    (hs : swapsWith e (some (.Name n p')) pos.line X.env = pure false := by rfl) (hf : X.fn n = true ∨ X.env.scope.names.lookup n = some .local := by first | exact .inl rfl | exact .inr rfl) : semS X (.Assign [.Name n p'] e pos) D σ H :=
  to_s (ps_set hN hi hx pe_sem hs hf) (h H (Ex.refl H) _ fun v H1 e1 g => k v H1 e1 g)
theorem q_set (i : Nat) {n : Str} (hN : X.N.Nodup) (h : XG X σ H e r) (k : ∀ v H1, Ex H H1 → r.go H v H1 → semB X sts D (σ.set i (some v)) H1) (hi : X.N[i]? = some n := by rfl) (hx : Loc X.env.scope n := by first | exact Or.inl rfl | exact Or.inr rfl)
    (hs : swapsWith e (some (.Name n p')) pos.line X.env = pure false := by rfl) (hf : X.fn n = true ∨ X.env.scope.names.lookup n = some .local := by first | exact .inl rfl | exact .inr rfl) : semB X (.Assign [.Name n p'] e pos :: sts) D σ H := s_seq (s_set i hN h k hi hx hs hf)
theorem q_setV (i : Nat) {n : Str} (hN : X.N.Nodup) (h : XV X σ H e v) (k : ∀ H1, Ex H H1 → semB X sts D (σ.set i (some v)) H1) (hi : X.N[i]? = some n := by rfl) (hx : Loc X.env.scope n := by first | exact Or.inl rfl | exact Or.inr rfl)
    (hs : swapsWith e (some (.Name n p')) pos.line X.env = pure false := by rfl) (hf : X.fn n = true ∨ X.env.scope.names.lookup n = some .local := by first | exact .inl rfl | exact .inr rfl) : semB X (.Assign [.Name n p'] e pos :: sts) D σ H :=
  q_set i hN h (fun u H1 e1 g => by cases g; exact k H1 e1) hi hx hs hf
/-- return e -/
theorem s_ret (h : XG X σ H e r) (k : ∀ v H1, Ex H H1 → r.go H v H1 → D.rt v H1) : semS X (.Return (some e) pos) D σ H := to_s (ps_ret pe_sem) (h H (Ex.refl H) _ k)
theorem s_retN (h : D.rt .non H) : semS X (.Return none pos) D σ H := to_s ps_retN h
/-- if -/
theorem s_if {c : Bool} (h : XT X σ H e c) (h1 : c = true → ∀ H1, Ex H H1 → semB X body D σ H1) (h2 : c = false → ∀ H1, Ex H H1 → semB X els D σ H1) : semS X (.If e body els pos) D σ H :=
  to_s (ps_if pt_sem pb_sem pb_sem) (h H (Ex.refl H) _ fun H1 e1 => by
    cases c with
    | true => exact h1 rfl H1 e1
    | false => exact h2 rfl H1 e1)
theorem q_if {c : Bool} (h : XT X σ H e c) (h1 : c = true → ∀ H1, Ex H H1 → semB X body { D with nx := fun σ' H' => semB X sts D σ' H' } σ H1) (h2 : c = false → ∀ H1, Ex H H1 → semB X els { D with nx := fun σ' H' => semB X sts D σ' H' } σ H1) : semB X (.If e body els pos :: sts) D σ H := s_seq (s_if h h1 h2)
/-- an if without else -/
theorem q_when {c : Bool} (h : XT X σ H e c) (h1 : c = true → ∀ H1, Ex H H1 → semB X body { D with nx := fun σ' H' => semB X sts D σ' H' } σ H1) (h2 : c = false → ∀ H1, Ex H H1 → semB X sts D σ H1) : semB X (.If e body [] pos :: sts) D σ H :=
  q_if h h1 fun z H1 e1 => s_nil (h2 z H1 e1)
theorem s_when {c : Bool} (h : XT X σ H e c) (h1 : c = true → ∀ H1, Ex H H1 → semB X body D σ H1) (h2 : c = false → ∀ H1, Ex H H1 → D.nx σ H1) : semS X (.If e body [] pos) D σ H :=
  s_if h h1 fun z H1 e1 => s_nil (h2 z H1 e1)
theorem s_brk (h : D.bk σ H) : semS X (.Break pos) D σ H := to_s ps_break h
/-- an expression alone -/
theorem s_expr (h : XG X σ H e r) (k : ∀ v H1, Ex H H1 → r.go H v H1 → D.nx σ H1) (hs : swapsWith e none pos.line X.env = pure false := by rfl) : semS X (.Expr e pos) D σ H := to_s (ps_expr pe_sem hs) (h H (Ex.refl H) _ fun v H1 e1 g => k v H1 e1 g)
/-- xs.append(e) -/
theorem s_app {l : Addr} {xs : List V} (hl : H l = some (.lst xs)) (ha : XV X σ H o (.ref l)) (h : XG X σ H e r) (hz : xs.length < 100000) (k : ∀ v H1, Ex H H1 → r.go H v H1 → D.nx σ (upd H1 l (.lst (xs ++ [v]))))
    (hs : swapsWith (.Call (.Attribute o "append" apos) [e] [] p) none pos.line X.env = pure false := by rfl)
    (hbase : attributeBase o "append" X.env (eval o X.env) = eval o X.env := by rfl)
    (hfew : ((backTo p (starEach [e] X.env)).all (fun x => !x.1) && (backToKw p (keywordEach [] X.env)).all (fun x => x.1.isSome)
      && decide ([e].length + ([] : List Keyword).length + (if ([] : List Keyword).isEmpty then 0 else 1) < 30)) = true := by rfl)
    (hline : (apos.endLine == p.line) = true := by rfl) (hst : starEach [e] X.env = (false, eval e X.env) :: starEach [] X.env := by rfl) (hplain : (backTo p (starEach [] X.env)).any (·.1) = false := by rfl) :
    semS X (.Expr (.Call (.Attribute o "append" apos) [e] [] p) pos) D σ H :=
  to_s (ps_expr (pe_bm PySem.F.plainAttrs_list PySem.F.slot_list_append PySem.F.type_list_append mt_append pe_sem (pa_cons pe_sem pa_nil hst) hbase hfew hline hst hplain) hs) (ha H (Ex.refl H) _ fun _ H1 e1 g1 => by
    cases g1
    exact ⟨Or.inl ⟨rfl, xs, sq_of (e1 l _ hl)⟩, h H1 e1 _ fun v H2 e2 g2 => ⟨l, xs, v, rfl, rfl, e2 l _ (e1 l _ hl), sz_lt hz, k v H2 (e1.trans e2) (go_back e1 g2)⟩⟩)
/-- xs[i] = e -/
theorem s_setL {l : Addr} {xs : List V} {j : Nat} {kp : Pos} (hl : H l = some (.lst xs)) (h : XV X σ H e v) (ho : XV X σ H o (.ref l)) (hi : XV X σ H a (.int (j : Int))) (hj : j < xs.length) (k : ∀ H1, Ex H H1 → D.nx σ (upd H1 l (.lst (xs.set j v))))
    (ha : ∀ v, assign (.Subscript o a kp) X.env v = (do
      let ov ← holding [v] (eval o X.env)
      let iv ← holding [v, ov] (eval a X.env)
      standAt kp
      holding [v, ov, iv] (setItem ov iv v)
      release [v, ov, iv] []) := by intro _; rfl)
    (hs : swapsWithSole [.Subscript o a kp] e pos.line X.env = pure false := by rfl) (hw : swappedStores [.Subscript o a kp] e X.env = pure none := by rfl)
    (h1 : (assignEach [.Subscript o a kp] X.env).map (·.2) = [assign (.Subscript o a kp) X.env] := by rfl) : semS X (.Assign [.Subscript o a kp] e pos) D σ H :=
  to_s (ps_asg pe_sem (pg_sub pe_sem pe_sem set_list ha) hs hw h1) (h H (Ex.refl H) _ fun _ H1 e1 g1 => by
    cases g1
    exact ho H1 e1 _ fun _ H2 e2 g2 => by
      cases g2
      exact hi H2 (e1.trans e2) _ fun _ H3 e3 g3 => by
        cases g3
        exact ⟨l, xs, (j : Int), j, rfl, rfl, ((e1.trans e2).trans e3) l _ hl, ixN_nat hj, k H3 ((e1.trans e2).trans e3)⟩)
/-- for x in xs, a list that stands -/
theorem s_forL {q : Addr} {xs : List V} (j : Nat) {n : Str} {tp : Pos} (hN : X.N.Nodup) (h : XV X σ H e (.ref q)) (hx : SqL X.K H q xs) (Pv : Nat → L2.St → Hp → Prop) (h0 : ∀ H1, Ex H H1 → Pv 0 σ H1) (hl : ∀ i σ' H', i ≤ xs.length → Pv i σ' H' → SqL X.K H' q xs)
    (hs : ∀ i x σ' H', xs[i]? = some x → Pv i σ' H' → semB X body { D with nx := Pv (i + 1), ct := Pv (i + 1), bk := D.nx } (σ'.set j (some x)) H') (hd : ∀ σ' H', Pv xs.length σ' H' → D.nx σ' H') (hp : PassesOwn (model X.prog X.w) X.A X.env X.xe := by exact PassesOwn.never) (hc : X.calm = true := by rfl)
    (hj : X.N[j]? = some n := by rfl) (hxl : Loc X.env.scope n := by first | exact Or.inl rfl | exact Or.inr rfl) (hf : X.fn n = true ∨ X.env.scope.names.lookup n = some .local := by first | exact .inl rfl | exact .inr rfl) (hfo : ∀ x, foldedSetIterable e X.env x = pure x := by intro _; rfl) :
    semS X (.For (.Name n tp) e body [] pos) D σ H :=
  to_s (ps_for hp hc (pi_list pe_sem) (pg_name hN hj hxl hf) pb_sem hfo) (h H (Ex.refl H) _ fun _ H1 e1 g1 => by
    cases g1
    exact ⟨q, rfl, ⟨xs, ex_l e1 hx⟩, for_list Pv (h0 H1 e1) hl hs hd⟩)
/-- .. over a list made on the way -/
theorem s_forN {xs : List V} (j : Nat) {n : Str} {tp : Pos} (hN : X.N.Nodup) (h : XG X σ H e (.lst xs)) (Pv : Addr → Nat → L2.St → Hp → Prop) (h0 : ∀ q H1, Ex H H1 → H q = none → H1 q = some (.lst xs) → Pv q 0 σ H1) (hl : ∀ q i σ' H', i ≤ xs.length → Pv q i σ' H' → SqL X.K H' q xs)
    (hs : ∀ q i x σ' H', xs[i]? = some x → Pv q i σ' H' → semB X body { D with nx := Pv q (i + 1), ct := Pv q (i + 1), bk := D.nx } (σ'.set j (some x)) H') (hd : ∀ q σ' H', Pv q xs.length σ' H' → D.nx σ' H') (hp : PassesOwn (model X.prog X.w) X.A X.env X.xe := by exact PassesOwn.never) (hc : X.calm = true := by rfl)
    (hj : X.N[j]? = some n := by rfl) (hxl : Loc X.env.scope n := by first | exact Or.inl rfl | exact Or.inr rfl) (hf : X.fn n = true ∨ X.env.scope.names.lookup n = some .local := by first | exact .inl rfl | exact .inr rfl) (hfo : ∀ x, foldedSetIterable e X.env x = pure x := by intro _; rfl) :
    semS X (.For (.Name n tp) e body [] pos) D σ H :=
  to_s (ps_for hp hc (pi_list pe_sem) (pg_name hN hj hxl hf) pb_sem hfo) (h H (Ex.refl H) _ fun _ H1 e1 g1 => by
    obtain ⟨q, rfl, nq, hq⟩ := g1
    exact ⟨q, rfl, ⟨xs, SqL.of hq⟩, for_list (Pv q) (h0 q H1 e1 nq hq) (hl q) (hs q) (hd q)⟩)
/-- for x in range(n) -/
theorem s_forR {m : Int} (j : Nat) {n : Str} {tp : Pos} (hN : X.N.Nodup) (h : XV X σ H e (.int m)) (hm : -(2 ^ 62) ≤ m ∧ m < 2 ^ 62) (hr : X.mg "range" = none) (Pv : Nat → L2.St → Hp → Prop) (h0 : ∀ H1, Ex H H1 → Pv 0 σ H1)
    (hs : ∀ (i : Nat) σ' H', i < m.toNat → Pv i σ' H' → semB X body { D with nx := Pv (i + 1), ct := Pv (i + 1), bk := D.nx } (σ'.set j (some (.int (i : Int)))) H') (hd : ∀ σ' H', Pv m.toNat σ' H' → D.nx σ' H') (hp : PassesOwn (model X.prog X.w) X.A X.env X.xe := by exact PassesOwn.never) (hc : X.calm = true := by rfl)
    (hj : X.N[j]? = some n := by rfl) (hxl : Loc X.env.scope n := by first | exact Or.inl rfl | exact Or.inr rfl) (hf : X.fn n = true ∨ X.env.scope.names.lookup n = some .local := by first | exact .inl rfl | exact .inr rfl) (hg : Gl X "range" := by rfl)
    (hse : starEach [e] X.env = [(false, eval e X.env)] := by rfl) (hfo : ∀ x, foldedSetIterable (.Call (.Name "range" p) [e] [] p') X.env x = pure x := by intro _; rfl) :
    semS X (.For (.Name n tp) (.Call (.Name "range" p) [e] [] p') body [] pos) D σ H :=
  to_s (ps_for hp hc (pi_range1 hg hr (pa_cons pe_sem pa_nil hse) hse) (pg_name hN hj hxl hf) pb_sem hfo) (h H (Ex.refl H) _ fun _ H1 e1 g1 => by
    cases g1
    exact ⟨m, rfl, hm.1, hm.2, for_range (lo := 0) (n := m.toNat) Pv (h0 H1 e1) (fun i σ' H' hi q => by
      have e0 : (0 : Int) + (i : Int) = (i : Int) := Int.zero_add _
      show semB X body { D with nx := Pv (i + 1), ct := Pv (i + 1), bk := D.nx } (σ'.set j (some (.int ((0 : Int) + (i : Int))))) H'
      rw [e0]
      exact hs i σ' H' hi q) hd⟩)
/-- while, by a word that falls -/
theorem s_while (W : Nat → L2.St → Hp → Prop) (m0 : Nat) (h0 : W m0 σ H)
    (hs : ∀ m σ' H', W m σ' H' → ∃ c, XT X σ' H' e c ∧ (c = true → ∀ H1, Ex H' H1 → ∃ N : L2.St → Hp → Prop, (∀ σ2 H2, N σ2 H2 → ∃ m', m' < m ∧ W m' σ2 H2) ∧ semB X body { D with nx := N, ct := N, bk := D.nx } σ' H1) ∧ (c = false → ∀ H1, Ex H' H1 → D.nx σ' H1))
    (hp : PassesOwn (model X.prog X.w) X.A X.env X.xe := by exact PassesOwn.never) : semS X (.While e body [] pos) D σ H :=
  to_s (ps_while hp pt_sem pb_sem) ⟨W, ⟨m0, h0⟩, fun m σ' H' hw => by
    obtain ⟨c, hb, h1, h2⟩ := hs m σ' H' hw
    refine hb H' (Ex.refl H') _ fun H1 e => ?_
    cases c with
    | true => exact h1 rfl H1 e
    | false => exact h2 rfl H1 e⟩
end
end Ck

set_option maxRecDepth 100000
set_option maxHeartbeats 4000000
namespace Ck
open PySem PySem.Spec PyProof.Rows L2 Evl
/-! ### facts of lists in short -/
theorem atI_of {α : Type} {xs : List α} {i : Int} {x : α} (h0 : 0 ≤ i) (h : xs[i.toNat]? = some x) : atI xs i = some x := by
  unfold atI ixN
  have hl := (List.getElem?_eq_some_iff.mp h).1
  rw [if_pos h0, if_pos (by omega)]
  exact h
theorem atI_lt {α : Type} {xs : List α} {i : Nat} (h : i < xs.length) : atI xs (i : Int) = some xs[i] := atI_of (by omega) (by simp [h])
theorem flat_ints (ns : List Int) : (ns.map V.int).all flatV = true := by simp [List.all_map, flatV]
theorem flat_strs (ns : List Str) : (ns.map V.str).all flatV = true := by simp [List.all_map, flatV]
theorem inV_int (i : Int) (ns : List Int) : inV (.int i) (ns.map V.int) = decide (i ∈ ns) := by
  unfold inV
  rw [List.any_map]
  induction ns with
  | nil => rfl
  | cons n ns ih =>
    rw [List.any_cons, ih]
    show ((n == i) || decide (i ∈ ns)) = decide (i ∈ n :: ns)
    by_cases h : n = i
    · subst h; simp
    · have : (n == i) = false := beq_false_of_ne h
      rw [this, Bool.false_or]
      exact decide_eq_decide.mpr (by simp [Ne.symm h])
theorem inV_str (i : Str) (ns : List Str) : inV (.str i) (ns.map V.str) = decide (i ∈ ns) := by
  unfold inV
  rw [List.any_map]
  induction ns with
  | nil => rfl
  | cons n ns ih =>
    rw [List.any_cons, ih]
    show ((n == i) || decide (i ∈ ns)) = decide (i ∈ n :: ns)
    by_cases h : n = i
    · subst h; simp
    · have : (n == i) = false := beq_false_of_ne h
      rw [this, Bool.false_or]
      exact decide_eq_decide.mpr (by simp [Ne.symm h])

section
variable {X : Cx} {σ : L2.St} {H H' : Hp} {D : Ends} {e a b o : Expr} {es : List Expr} {r : Rt} {v x y z : V} {st : Stmt} {sts body els : List Stmt} {pos p p' apos : Pos}
/-! ### more comparisons -/
theorem dpInts {K : PySem.W.Frag} {H : Hp} : ∀ ns : List Int, DpAll K H (ns.map V.int) (ns.map PyData.int)
  | [] => .nil
  | n :: ns => .cons (.int n) (dpInts ns)
theorem eqv_nil (ns : List Int) : PyData.eqv (.list (ns.map PyData.int)) (.list []) = ns.isEmpty := by
  cases ns <;> rfl
theorem shaped_ints (ns : List Int) : SeqAt.shaped (.list (ns.map PyData.int)) = true := by
  unfold SeqAt.shaped
  induction ns with
  | nil => rfl
  | cons n ns ih => first | exact ih | simpa [SeqAt.shapedAll, SeqAt.shaped] using ih
/-- xs == [] of ints -/
theorem c_eqNil {q : Addr} {ns : List Int} (hu : X.A.units + 64 < cLine) (ha : XV X σ H a (.ref q)) (hq : H q = some (.lst (ns.map V.int))) (hb : XG X σ H b (.lst [])) : XC X σ H .Eq a b (.bl ns.isEmpty) :=
  c_opR (op_eqD hu) ha hb fun v H1 e1 g Q k => by
    obtain ⟨l, rfl, _, hl⟩ := g
    refine ⟨_, _, Dp.lst (SqL.of (e1 q _ hq)) (dpInts ns), Dp.lst (SqL.of hl) .nil, shaped_ints ns, rfl, ?_⟩
    rw [eqv_nil]
    exact k H1 (Ex.refl H1)
theorem c_neNil {q : Addr} {ns : List Int} (hu : X.A.units + 64 < cLine) (ha : XV X σ H a (.ref q)) (hq : H q = some (.lst (ns.map V.int))) (hb : XG X σ H b (.lst [])) : XC X σ H .NotEq a b (.bl (!ns.isEmpty)) :=
  c_opR (op_neD hu) ha hb fun v H1 e1 g Q k => by
    obtain ⟨l, rfl, _, hl⟩ := g
    refine ⟨_, _, Dp.lst (SqL.of (e1 q _ hq)) (dpInts ns), Dp.lst (SqL.of hl) .nil, shaped_ints ns, rfl, ?_⟩
    rw [eqv_nil]
    exact k H1 (Ex.refl H1)
/-- x in ns, by what follows of the list -/
theorem c_inI {q : Addr} {i : Int} {ns : List Int} (ha : XV X σ H a (.int i)) (hb : XV X σ H b (.ref q)) (hq : H q = some (.lst (ns.map V.int))) : XC X σ H .In a b (.bl (decide (i ∈ ns))) :=
  (c_inL ha hb (.inl (SqL.of hq)) rfl (flat_ints ns)).is (by rw [inV_int])
theorem c_niI {q : Addr} {i : Int} {ns : List Int} (ha : XV X σ H a (.int i)) (hb : XV X σ H b (.ref q)) (hq : H q = some (.lst (ns.map V.int))) : XC X σ H .NotIn a b (.bl (!decide (i ∈ ns))) :=
  (c_niL ha hb (.inl (SqL.of hq)) rfl (flat_ints ns)).is (by rw [inV_int])
theorem c_inIN {i : Int} {ns : List Int} (ha : XV X σ H a (.int i)) (hb : XG X σ H b (.lst (ns.map V.int))) : XC X σ H .In a b (.bl (decide (i ∈ ns))) :=
  (c_inN ha hb rfl (flat_ints ns)).is (by rw [inV_int])
theorem c_niIN {i : Int} {ns : List Int} (ha : XV X σ H a (.int i)) (hb : XG X σ H b (.lst (ns.map V.int))) : XC X σ H .NotIn a b (.bl (!decide (i ∈ ns))) :=
  (c_niN ha hb rfl (flat_ints ns)).is (by rw [inV_int])
/-- x in a list of ints that is known in part alone -/
theorem c_inG {i : Int} {c : Bool} {Pq : List Int → Prop} (ha : XV X σ H a (.int i)) (hb : XG X σ H b (.gen fun v H1 => ∃ (q : Addr) (ns : List Int), v = .ref q ∧ H1 q = some (.lst (ns.map V.int)) ∧ Pq ns)) (hp : ∀ ns, Pq ns → decide (i ∈ ns) = c) : XC X σ H .In a b (.bl c) :=
  c_opR op_in_seq ha hb fun v H1 e1 g Q k => by
    obtain ⟨q, ns, rfl, hq, hP⟩ := g
    refine ⟨q, _, rfl, .inl (SqL.of hq), rfl, flat_ints ns, ?_⟩
    rw [if_neg Bool.false_ne_true, inV_int, hp ns hP]
    exact k H1 (Ex.refl H1)
theorem c_niG {i : Int} {c : Bool} {Pq : List Int → Prop} (ha : XV X σ H a (.int i)) (hb : XG X σ H b (.gen fun v H1 => ∃ (q : Addr) (ns : List Int), v = .ref q ∧ H1 q = some (.lst (ns.map V.int)) ∧ Pq ns)) (hp : ∀ ns, Pq ns → decide (i ∈ ns) = c) : XC X σ H .NotIn a b (.bl (!c)) :=
  c_opR op_notIn_seq ha hb fun v H1 e1 g Q k => by
    obtain ⟨q, ns, rfl, hq, hP⟩ := g
    refine ⟨q, _, rfl, .inl (SqL.of hq), rfl, flat_ints ns, ?_⟩
    rw [if_pos rfl, inV_int, hp ns hP]
    exact k H1 (Ex.refl H1)
/-- len of such a list -/
theorem x_lenG {n : Nat} {Pq : List Int → Prop} (ha : XG X σ H e (.gen fun v H1 => ∃ (q : Addr) (ns : List Int), v = .ref q ∧ H1 q = some (.lst (ns.map V.int)) ∧ Pq ns)) (hp : ∀ ns, Pq ns → ns.length = n) (hm : X.mg "len" = none) (hg : Gl X "len" := by rfl) (he : starEach [e] X.env = (false, eval e X.env) :: starEach [] X.env := by rfl) (hpl : (backTo pos (starEach [] X.env)).any (·.1) = false := by rfl) :
    XV X σ H (.Call (.Name "len" p) [e] [] pos) (.int (n : Nat)) :=
  x_cbA call_len_seq hm boot_len (a_cons ha (fun v H1 e1 g => a_nil fun H2 e2 Q k => by
    obtain ⟨q, ns, rfl, hq, hP⟩ := g
    refine ⟨q, _, rfl, .inl (SqL.of (e2 q _ hq)), ?_⟩
    rw [List.length_map, hp ns hP]
    exact k _ H2 (Ex.refl H2) rfl) he) hg (by decide) (by decide) he hpl
/-- .. where its length is not told either -/
theorem x_lenP {Pq : List Int → Prop} (ha : XG X σ H e (.gen fun v H1 => ∃ (q : Addr) (ns : List Int), v = .ref q ∧ H1 q = some (.lst (ns.map V.int)) ∧ Pq ns)) (hm : X.mg "len" = none) (hg : Gl X "len" := by rfl) (he : starEach [e] X.env = (false, eval e X.env) :: starEach [] X.env := by rfl) (hpl : (backTo pos (starEach [] X.env)).any (·.1) = false := by rfl) :
    XG X σ H (.Call (.Name "len" p) [e] [] pos) (.gen fun v _ => ∃ ns : List Int, v = .int (ns.length : Nat) ∧ Pq ns) :=
  x_cbA call_len_seq hm boot_len (a_cons ha (fun v H1 e1 g => a_nil fun H2 e2 Q k => by
    obtain ⟨q, ns, rfl, hq, hP⟩ := g
    refine ⟨q, _, rfl, .inl (SqL.of (e2 q _ hq)), k _ H2 (Ex.refl H2) ⟨ns, ?_, hP⟩⟩
    rw [List.length_map]) he) hg (by decide) (by decide) he hpl
theorem c_eqIG {Pq : List Int → Prop} {f : List Int → Int} {j : Int} {c : Bool} (ha : XG X σ H a (.gen fun v _ => ∃ ns : List Int, v = .int (f ns) ∧ Pq ns)) (hb : XV X σ H b (.int j)) (hp : ∀ ns, Pq ns → decide (f ns = j) = c) : XC X σ H .Eq a b (.bl c) :=
  c_op op_eq ha (fun _ _ e1 _ => hb.mono e1) fun v H1 e1 g H2 e2 Q k => by
    obtain ⟨ns, rfl, hP⟩ := g
    refine ⟨rfl, ?_⟩
    have z := k H2 (Ex.refl H2)
    rw [dec_int, show (f ns == j) = decide (f ns = j) from rfl, hp ns hP]
    exact z
/-- xs + ys -/
theorem x_cat {l m : Addr} {xs ys : List V} (ha : XV X σ H a (.ref l)) (hb : XG X σ H b (.lst ys)) (hl : H l = some (.lst xs)) (hz : xs.length + ys.length ≤ 100000) : XG X σ H (.BinOp a .Add b pos) (.lst (xs ++ ys)) := fun H1 e1 Q q =>
  to_e (pe_op op_cat pe_sem pe_sem) (ha H1 e1 _ fun _ H2 e2 g2 => by
    cases g2
    exact hb H2 (e1.trans e2) _ fun _ H3 e3 g3 => by
      obtain ⟨m, rfl, _, hm⟩ := g3
      exact ⟨l, m, xs, ys, rfl, rfl, ((e1.trans e2).trans e3) l _ hl, hm, sz_of hz, fun p hp => q _ _ ((e2.trans e3).trans (Ex.new hp)) ⟨p, rfl, fresh_back (e2.trans e3) hp, upd_same⟩⟩)
/-- both made on the way -/
theorem x_catN {xs ys : List V} (ha : XG X σ H a (.lst xs)) (hb : XG X σ H b (.lst ys)) (hz : xs.length + ys.length ≤ 100000) : XG X σ H (.BinOp a .Add b pos) (.lst (xs ++ ys)) := fun H1 e1 Q q =>
  to_e (pe_op op_cat pe_sem pe_sem) (ha H1 e1 _ fun _ H2 e2 g2 => by
    obtain ⟨l, rfl, _, hl⟩ := g2
    exact hb H2 (e1.trans e2) _ fun _ H3 e3 g3 => by
      obtain ⟨m, rfl, _, hm⟩ := g3
      exact ⟨l, m, xs, ys, rfl, rfl, e3 l _ hl, hm, sz_of hz, fun p hp => q _ _ ((e2.trans e3).trans (Ex.new hp)) ⟨p, rfl, fresh_back (e2.trans e3) hp, upd_same⟩⟩)
/-- n.bit_length() -/
theorem x_bits {i : Int} (ho : XV X σ H o (.int i)) (hbase : attributeBase o "bit_length" X.env (eval o X.env) = eval o X.env := by rfl) (hline : (apos.endLine == pos.line) = true := by rfl) :
    XV X σ H (.Call (.Attribute o "bit_length" apos) [] [] pos) (.int (Builtin.Int.intBits i : Nat)) := fun H1 e1 Q q =>
  to_e (pe_bits pe_sem hbase hline) (ho H1 e1 _ fun _ H2 e2 g2 => by
    cases g2
    exact ⟨i, rfl, q _ H2 e2 rfl⟩)
/-- sorted(xs) of ints -/
theorem x_sorted {ns : List Int} (ha : XG X σ H e (.gen fun v H1 => ∃ q : Addr, v = .ref q ∧ H1 q = some (.lst (ns.map V.int)))) (hm : X.mg "sorted" = none) (hg : Gl X "sorted" := by rfl) (he : starEach [e] X.env = (false, eval e X.env) :: starEach [] X.env := by rfl) (hpl : (backTo pos (starEach [] X.env)).any (·.1) = false := by rfl) :
    XG X σ H (.Call (.Name "sorted" p) [e] [] pos) (.gen fun v H1 => ∃ (q : Addr) (ns' : List Int), v = .ref q ∧ H1 q = some (.lst (ns'.map V.int)) ∧ (ns'.Perm ns ∧ ns'.Pairwise (· ≤ ·))) :=
  x_cbA cr_sortedI hm (by decide +kernel) (a_cons ha (fun v H1 e1 g => a_nil fun H2 e2 Q k => by
    obtain ⟨q, rfl, hq⟩ := g
    exact ⟨q, ns, rfl, SqL.of (e2 q _ hq), fun ns' l h1 h2 hl => k _ _ (Ex.new hl) ⟨l, ns', rfl, upd_same, ⟨h1, h2⟩⟩⟩) he) hg (by decide) (by decide) he hpl
theorem XG.ofL {xs : List V} (h : XG X σ H e (.lst xs)) : XG X σ H e (.gen fun v H1 => ∃ q : Addr, v = .ref q ∧ H1 q = some (.lst xs)) := h.weak fun v H1 H2 _ _ g => by
  obtain ⟨q, a, _, b⟩ := g
  exact ⟨q, a, b⟩
theorem XG.ofV {q : Addr} {xs : List V} (h : XV X σ H e (.ref q)) (hq : H q = some (.lst xs)) : XG X σ H e (.gen fun v H1 => ∃ q : Addr, v = .ref q ∧ H1 q = some (.lst xs)) := h.weak fun v H1 H2 e1 e2 g => by
  cases g
  exact ⟨q, rfl, (e1.trans e2) q _ hq⟩
/-! ### tuples taken apart -/
theorem q_un2 (i j : Nat) {n1 n2 : Str} {p1 p2 tp : Pos} {kk : Nat} (hN : X.N.Nodup) (h : XG X σ H e r) (k : ∀ v H1, Ex H H1 → r.go H v H1 → ∃ l x y, v = .ref l ∧ SqT X.K H1 l [x, y] ∧ semB X sts D ((σ.set i (some x)).set j (some y)) H1) (hi : X.N[i]? = some n1 := by rfl) (hj : X.N[j]? = some n2 := by rfl)
    (hx : Loc X.env.scope n1 := by first | exact Or.inl rfl | exact Or.inr rfl) (hy : Loc X.env.scope n2 := by first | exact Or.inl rfl | exact Or.inr rfl) (hf : X.fn n1 = true ∨ X.env.scope.names.lookup n1 = some .local := by first | exact .inl rfl | exact .inr rfl) (hf2 : X.fn n2 = true ∨ X.env.scope.names.lookup n2 = some .local := by first | exact .inl rfl | exact .inr rfl)
    (hs : swapsWithSole [.Tuple [.Name n1 p1, .Name n2 p2] kk tp] e pos.line X.env = pure false := by rfl) (hw : swappedStores [.Tuple [.Name n1 p1, .Name n2 p2] kk tp] e X.env = pure none := by rfl)
    (h1 : (assignEach [.Tuple [.Name n1 p1, .Name n2 p2] kk tp] X.env).map (·.2) = [assign (.Tuple [.Name n1 p1, .Name n2 p2] kk tp) X.env] := by rfl) (hc : X.calm = true := by rfl)
    (hst : (assignEach [.Name n1 p1, .Name n2 p2] X.env).findIdx? (·.1) = none := by rfl) (hn : (assignEach [.Name n1 p1, .Name n2 p2] X.env).length = 2 := by rfl)
    (hp1 : (assignEach [.Name n1 p1, .Name n2 p2] X.env).map (·.2) = assign (.Name n1 p1) X.env :: (assignEach [.Name n2 p2] X.env).map (·.2) := by rfl) (hp2 : (assignEach [.Name n2 p2] X.env).map (·.2) = assign (.Name n2 p2) X.env :: (assignEach [] X.env).map (·.2) := by rfl) :
    semB X (.Assign [.Tuple [.Name n1 p1, .Name n2 p2] kk tp] e pos :: sts) D σ H :=
  s_seq (to_s (ps_asg pe_sem (pg_tup hc (pgs_cons (pg_name hN hi hx hf) (pgs_cons (pg_name hN hj hy hf2) pgs_nil hp2) hp1) hn hst) hs hw h1) (h H (Ex.refl H) _ fun v H1 e1 g => by
    obtain ⟨l, x, y, rfl, hl, q⟩ := k v H1 e1 g
    exact ⟨l, [x, y], rfl, hl, rfl, x, [y], rfl, y, [], rfl, rfl, q⟩))
theorem q_un3 (i j m : Nat) {n1 n2 n3 : Str} {p1 p2 p3 tp : Pos} {kk : Nat} (hN : X.N.Nodup) (h : XG X σ H e r) (k : ∀ v H1, Ex H H1 → r.go H v H1 → ∃ l x y z, v = .ref l ∧ SqT X.K H1 l [x, y, z] ∧ semB X sts D (((σ.set i (some x)).set j (some y)).set m (some z)) H1) (hi : X.N[i]? = some n1 := by rfl) (hj : X.N[j]? = some n2 := by rfl) (hm : X.N[m]? = some n3 := by rfl)
    (hx : Loc X.env.scope n1 := by first | exact Or.inl rfl | exact Or.inr rfl) (hy : Loc X.env.scope n2 := by first | exact Or.inl rfl | exact Or.inr rfl) (hz : Loc X.env.scope n3 := by first | exact Or.inl rfl | exact Or.inr rfl)
    (hf : X.fn n1 = true ∨ X.env.scope.names.lookup n1 = some .local := by first | exact .inl rfl | exact .inr rfl) (hf2 : X.fn n2 = true ∨ X.env.scope.names.lookup n2 = some .local := by first | exact .inl rfl | exact .inr rfl) (hf3 : X.fn n3 = true ∨ X.env.scope.names.lookup n3 = some .local := by first | exact .inl rfl | exact .inr rfl)
    (hs : swapsWithSole [.Tuple [.Name n1 p1, .Name n2 p2, .Name n3 p3] kk tp] e pos.line X.env = pure false := by rfl) (hw : swappedStores [.Tuple [.Name n1 p1, .Name n2 p2, .Name n3 p3] kk tp] e X.env = pure none := by rfl)
    (h1 : (assignEach [.Tuple [.Name n1 p1, .Name n2 p2, .Name n3 p3] kk tp] X.env).map (·.2) = [assign (.Tuple [.Name n1 p1, .Name n2 p2, .Name n3 p3] kk tp) X.env] := by rfl) (hc : X.calm = true := by rfl)
    (hst : (assignEach [.Name n1 p1, .Name n2 p2, .Name n3 p3] X.env).findIdx? (·.1) = none := by rfl) (hn : (assignEach [.Name n1 p1, .Name n2 p2, .Name n3 p3] X.env).length = 3 := by rfl)
    (hp1 : (assignEach [.Name n1 p1, .Name n2 p2, .Name n3 p3] X.env).map (·.2) = assign (.Name n1 p1) X.env :: (assignEach [.Name n2 p2, .Name n3 p3] X.env).map (·.2) := by rfl) (hp2 : (assignEach [.Name n2 p2, .Name n3 p3] X.env).map (·.2) = assign (.Name n2 p2) X.env :: (assignEach [.Name n3 p3] X.env).map (·.2) := by rfl)
    (hp3 : (assignEach [.Name n3 p3] X.env).map (·.2) = assign (.Name n3 p3) X.env :: (assignEach [] X.env).map (·.2) := by rfl) :
    semB X (.Assign [.Tuple [.Name n1 p1, .Name n2 p2, .Name n3 p3] kk tp] e pos :: sts) D σ H :=
  s_seq (to_s (ps_asg pe_sem (pg_tup hc (pgs_cons (pg_name hN hi hx hf) (pgs_cons (pg_name hN hj hy hf2) (pgs_cons (pg_name hN hm hz hf3) pgs_nil hp3) hp2) hp1) hn hst) hs hw h1) (h H (Ex.refl H) _ fun v H1 e1 g => by
    obtain ⟨l, x, y, z, rfl, hl, q⟩ := k v H1 e1 g
    exact ⟨l, [x, y, z], rfl, hl, rfl, x, [y, z], rfl, y, [z], rfl, z, [], rfl, rfl, q⟩))
/-! ### for a, b in zip(xs, ys) -/
theorem s_forZ (i j : Nat) {n1 n2 : Str} {p1 p2 tp zp zp' : Pos} {kk : Nat} (hN : X.N.Nodup) (hz : X.mg "zip" = none)
    (ha : XA X σ H [a, b] fun vs H1 => ∃ (l m : Addr) (xs ys : List V) (Pv : Nat → L2.St → Hp → Prop), vs = [.ref l, .ref m] ∧ SqL X.K H1 l xs ∧ SqL X.K H1 m ys ∧ Pv 0 σ H1 ∧ (∀ t σ' H', Pv t σ' H' → SqL X.K H' l xs ∧ SqL X.K H' m ys) ∧
      (∀ t x y σ' H' H1, xs[t]? = some x → ys[t]? = some y → Pv t σ' H' → Ex H' H1 → semB X body { D with nx := Pv (t + 1), ct := Pv (t + 1), bk := D.nx } ((σ'.set i (some x)).set j (some y)) H1) ∧ (∀ σ' H', Pv (min xs.length ys.length) σ' H' → D.nx σ' H'))
    (hp : PassesOwn (model X.prog X.w) X.A X.env X.xe := by exact PassesOwn.never) (hc : X.calm = true := by rfl) (hi : X.N[i]? = some n1 := by rfl) (hj : X.N[j]? = some n2 := by rfl)
    (hx : Loc X.env.scope n1 := by first | exact Or.inl rfl | exact Or.inr rfl) (hy : Loc X.env.scope n2 := by first | exact Or.inl rfl | exact Or.inr rfl) (hf : X.fn n1 = true ∨ X.env.scope.names.lookup n1 = some .local := by first | exact .inl rfl | exact .inr rfl) (hf2 : X.fn n2 = true ∨ X.env.scope.names.lookup n2 = some .local := by first | exact .inl rfl | exact .inr rfl)
    (hg : Gl X "zip" := by rfl) (hse : starEach [a, b] X.env = (false, eval a X.env) :: starEach [b] X.env := by rfl) (hpl : (backTo zp' (starEach [b] X.env)).any (·.1) = false := by rfl)
    (hst : (assignEach [.Name n1 p1, .Name n2 p2] X.env).findIdx? (·.1) = none := by rfl) (hn : (assignEach [.Name n1 p1, .Name n2 p2] X.env).length = 2 := by rfl)
    (hp1 : (assignEach [.Name n1 p1, .Name n2 p2] X.env).map (·.2) = assign (.Name n1 p1) X.env :: (assignEach [.Name n2 p2] X.env).map (·.2) := by rfl) (hp2 : (assignEach [.Name n2 p2] X.env).map (·.2) = assign (.Name n2 p2) X.env :: (assignEach [] X.env).map (·.2) := by rfl)
    (hfo : ∀ x, foldedSetIterable (.Call (.Name "zip" zp) [a, b] [] zp') X.env x = pure x := by intro _; rfl) :
    semS X (.For (.Tuple [.Name n1 p1, .Name n2 p2] kk tp) (.Call (.Name "zip" zp) [a, b] [] zp') body [] pos) D σ H :=
  to_s (ps_for hp hc (pi_zip hg hz pa_sem hse hpl) (pg_tup hc (pgs_cons (pg_name hN hi hx hf) (pgs_cons (pg_name hN hj hy hf2) pgs_nil hp2) hp1) hn hst) pb_sem hfo) (ha H (Ex.refl H) _ fun vs H1 e1 ⟨l, m, xs, ys, Pv, ev, g1, g2, h0, hl, hs, hd⟩ =>
    ⟨l, m, xs, ys, ev, g1, g2, for_it (walk_zip rfl) Pv h0 (fun t σ' H' _ q => hl t σ' H' q) (fun t v σ' H' H2 _ q y => by
      obtain ⟨T, x, z, rfl, hT, rfl, hxx, hyy⟩ := y
      exact ⟨T, [x, z], rfl, SqT.of upd_same, rfl, x, [z], rfl, z, [], rfl, rfl, hs t x z σ' H' _ hxx hyy q (Ex.new hT)⟩) hd⟩)
/-! ### comprehensions -/
/-- a block's context -/
abbrev Bk (X : Cx) (s : Shared) (H : Hp) (scope : Scope) (cl : List (Str × Addr)) (C : Addr) (fp : List Addr) : Cx := X.blk s H scope (compEnvC scope cl C X.env) fp
/-- the tests of a clause -/
def semTs (X : Cx) (ifs : List Expr) : TT := fun σ H Q => ∀ (pins : List (Addr × Obj)) (s : Shared), Inv X pins σ H s →
  wpAny (model X.prog X.w) X.A (forIn ifs true fun c r => if r = true then do let ok ← isTrue c X.env (eval c X.env); pure (ForInStep.yield ok) else pure (ForInStep.yield r)) (TP X pins σ Q) X.xe s
theorem pts_sem {ifs : List Expr} : PTs X ifs (semTs X ifs) := ⟨fun pins s _ _ _ I h => h pins s I⟩
theorem to_ts {ifs : List Expr} {t : TT} (h : PTs X ifs t) {Q : Bool → Hp → Prop} (q : t σ H Q) : semTs X ifs σ H Q := fun pins s I => h.run pins s σ H Q I q
def XTs (X : Cx) (σ : L2.St) (H : Hp) (ifs : List Expr) (b : Bool) : Prop := ∀ H1, Ex H H1 → ∀ Q : Bool → Hp → Prop, (∀ H2, Ex H1 H2 → Q b H2) → semTs X ifs σ H1 Q
theorem ts_nil : XTs X σ H [] true := fun H1 _ Q q => to_ts pts_nil (q H1 (Ex.refl H1))
theorem ts_one {c : Expr} {b : Bool} (h : XT X σ H c b) : XTs X σ H [c] b := fun H1 e1 Q q => to_ts (pts_one pt_sem) (h H1 e1 Q q)
/-- what the list at Dl holds after i turns, only more standing else -/
def Lw (H : Hp) (Dl : Addr) (xs : List V) (p : V → Bool) (E : V → V → Hp → Prop) (i : Nat) (H' : Hp) : Prop :=
  H Dl = none ∧ Ex H H' ∧ ∃ ys, H' Dl = some (.lst ys) ∧ Paired (fun x y => E x y H') ((xs.take i).filter p) ys
/-- E stays true where more stands, and where a list is changed that H does not know -/
structure Keeps (H : Hp) (E : V → V → Hp → Prop) : Prop where
  ext : ∀ x y H1 H2, E x y H1 → Ex H1 H2 → E x y H2
  upd : ∀ x y H1 Dl xs ys, H Dl = none → H1 Dl = some (.lst xs) → E x y H1 → E x y (upd H1 Dl (.lst ys))
theorem Paired.imp2 {α β : Type} {F G : α → β → Prop} {l₁ : List α} {l₂ : List β} (h : Paired F l₁ l₂) (f : ∀ a b, F a b → G a b) : Paired G l₁ l₂ := Paired.mapP h f
theorem Paired.snoc {α β : Type} {F : α → β → Prop} : ∀ {l₁ : List α} {l₂ : List β} {a : α} {b : β}, Paired F l₁ l₂ → F a b → Paired F (l₁ ++ [a]) (l₂ ++ [b])
  | _, _, _, _, .nil, h => .cons h .nil
  | _, _, _, _, .cons r t, h => .cons r (Paired.snoc t h)
theorem lw_turn {tt : TT} {te : TE} {H H' : Hp} {Dl : Addr} {xs : List V} {pr : V → Bool} {E : V → V → Hp → Prop} {i : Nat} {x : V} {σ2 : L2.St} (kE : Keeps H E) (hi : xs[i]? = some x) (hz : i < 50000) (q : Lw H Dl xs pr E i H')
    (ht : ∀ H1, Ex H H1 → ∀ Q : Bool → Hp → Prop, (∀ H2, Ex H1 H2 → Q (pr x) H2) → tt σ2 H1 Q) (he : pr x = true → ∀ H1, Ex H H1 → H1 Dl ≠ none → ∀ Q : VK, (∀ y H2, Ex H1 H2 → E x y H2 → Q y H2) → te σ2 H1 Q) :
    tt σ2 H' fun b H3 => if b = true then te σ2 H3 fun y H4 => ∃ acc, H4 Dl = some (.lst acc) ∧ acc.length < sizeLine ∧ Lw H Dl xs pr E (i + 1) (upd H4 Dl (.lst (acc ++ [y]))) else Lw H Dl xs pr E (i + 1) H3 := by
  obtain ⟨q1, q2, ys, q3, q4⟩ := q
  have hx : xs.take (i + 1) = xs.take i ++ [x] := by rw [List.take_add_one, hi]; rfl
  refine ht H' q2 _ fun H3 e3 => ?_
  cases hp : pr x with
  | true =>
    refine iteT (he hp H3 (q2.trans e3) (by rw [e3 Dl _ q3]; exact fun z => nomatch z) _ fun y H4 e4 hE => ⟨ys, e4 Dl _ (e3 Dl _ q3), sz_lt ?_, q1, Ex.mut ((q2.trans e3).trans e4) q1, ys ++ [y], upd_same, ?_⟩)
    · have h1 := Paired.length q4
      have h2 := List.length_filter_le pr (xs.take i)
      rw [List.length_take] at h2
      omega
    · rw [hx, List.filter_append, List.filter_cons, hp]
      refine Paired.snoc (Paired.imp2 q4 fun a b z => kE.upd _ _ _ _ _ _ q1 (e4 Dl _ (e3 Dl _ q3)) (kE.ext _ _ _ _ z (e3.trans e4))) ?_
      exact kE.upd _ _ _ _ _ _ q1 (e4 Dl _ (e3 Dl _ q3)) hE
  | false =>
    refine iteF ⟨q1, q2.trans e3, ys, e3 Dl _ q3, ?_⟩
    rw [hx, List.filter_append, List.filter_cons, hp]
    show Paired _ (((xs.take i).filter pr) ++ []) ys
    rw [List.append_nil]
    exact Paired.imp2 q4 fun a b z => kE.ext _ _ _ _ z e3
theorem wipe1 {σ : L2.St} {j : Nat} {x : V} : wipe ((wipe σ [j]).set j (some x)) [j] = wipe σ [j] := by
  show (((σ.set j none).set j (some x)).set j none) = σ.set j none
  rw [List.set_set, List.set_set]
/-- in whatever block -/
def cTs (X : Cx) (scope : Scope) (ifs : List Expr) : TT := fun σ H Q => ∀ (s : Shared) (H0 : Hp) (cl : List (Str × Addr)) (C : Addr) (fp : List Addr), semTs (Bk X s H0 scope cl C fp) ifs σ H Q
def cE (X : Cx) (scope : Scope) (elt : Expr) : TE := fun σ H Q => ∀ (s : Shared) (H0 : Hp) (cl : List (Str × Addr)) (C : Addr) (fp : List Addr), semE (Bk X s H0 scope cl C fp) elt σ H Q
/-- a comprehension of one clause over a name, with what it gives -/
def XLc (X : Cx) (σ : L2.St) (H : Hp) (j : Nat) (n : Str) (tp : Pos) (elt iter : Expr) (ifs : List Expr) (scope : Scope) (r : Rt) : Prop :=
  X.N.Nodup ∧ BlkOk X.N X.env.scope scope [(n, j)] ∧ X.N[j]? = some n ∧ (relS scope X.env.scope).names.lookup n = some .local ∧ (∀ x, foldedSetIterable iter X.env x = pure x) ∧ X.calm = true ∧
    ∃ wi, PI X (.Name n tp) iter wi ∧ ∀ H1, Ex H H1 → ∀ Q : VK, (∀ v H2, Ex H1 H2 → r.go H1 v H2 → Q v H2) → tLc wi (gName j) (cTs X scope ifs) (cE X scope elt) [j] σ H1 Q
theorem x_l {j : Nat} {n : Str} {tp : Pos} {elt iter : Expr} {ifs : List Expr} {scope : Scope} (h : XLc X σ H j n tp elt iter ifs scope r) : XG X σ H (.ListComp elt [⟨.Name n tp, iter, ifs, 0⟩] scope pos) r := fun H1 e1 Q k => by
  obtain ⟨hN, ok, hj, hx, hs, hc, wi, hi, h⟩ := h
  exact to_e (pe_lc (own := [(n, j)]) (g := gName j) (tt := cTs X scope ifs) (te := cE X scope elt) hc hN hi ok (fun _ _ _ _ _ => pg_name hN hj (Or.inl hx) (Or.inr hx))
    (fun s H0 C cl fp => ⟨fun pins s' σ' H' Q' I h => h s H0 cl C fp pins s' I⟩) (fun s H0 C cl fp => ⟨fun pins s' σ' H' Q' I h => h s H0 cl C fp pins s' I⟩) hs) (h H1 e1 Q k)
/-- y = [..], y a local -/
theorem q_l {i j : Nat} {n y : Str} {tp py spos : Pos} {elt iter : Expr} {ifs : List Expr} {scope : Scope} (h : XLc X σ H j n tp elt iter ifs scope r) (k : ∀ v H1, Ex H H1 → r.go H v H1 → semB X sts D (σ.set i (some v)) H1) (hy : X.N[i]? = some y := by rfl) (hyl : X.env.scope.names.lookup y = some .local := by rfl)
    (hsw : swapsWith (.ListComp elt [⟨.Name n tp, iter, ifs, 0⟩] scope pos) (some (.Name y py)) spos.line X.env = pure true := by exact sw_true rfl rfl rfl (by decide +kernel)) :
    semB X (.Assign [.Name y py] (.ListComp elt [⟨.Name n tp, iter, ifs, 0⟩] scope pos) spos :: sts) D σ H := by
  obtain ⟨hN, ok, hj, hx, hs, hc, wi, hi, h⟩ := h
  exact s_seq (to_s (ps_setLc (i := i) (own := [(n, j)]) (g := gName j) (tt := cTs X scope ifs) (te := cE X scope elt) hc hN hy hyl hsw hi ok (fun _ _ _ _ _ => pg_name hN hj (Or.inl hx) (Or.inr hx))
    (fun s H0 C cl fp => ⟨fun pins s' σ' H' Q' I h => h s H0 cl C fp pins s' I⟩) (fun s H0 C cl fp => ⟨fun pins s' σ' H' Q' I h => h s H0 cl C fp pins s' I⟩) hs) (h H (Ex.refl H) _ fun v H1 e1 g => k v H1 e1 g))
/-- the reading over a list that stands: each item's element by E -/
theorem rd_E {xs : List V} (j : Nat) {elt iter : Expr} {ifs : List Expr} {scope : Scope} (pr : V → Bool) (E : V → V → Hp → Prop) (h : XG X σ H iter r) (hr : ∀ v H1, Ex H H1 → r.go H v H1 → ∃ q, v = .ref q ∧ SqL X.K H1 q xs) (hz : xs.length ≤ 50000) (kE : ∀ H1, Ex H H1 → Keeps H1 E)
    (ht : ∀ (s : Shared) (H0 : Hp) (cl : List (Str × Addr)) (C : Addr) (fp : List Addr) (x : V) (i : Nat) H1, xs[i]? = some x → Ex H H1 → XTs (Bk X s H0 scope cl C fp) ((σ.set j none).set j (some x)) H1 ifs (pr x))
    (he : ∀ (s : Shared) (H0 : Hp) (cl : List (Str × Addr)) (C : Addr) (fp : List Addr) (x : V) (i : Nat) H1 Dl, xs[i]? = some x → pr x = true → Ex H H1 → H1 Dl ≠ none → ∀ Q : VK, (∀ y H2, Ex H1 H2 → E x y H2 → Q y H2) → semE (Bk X s H0 scope cl C fp) elt ((σ.set j none).set j (some x)) H1 Q) :
    ∀ H1, Ex H H1 → ∀ Q : VK, (∀ v H2, Ex H1 H2 → (∃ (l : Addr) (ys : List V), v = .ref l ∧ H1 l = none ∧ H2 l = some (.lst ys) ∧ Paired (fun x y => E x y H2) (xs.filter pr) ys) → Q v H2) → tLc (iList X.K (semE X iter)) (gName j) (cTs X scope ifs) (cE X scope elt) [j] σ H1 Q := fun H1 e1 Q k =>
    (h H1 e1 _ fun v H2 e2 g2 => by
      obtain ⟨q, rfl, hq⟩ := hr v H2 (e1.trans e2) (go_back e1 g2)
      refine ⟨q, rfl, ⟨xs, hq⟩, fun Dl hD => ?_⟩
      refine lc_list (K := X.K) (a := q) (xs := xs) (g := gName j) (vs := [j]) (σ := σ) (tt := cTs X scope ifs) (te := cE X scope elt) (Qd := fun H' => Q (.ref Dl) H') (Lw H2 Dl xs pr E) ⟨hD, Ex.new hD, [], upd_same, .nil⟩ (fun i H' _ w => ex_l w.2.1 hq) (fun i x H' hi w => ⟨wipe1, ?_⟩) fun H' w => ?_
      · have hil := (List.getElem?_eq_some_iff.mp hi).1
        exact lw_turn (σ2 := (σ.set j none).set j (some x)) (tt := cTs X scope ifs) (te := cE X scope elt) (kE H2 (e1.trans e2)) hi (by omega) w
          (fun H3 e3 Q q s H0 cl C fp => ht s H0 cl C fp x i H3 hi ((e1.trans e2).trans e3) H3 (Ex.refl H3) Q q) (fun hp H3 e3 hn Q q s H0 cl C fp => he s H0 cl C fp x i H3 Dl hi hp ((e1.trans e2).trans e3) hn Q q)
      · obtain ⟨w1, w2, ys, w3, w4⟩ := w
        rw [List.take_length] at w4
        exact k _ H' (e2.trans w2) ⟨Dl, ys, rfl, fresh_back e2 w1, w3, w4⟩)
theorem l_E {xs : List V} (j : Nat) {n : Str} {tp : Pos} {elt iter : Expr} {ifs : List Expr} {scope : Scope} (pr : V → Bool) (E : V → V → Hp → Prop) (hN : X.N.Nodup) (ok : BlkOk X.N X.env.scope scope [(n, j)]) (h : XG X σ H iter r) (hr : ∀ v H1, Ex H H1 → r.go H v H1 → ∃ q, v = .ref q ∧ SqL X.K H1 q xs) (hz : xs.length ≤ 50000) (kE : ∀ H1, Ex H H1 → Keeps H1 E)
    (ht : ∀ (s : Shared) (H0 : Hp) (cl : List (Str × Addr)) (C : Addr) (fp : List Addr) (x : V) (i : Nat) H1, xs[i]? = some x → Ex H H1 → XTs (Bk X s H0 scope cl C fp) ((σ.set j none).set j (some x)) H1 ifs (pr x))
    (he : ∀ (s : Shared) (H0 : Hp) (cl : List (Str × Addr)) (C : Addr) (fp : List Addr) (x : V) (i : Nat) H1 Dl, xs[i]? = some x → pr x = true → Ex H H1 → H1 Dl ≠ none → ∀ Q : VK, (∀ y H2, Ex H1 H2 → E x y H2 → Q y H2) → semE (Bk X s H0 scope cl C fp) elt ((σ.set j none).set j (some x)) H1 Q)
    (hc : X.calm = true := by rfl) (hs : ∀ x, foldedSetIterable iter X.env x = pure x := by intro _; rfl)
    (hj : X.N[j]? = some n := by rfl) (hx : (relS scope X.env.scope).names.lookup n = some .local := by rfl) :
    XLc X σ H j n tp elt iter ifs scope (.gen fun v H1 => ∃ (l : Addr) (ys : List V), v = .ref l ∧ H l = none ∧ H1 l = some (.lst ys) ∧ Paired (fun x y => E x y H1) (xs.filter pr) ys) :=
  ⟨hN, ok, hj, hx, hs, hc, _, pi_list pe_sem, fun H1 e1 Q k => rd_E j pr E h hr hz kE ht he H1 e1 Q fun v H2 e2 ⟨l, ys, a, b, c, d⟩ => k v H2 e2 ⟨l, ys, a, fresh_back e1 b, c, d⟩⟩
/-- values alone: the elements are f of the items -/
theorem keeps_eq {H : Hp} {f : V → V} : Keeps H fun x y _ => y = f x := ⟨fun _ _ _ _ h _ => h, fun _ _ _ _ _ _ _ _ h => h⟩
theorem paired_map {f : V → V} : ∀ {xs ys : List V}, Paired (fun x y => y = f x) xs ys → ys = xs.map f
  | _, _, .nil => rfl
  | _, _, .cons r t => by rw [List.map_cons, r, paired_map t]
/-- [elt for n in iter if ..], the elements values -/
theorem l_V {xs : List V} (j : Nat) {n : Str} {tp : Pos} {elt iter : Expr} {ifs : List Expr} {scope : Scope} (pr : V → Bool) (f : V → V) (hN : X.N.Nodup) (ok : BlkOk X.N X.env.scope scope [(n, j)]) (h : XG X σ H iter r) (hr : ∀ v H1, Ex H H1 → r.go H v H1 → ∃ q, v = .ref q ∧ SqL X.K H1 q xs) (hz : xs.length ≤ 50000)
    (ht : ∀ (s : Shared) (H0 : Hp) (cl : List (Str × Addr)) (C : Addr) (fp : List Addr) (x : V) (i : Nat) H1, xs[i]? = some x → Ex H H1 → XTs (Bk X s H0 scope cl C fp) ((σ.set j none).set j (some x)) H1 ifs (pr x))
    (he : ∀ (s : Shared) (H0 : Hp) (cl : List (Str × Addr)) (C : Addr) (fp : List Addr) (x : V) (i : Nat) H1, xs[i]? = some x → pr x = true → Ex H H1 → XV (Bk X s H0 scope cl C fp) ((σ.set j none).set j (some x)) H1 elt (f x))
    (hc : X.calm = true := by rfl) (hs : ∀ x, foldedSetIterable iter X.env x = pure x := by intro _; rfl)
    (hj : X.N[j]? = some n := by rfl) (hx : (relS scope X.env.scope).names.lookup n = some .local := by rfl) :
    XLc X σ H j n tp elt iter ifs scope (.lst ((xs.filter pr).map f)) := ⟨hN, ok, hj, hx, hs, hc, _, pi_list pe_sem, fun H1 e1 Q k => by
  refine rd_E (H := H1) (r := r) j pr (fun x y _ => y = f x) (h.mono e1) (fun v H2 e2 g => hr v H2 (e1.trans e2) (go_back e1 g)) hz (fun _ _ => keeps_eq) (fun s H0 cl C fp x i H2 hi e2 => ht s H0 cl C fp x i H2 hi (e1.trans e2))
    (fun s H0 cl C fp x i H2 Dl hi hp e2 _ Q q => he s H0 cl C fp x i H2 hi hp (e1.trans e2) H2 (Ex.refl H2) Q fun y H3 e3 g => q y H3 e3 g) H1 (Ex.refl H1) Q fun v H2 e2 g => ?_
  obtain ⟨l, ys, rfl, hl, hys, hp⟩ := g
  exact k _ H2 e2 ⟨l, rfl, hl, by rw [hys, paired_map hp]⟩⟩
/-- [elt for n in range(lo, hi) if ..], the elements values -/
theorem l_R {wi : TI} {lo : Int} {m : Nat} (j : Nat) {n : Str} {tp : Pos} {elt iter : Expr} {ifs : List Expr} {scope : Scope} (pr : V → Bool) (f : V → V) (hN : X.N.Nodup) (ok : BlkOk X.N X.env.scope scope [(n, j)]) (hi : PI X (.Name n tp) iter wi)
    (h : ∀ H1, Ex H H1 → ∀ R : It → Hp → Prop, (∀ H2, Ex H1 H2 → R (Itr lo m) H2) → wi σ H1 R) (hz : m ≤ 50000)
    (ht : ∀ (s : Shared) (H0 : Hp) (cl : List (Str × Addr)) (C : Addr) (fp : List Addr) (i : Nat) H1, i < m → Ex H H1 → XTs (Bk X s H0 scope cl C fp) ((σ.set j none).set j (some (.int (lo + i)))) H1 ifs (pr (.int (lo + i))))
    (he : ∀ (s : Shared) (H0 : Hp) (cl : List (Str × Addr)) (C : Addr) (fp : List Addr) (i : Nat) H1, i < m → pr (.int (lo + i)) = true → Ex H H1 → XV (Bk X s H0 scope cl C fp) ((σ.set j none).set j (some (.int (lo + i)))) H1 elt (f (.int (lo + i))))
    (hc : X.calm = true := by rfl) (hs : ∀ x, foldedSetIterable iter X.env x = pure x := by intro _; rfl)
    (hj : X.N[j]? = some n := by rfl) (hx : (relS scope X.env.scope).names.lookup n = some .local := by rfl) :
    XLc X σ H j n tp elt iter ifs scope (.lst ((((List.range m).map fun i : Nat => V.int (lo + i)).filter pr).map f)) := ⟨hN, ok, hj, hx, hs, hc, _, hi, fun H1 e1 Q k =>
    (h H1 e1 _ fun H2 e2 Dl hD => by
      have hlen : ((List.range m).map fun i : Nat => V.int (lo + i)).length = m := by simp
      have hat : ∀ i, i < m → ((List.range m).map fun i : Nat => V.int (lo + i))[i]? = some (V.int (lo + i)) := fun i hi => by simp [hi]
      refine lc_range (lo := lo) (n := m) (g := gName j) (vs := [j]) (σ := σ) (tt := cTs X scope ifs) (te := cE X scope elt) (Qd := fun H' => Q (.ref Dl) H') (Lw H2 Dl ((List.range m).map fun i : Nat => V.int (lo + i)) pr (fun x y _ => y = f x)) ⟨hD, Ex.new hD, [], upd_same, .nil⟩ (fun i H' hi w => ⟨wipe1, ?_⟩) fun H' w => ?_
      · exact lw_turn (σ2 := (σ.set j none).set j (some (.int (lo + i)))) (tt := cTs X scope ifs) (te := cE X scope elt) keeps_eq (hat i hi) (by omega) w
          (fun H3 e3 Q q s H0 cl C fp => ht s H0 cl C fp i H3 hi ((e1.trans e2).trans e3) H3 (Ex.refl H3) Q q) (fun hp H3 e3 hn Q q s H0 cl C fp => he s H0 cl C fp i H3 hi hp ((e1.trans e2).trans e3) H3 (Ex.refl H3) Q fun y H4 e4 g => q y H4 e4 g)
      · obtain ⟨w1, w2, ys, w3, w4⟩ := w
        rw [List.take_of_length_le (by rw [hlen]; exact Nat.le_refl _)] at w4
        exact k _ H' (e2.trans w2) ⟨Dl, rfl, fresh_back e2 w1, by rw [w3, paired_map w4]⟩)⟩
/-- range(n), range(a, b) walked -/
theorem pr_1 {i : Int} (h : XV X σ H e (.int i)) (hb : -(2 ^ 62) ≤ i ∧ i < 2 ^ 62) : ∀ H1, Ex H H1 → ∀ R : It → Hp → Prop, (∀ H2, Ex H1 H2 → R (Itr 0 i.toNat) H2) → iRng1 (tCons (semE X e) tNil) σ H1 R := fun H1 e1 R k =>
  h H1 e1 _ fun _ H2 e2 g => by
    cases g
    exact ⟨i, rfl, hb.1, hb.2, k H2 e2⟩
theorem pr_2 {i j : Int} (h : XV X σ H a (.int i)) (h2 : XV X σ H b (.int j)) (hb : (-(2 ^ 62) ≤ i ∧ i < 2 ^ 62) ∧ -(2 ^ 62) ≤ j ∧ j < 2 ^ 62) : ∀ H1, Ex H H1 → ∀ R : It → Hp → Prop, (∀ H2, Ex H1 H2 → R (Itr i (j - i).toNat) H2) → iRng2 (tCons (semE X a) (tCons (semE X b) tNil)) σ H1 R := fun H1 e1 R k =>
  h H1 e1 _ fun _ H2 e2 g => by
    cases g
    exact h2 H2 (e1.trans e2) _ fun _ H3 e3 g3 => by
      cases g3
      exact ⟨i, j, rfl, ⟨hb.1.1, hb.1.2, hb.2.1, hb.2.2⟩, k H3 (e2.trans e3)⟩
/-! the same over ints -/
def unI : V → Int
  | .int i => i
  | _ => 0
theorem lc_ints {p : Int → Bool} {f : Int → V} (ns : List Int) : ((ns.map V.int).filter (fun v => p (unI v))).map (fun v => f (unI v)) = (ns.filter p).map f := by
  induction ns with
  | nil => rfl
  | cons n ns ih =>
    rw [List.map_cons, List.filter_cons, List.filter_cons]
    show List.map _ (if p n = true then _ else _) = List.map f (if p n = true then _ else _)
    by_cases h : p n = true
    · rw [if_pos h, if_pos h, List.map_cons, List.map_cons, ih]; rfl
    · rw [if_neg h, if_neg h, ih]
theorem l_I {ns : List Int} (j : Nat) {n : Str} {tp : Pos} {elt iter : Expr} {ifs : List Expr} {scope : Scope} (pr : Int → Bool) (f : Int → V) (hN : X.N.Nodup) (ok : BlkOk X.N X.env.scope scope [(n, j)]) (h : XG X σ H iter r) (hr : ∀ v H1, Ex H H1 → r.go H v H1 → ∃ q, v = .ref q ∧ SqL X.K H1 q (ns.map V.int)) (hz : ns.length ≤ 50000)
    (ht : ∀ (s : Shared) (H0 : Hp) (cl : List (Str × Addr)) (C : Addr) (fp : List Addr) (x : Int) H1, x ∈ ns → Ex H H1 → XTs (Bk X s H0 scope cl C fp) ((σ.set j none).set j (some (.int x))) H1 ifs (pr x))
    (he : ∀ (s : Shared) (H0 : Hp) (cl : List (Str × Addr)) (C : Addr) (fp : List Addr) (x : Int) H1, x ∈ ns → pr x = true → Ex H H1 → XV (Bk X s H0 scope cl C fp) ((σ.set j none).set j (some (.int x))) H1 elt (f x))
    (hc : X.calm = true := by rfl) (hs : ∀ x, foldedSetIterable iter X.env x = pure x := by intro _; rfl)
    (hj : X.N[j]? = some n := by rfl) (hx : (relS scope X.env.scope).names.lookup n = some .local := by rfl) :
    XLc X σ H j n tp elt iter ifs scope (.lst ((ns.filter pr).map f)) := by
  have at_ : ∀ (x : V) (i : Nat), (ns.map V.int)[i]? = some x → ∃ k, x = .int k ∧ k ∈ ns := fun x i hi => by
    rw [List.getElem?_map] at hi
    cases e : ns[i]? with
    | none => rw [e] at hi; cases hi
    | some k => rw [e] at hi; exact ⟨k, (Option.some.inj hi).symm, List.mem_of_getElem? e⟩
  rw [← lc_ints ns]
  refine l_V j _ _ hN ok h hr (by rw [List.length_map]; exact hz) (fun s H0 cl C fp x i H1 hi e1 => ?_) (fun s H0 cl C fp x i H1 hi hp e1 => ?_) hc hs hj hx
  · obtain ⟨k, rfl, hk⟩ := at_ x i hi
    exact ht s H0 cl C fp k H1 hk e1
  · obtain ⟨k, rfl, hk⟩ := at_ x i hi
    exact he s H0 cl C fp k H1 hk hp e1
theorem l_RI {wi : TI} {lo : Int} {m : Nat} (j : Nat) {n : Str} {tp : Pos} {elt iter : Expr} {ifs : List Expr} {scope : Scope} (pr : Int → Bool) (f : Int → V) (hN : X.N.Nodup) (ok : BlkOk X.N X.env.scope scope [(n, j)]) (hi : PI X (.Name n tp) iter wi)
    (h : ∀ H1, Ex H H1 → ∀ R : It → Hp → Prop, (∀ H2, Ex H1 H2 → R (Itr lo m) H2) → wi σ H1 R) (hz : m ≤ 50000)
    (ht : ∀ (s : Shared) (H0 : Hp) (cl : List (Str × Addr)) (C : Addr) (fp : List Addr) (i : Nat) H1, i < m → Ex H H1 → XTs (Bk X s H0 scope cl C fp) ((σ.set j none).set j (some (.int (lo + i)))) H1 ifs (pr (lo + i)))
    (he : ∀ (s : Shared) (H0 : Hp) (cl : List (Str × Addr)) (C : Addr) (fp : List Addr) (i : Nat) H1, i < m → pr (lo + i) = true → Ex H H1 → XV (Bk X s H0 scope cl C fp) ((σ.set j none).set j (some (.int (lo + i)))) H1 elt (f (lo + i)))
    (hc : X.calm = true := by rfl) (hs : ∀ x, foldedSetIterable iter X.env x = pure x := by intro _; rfl)
    (hj : X.N[j]? = some n := by rfl) (hx : (relS scope X.env.scope).names.lookup n = some .local := by rfl) :
    XLc X σ H j n tp elt iter ifs scope (.lst ((((List.range m).map fun i : Nat => lo + (i : Int)).filter pr).map f)) := by
  rw [← lc_ints, List.map_map]
  exact l_R j _ _ hN ok hi h hz ht he hc hs hj hx
theorem hrL {q : Addr} {xs : List V} (hq : H q = some (.lst xs)) : ∀ v H1, Ex H H1 → (Rt.val (.ref q)).go H v H1 → ∃ q, v = .ref q ∧ SqL X.K H1 q xs := fun v H1 e1 g => by
  cases g
  exact ⟨q, rfl, SqL.of (e1 q _ hq)⟩
theorem hrN {xs : List V} : ∀ v H1, Ex H H1 → (Rt.lst xs).go H v H1 → ∃ q, v = .ref q ∧ SqL X.K H1 q xs := fun v H1 e1 g => by
  obtain ⟨q, rfl, _, hq⟩ := g
  exact ⟨q, rfl, SqL.of hq⟩
end
end Ck

set_option maxRecDepth 100000
set_option maxHeartbeats 4000000
namespace Ck
open PySem PySem.Spec PyProof.Rows L2 Evl
/-! ### len(set(xs)) of ints, some perhaps twice -/
def unlikes (ns : List Int) : Nat := (PyProof.Rows.firstMet (fun i => ns.getD i 0) ns.length).length
theorem met_mem (ns : List Int) (i : Nat) (k : Int) : k ∈ PyProof.Rows.firstMet (fun i => ns.getD i 0) i ↔ k ∈ (List.range i).map fun i => ns.getD i 0 := by
  have h := PyProof.Rows.firstMet_any (fun i => ns.getD i 0) i k
  have e : ∀ l : List Int, k ∈ l ↔ l.any (· == k) = true := fun l => by simp
  rw [e, e, h]
theorem met_nodup (ns : List Int) : ∀ i, i ≤ ns.length → ((PyProof.Rows.firstMet (fun i => ns.getD i 0) i).length = i ↔ (ns.take i).Nodup)
  | 0, _ => by simp [PyProof.Rows.firstMet_zero]
  | i + 1, h => by
    have ih := met_nodup ns i (by omega)
    have hl := PyProof.Rows.firstMet_length_le (fun i => ns.getD i 0) i
    have hlt : i < ns.length := h
    have et : ns.take (i + 1) = ns.take i ++ [ns.getD i 0] := by
      rw [List.take_add_one, List.getElem?_eq_getElem hlt, List.getD_eq_getElem?_getD, List.getElem?_eq_getElem hlt]; rfl
    have em : ∀ k, k ∈ (List.range i).map (fun i => ns.getD i 0) ↔ k ∈ ns.take i := fun k => by
      have : (List.range i).map (fun i => ns.getD i 0) = ns.take i := by
        apply List.ext_getElem (by simp; omega)
        intro j h1 h2
        simp at h1
        simp [List.getD_eq_getElem?_getD, show j < ns.length by omega]
      rw [this]
    rw [PyProof.Rows.firstMet_succ, et]
    unfold PyProof.Rows.step_dedup
    by_cases hm : (PyProof.Rows.firstMet (fun i => ns.getD i 0) i).any (· == ns.getD i 0) = true
    · rw [if_pos hm]
      have hin : ns.getD i 0 ∈ ns.take i := (em _).mp ((met_mem ns i _).mp (by simpa using hm))
      refine ⟨fun z => by omega, fun z => ?_⟩
      have := (List.nodup_append.mp z).2.2 _ hin _ List.mem_cons_self
      exact absurd rfl this
    · rw [if_neg hm, List.length_append, List.length_singleton]
      have hin : ¬ ns.getD i 0 ∈ ns.take i := fun z => hm (by simpa using (met_mem ns i _).mpr ((em _).mpr z))
      refine ⟨fun z => List.nodup_append.mpr ⟨ih.mp (by omega), by simp, fun a ha b hb e => hin (by rw [List.mem_singleton] at hb; rw [← hb, ← e]; exact ha)⟩, fun z => ?_⟩
      rw [ih.mpr (List.nodup_append.mp z).1]
theorem unlikes_eq (ns : List Int) : unlikes ns = ns.length ↔ ns.Nodup := by
  have h := met_nodup ns ns.length (Nat.le_refl _)
  rw [List.take_length] at h
  exact h
def tLenSet (K : PySem.W.Frag) (ta : TE) : TE := fun σ H Q => ta σ H fun x H1 => ∃ (l : Addr) (ns : List Int), x = .ref l ∧ SqL K H1 l (ns.map V.int) ∧ ns.length ≤ 4000 ∧ Q (.int (unlikes ns : Nat)) H1
theorem pe_lenSet {X : Cx} {a : Expr} {ta : TE} {p p2 q pos : Pos} (hg : Gl X "len") (hm : X.mg "len" = none) (hg2 : Gl X "set") (hm2 : X.mg "set" = none) (ha : PE X a ta) (hc : X.calm = true) (na : starEach [a] X.env = (false, eval a X.env) :: starEach [] X.env) :
    PE X (.Call (.Name "len" p) [.Call (.Name "set" p2) [a] [] q] [] pos) (tLenSet X.K ta) := by
  refine ⟨fun pins s σ H Q I h => Call_ (ld_blt I hg hm boot_len (PyProof.Rows.callWith_builtin1 (PyProof.Rows.args_cons (Call_ (ld_blt I hg2 hm2 boot_set (PyProof.Rows.callWith_type1 (PyProof.Rows.args_cons (thn (ha.run pins s σ H _ I h) fun v s1 ⟨x, H1, I1, r1, q1⟩ => PyProof.Rows.args_nil ?_) na) na rfl))) rfl) rfl rfl))⟩
  obtain ⟨l, ns, rfl, hq, hl, q1⟩ := q1
  cases r1
  obtain ⟨its, r, pl, hz⟩ := I1.list hq
  have hlen : its.toArray.size = ns.length := by rw [List.size_toArray, ← r.length, List.length_map]
  have hIn : PyProof.Rows.IntsAre its.toArray.toList ns := by
    rw [List.toList_toArray]
    exact RZ.intsAre_vals r
  refine call_set_list (I1.ok.hd hc) pl.isList hIn (by rw [hlen]; unfold scanBound; omega) fun h' tk hS hk => PyProof.Rows.args_nil ?_
  obtain ⟨o, es, ep, t, ho, hex, hd, _, _, _, hf, hn⟩ := hS
  have I2 : Inv X pins σ H1 { s1 with heap := h', toks := tk } := I1.kept fun b o e => hk b o (Heap.lt_size e) e
  have hu : es.size = unlikes ns := by
    rw [hn, hlen]
    rfl
  have hb : unlikes ns ≤ ns.length := PyProof.Rows.firstMet_length_le _ _
  exact call_len_set ho hex hd hf (by omega) ⟨.int (unlikes ns : Nat), H1, I2.tok _, ⟨_, by rw [hu]⟩, q1⟩
section
variable {X : Cx} {σ : L2.St} {H : Hp} {e : Expr} {p p2 q pos : Pos} {r : Rt}
theorem x_lenSet {ns : List Int} (ha : XG X σ H e r) (hr : ∀ v H1, Ex H H1 → r.go H v H1 → ∃ l, v = .ref l ∧ SqL X.K H1 l (ns.map V.int)) (hz : ns.length ≤ 4000) (hm : X.mg "len" = none) (hm2 : X.mg "set" = none) (hg : Gl X "len" := by rfl) (hg2 : Gl X "set" := by rfl) (hc : X.calm = true := by rfl)
    (na : starEach [e] X.env = (false, eval e X.env) :: starEach [] X.env := by rfl) : XV X σ H (.Call (.Name "len" p) [.Call (.Name "set" p2) [e] [] q] [] pos) (.int (unlikes ns : Nat)) := fun H1 e1 Q k =>
  to_e (pe_lenSet hg hm hg2 hm2 pe_sem hc na) (ha H1 e1 _ fun v H2 e2 g => by
    obtain ⟨l, rfl, hl⟩ := hr v H2 (e1.trans e2) (go_back e1 g)
    exact ⟨l, ns, rfl, hl, hz, k _ H2 e2 rfl⟩)
/-- sum(xs), all(xs), max(xs) -/
theorem x_sum {ns : List Int} (ha : XG X σ H e r) (hr : ∀ v H1, Ex H H1 → r.go H v H1 → ∃ l, v = .ref l ∧ SqL X.K H1 l (ns.map V.int)) (hm : X.mg "sum" = none) (hg : Gl X "sum" := by rfl) (hc : X.calm = true := by rfl) (he : starEach [e] X.env = (false, eval e X.env) :: starEach [] X.env := by rfl) (hpl : (backTo pos (starEach [] X.env)).any (·.1) = false := by rfl) :
    XV X σ H (.Call (.Name "sum" p) [e] [] pos) (.int ns.sum) :=
  x_cbA (cr_sum hc) hm (by decide +kernel) (a_cons ha (fun v H1 e1 g => a_nil fun H2 e2 Q k => by
    obtain ⟨l, rfl, hl⟩ := hr v H1 e1 g
    exact ⟨l, ns, rfl, ex_l e2 hl, k _ H2 (Ex.refl H2) rfl⟩) he) hg (by decide) (by decide) he hpl
theorem x_all {bs : List Bool} (ha : XG X σ H e r) (hr : ∀ v H1, Ex H H1 → r.go H v H1 → ∃ l, v = .ref l ∧ SqL X.K H1 l (bs.map V.bl)) (hm : X.mg "all" = none) (hg : Gl X "all" := by rfl) (hc : X.calm = true := by rfl) (he : starEach [e] X.env = (false, eval e X.env) :: starEach [] X.env := by rfl) (hpl : (backTo pos (starEach [] X.env)).any (·.1) = false := by rfl) :
    XV X σ H (.Call (.Name "all" p) [e] [] pos) (.bl (bs.all id)) :=
  x_cbA (cr_all hc) hm (by decide +kernel) (a_cons ha (fun v H1 e1 g => a_nil fun H2 e2 Q k => by
    obtain ⟨l, rfl, hl⟩ := hr v H1 e1 g
    exact ⟨l, bs, rfl, ex_l e2 hl, k _ H2 (Ex.refl H2) rfl⟩) he) hg (by decide) (by decide) he hpl
theorem x_max {ns : List Int} (ha : XG X σ H e r) (hr : ∀ v H1, Ex H H1 → r.go H v H1 → ∃ l, v = .ref l ∧ SqL X.K H1 l (ns.map V.int)) (h0 : 0 < ns.length) (hm : X.mg "max" = none) (hg : Gl X "max" := by rfl) (hc : X.calm = true := by rfl) (he : starEach [e] X.env = (false, eval e X.env) :: starEach [] X.env := by rfl) (hpl : (backTo pos (starEach [] X.env)).any (·.1) = false := by rfl) :
    XG X σ H (.Call (.Name "max" p) [e] [] pos) (.gen fun v _ => ∃ m, v = .int m ∧ m ∈ ns ∧ ∀ y ∈ ns, y ≤ m) :=
  x_cbA (cr_max hc) hm (by decide +kernel) (a_cons ha (fun v H1 e1 g => a_nil fun H2 e2 Q k => by
    obtain ⟨l, rfl, hl⟩ := hr v H1 e1 g
    exact ⟨l, ns, rfl, ex_l e2 hl, h0, fun m h1 h2 => k _ H2 (Ex.refl H2) ⟨m, rfl, h1, h2⟩⟩) he) hg (by decide) (by decide) he hpl
/-- xs[lo:], xs[:hi] -/
theorem cut_from (xs : List V) (k : Nat) : cutV xs (some (k : Int)) none = xs.drop k := by
  unfold cutV
  rw [HT.sIx_nat, HT.sIx_none]
  by_cases h : k ≤ xs.length
  · rw [Nat.min_eq_left h, List.take_of_length_le (by rw [List.length_drop]; omega)]
  · rw [Nat.min_eq_right (by omega), List.drop_of_length_le (Nat.le_refl _), List.drop_of_length_le (by omega), List.take_nil]
theorem cut_to (xs : List V) (k : Nat) : cutV xs none (some (k : Int)) = xs.take k := by
  unfold cutV
  rw [HT.sIx_nat, HT.sIx_none, List.drop_zero, Nat.sub_zero]
  by_cases h : k ≤ xs.length
  · rw [Nat.min_eq_left h]
  · rw [Nat.min_eq_right (by omega), List.take_of_length_le (Nat.le_refl _), List.take_of_length_le (by omega)]
theorem x_from {lo : Expr} {q : Addr} {xs : List V} {k : Nat} {p2 : Pos} (ha : XV X σ H e (.ref q)) (hl : XV X σ H lo (.int (k : Int))) (hq : SqL X.K H q xs) : XG X σ H (.Subscript e (.Slice (some lo) none none p2) pos) (.lst (xs.drop k)) := fun H1 e1 Q kk =>
  to_e (pe_slice sl_list pe_sem (po_some pe_sem) po_none) (ha H1 e1 _ fun _ H2 e2 g2 => by
    cases g2
    exact hl H2 (e1.trans e2) _ fun _ H3 e3 g3 => by
      cases g3
      exact ⟨(k : Int), rfl, q, xs, rfl, ex_l ((e1.trans e2).trans e3) hq, fun l hl => kk _ _ (e2.trans (e3.trans (Ex.new hl))) ⟨l, rfl, fresh_back (e2.trans e3) hl, by rw [upd_same, cut_from]⟩⟩)
theorem x_to {hi : Expr} {q : Addr} {xs : List V} {k : Nat} {p2 : Pos} (ha : XV X σ H e (.ref q)) (hl : XV X σ H hi (.int (k : Int))) (hq : SqL X.K H q xs) : XG X σ H (.Subscript e (.Slice none (some hi) none p2) pos) (.lst (xs.take k)) := fun H1 e1 Q kk =>
  to_e (pe_slice sl_list pe_sem po_none (po_some pe_sem)) (ha H1 e1 _ fun _ H2 e2 g2 => by
    cases g2
    exact hl H2 (e1.trans e2) _ fun _ H3 e3 g3 => by
      cases g3
      exact ⟨(k : Int), rfl, q, xs, rfl, ex_l ((e1.trans e2).trans e3) hq, fun l hl => kk _ _ (e2.trans (e3.trans (Ex.new hl))) ⟨l, rfl, fresh_back (e2.trans e3) hl, by rw [upd_same, cut_to]⟩⟩)
/-- for x in what e gives, a list that is told of when it stands -/
theorem s_forG {D : Ends} {body : List Stmt} (j : Nat) {n : Str} {tp : Pos} (hN : X.N.Nodup) (h : XG X σ H e r)
    (k : ∀ v H1, Ex H H1 → r.go H v H1 → ∃ (q : Addr) (xs : List V) (Pv : Nat → L2.St → Hp → Prop), v = .ref q ∧ SqL X.K H1 q xs ∧ Pv 0 σ H1 ∧ (∀ i σ' H', Pv i σ' H' → SqL X.K H' q xs) ∧
      (∀ i x σ' H', xs[i]? = some x → Pv i σ' H' → semB X body { D with nx := Pv (i + 1), ct := Pv (i + 1), bk := D.nx } (σ'.set j (some x)) H') ∧ (∀ σ' H', Pv xs.length σ' H' → D.nx σ' H'))
    (hp : PassesOwn (model X.prog X.w) X.A X.env X.xe := by exact PassesOwn.never) (hc : X.calm = true := by rfl)
    (hj : X.N[j]? = some n := by rfl) (hxl : Loc X.env.scope n := by first | exact Or.inl rfl | exact Or.inr rfl) (hf : X.fn n = true ∨ X.env.scope.names.lookup n = some .local := by first | exact .inl rfl | exact .inr rfl) (hfo : ∀ x, foldedSetIterable e X.env x = pure x := by intro _; rfl) :
    semS X (.For (.Name n tp) e body [] pos) D σ H :=
  to_s (ps_for hp hc (pi_list pe_sem) (pg_name hN hj hxl hf) pb_sem hfo) (h H (Ex.refl H) _ fun v H1 e1 g => by
    obtain ⟨q, xs, Pv, rfl, hq, h0, hl, hs, hd⟩ := k v H1 e1 g
    exact ⟨q, rfl, ⟨xs, hq⟩, for_list Pv h0 (fun i σ' H' _ z => hl i σ' H' z) hs hd⟩)
/-- int(a truth) -/
theorem x_intB {b : Bool} (ha : XV X σ H e (.bl b)) (hm : X.mg "int" = none) (hg : Gl X "int" := by rfl) (he : starEach [e] X.env = (false, eval e X.env) :: starEach [] X.env := by rfl) (hpl : (backTo pos (starEach [] X.env)).any (·.1) = false := by rfl) :
    XV X σ H (.Call (.Name "int" p) [e] [] pos) (.int (if b then 1 else 0)) :=
  x_ctA call_int1 hm (by decide +kernel) (a_v ha (a_nil fun H1 e1 Q k => .inr ⟨b, rfl, k _ H1 (Ex.refl H1) rfl⟩) he) hg (by decide) (by decide) he hpl
/-- xs.index(i) of ints, where it stands -/
theorem x_index {o : Expr} {apos : Pos} {q : Addr} {ns : List Int} {i : Int} (ha : XV X σ H o (.ref q)) (hb : XV X σ H e (.int i)) (hq : H q = some (.lst (ns.map V.int))) (hi : i ∈ ns)
    (hbase : attributeBase o "index" X.env (eval o X.env) = eval o X.env := by rfl)
    (hfew : ((backTo pos (starEach [e] X.env)).all (fun x => !x.1) && (backToKw pos (keywordEach [] X.env)).all (fun x => x.1.isSome)
      && decide ([e].length + ([] : List Keyword).length + (if ([] : List Keyword).isEmpty then 0 else 1) < 30)) = true := by rfl)
    (hline : (apos.endLine == pos.line) = true := by rfl) (hst : starEach [e] X.env = (false, eval e X.env) :: starEach [] X.env := by rfl) (hplain : (backTo pos (starEach [] X.env)).any (·.1) = false := by rfl) :
    XV X σ H (.Call (.Attribute o "index" apos) [e] [] pos) (.int (ns.idxOf i : Nat)) := fun H1 e1 Q k =>
  to_e (pe_bm PySem.F.plainAttrs_list PySem.F.slot_list_index PySem.F.type_list_index mt_index pe_sem (pa_cons pe_sem pa_nil hst) hbase hfew hline hst hplain) (ha H1 e1 _ fun _ H2 e2 g2 => by
    cases g2
    refine ⟨Or.inl ⟨rfl, _, sq_of (e2 q _ (e1 q _ hq))⟩, hb H2 (e1.trans e2) _ fun _ H3 e3 g3 => ?_⟩
    cases g3
    have hlt : ns.idxOf i < ns.length := List.idxOf_lt_length_iff.mpr hi
    have hat : ns[ns.idxOf i]? = some i := by
      rw [List.getElem?_eq_getElem hlt, List.getElem_idxOf hlt]
    refine ⟨q, ns.map V.int, .int i, ns.idxOf i, .int i, rfl, rfl, sq_of (e3 q _ (e2 q _ (e1 q _ hq))), rfl, flat_ints ns, by rw [List.getElem?_map, hat]; rfl, ?_, fun m z hm hz => ?_, k _ H3 (e2.trans e3) rfl⟩
    · show (i == i) = true
      exact beq_self_eq_true i
    · rw [List.getElem?_map] at hz
      cases e4 : ns[m]? with
      | none => rw [e4] at hz; cases hz
      | some y =>
        rw [e4] at hz
        cases (Option.some.inj hz)
        obtain ⟨hml, hmv⟩ := List.getElem?_eq_some_iff.mp e4
        have hm2 : m < List.findIdx (fun x => x == i) ns := hm
        have := List.not_of_lt_findIdx hm2
        show (y == i) = false
        rw [← hmv]
        simpa using this)
/-- for .. over a name's slot by a list of addresses -/
theorem at_refs {ps : List Addr} {i : Nat} {x : V} (h : (ps.map V.ref)[i]? = some x) : ∃ p, ps[i]? = some p ∧ x = .ref p := by
  rw [List.getElem?_map] at h
  cases e : ps[i]? with
  | none => rw [e] at h; cases h
  | some p => rw [e] at h; exact ⟨p, rfl, (Option.some.inj h).symm⟩
theorem at_intsI {ns : List Int} {i : Nat} {x : V} (h : (ns.map V.int)[i]? = some x) : ∃ p, ns[i]? = some p ∧ x = .int p := by
  rw [List.getElem?_map] at h
  cases e : ns[i]? with
  | none => rw [e] at h; cases h
  | some p => rw [e] at h; exact ⟨p, rfl, (Option.some.inj h).symm⟩
end
end Ck

set_option maxRecDepth 100000
set_option maxHeartbeats 4000000
namespace Ck
open PySem PySem.Spec PyProof.Rows L2 Evl
/-! ### the text by places -/
def body0 : List Stmt := PySem.Challenge.pw_cluemaker_k53_whole_thinking_keeps_answe.main.body
def top (i : Nat) : Stmt := body0.getD i (.Pass ⟨0, 0, 0, 0⟩)
def mth (i j : Nat) : Stmt := inClass (top i) j
/-! ### what is told of the top -/
def fnG : List (Str × Nat) := [(("floor_of" : Str), 10), (("many_cells" : Str), 11), (("spot_of" : Str), 12), (("beside" : Str), 13), (("squares" : Str), 14), (("reached" : Str), 15), (("bit" : Str), 17), (("stands" : Str), 18), (("has_only" : Str), 19), (("signs_in" : Str), 20), (("struck" : Str), 21), (("clashes" : Str), 22), (("others_of" : Str), 25), (("are_others" : Str), 26), (("is_unlike" : Str), 29), (("is_of" : Str), 35), (("neighbours_of" : Str), 37), (("may_have" : Str), 42), (("must_have" : Str), 43), (("square_at" : Str), 44), (("all_kinds" : Str), 49), (("kinds_by" : Str), 50), (("thought_at" : Str), 54), (("first_of" : Str), 55), (("is_for" : Str), 56), (("next_thought" : Str), 57), (("think" : Str), 58), (("is_filling" : Str), 60), (("cells_with" : Str), 68), (("are_joined" : Str), 69), (("number_of" : Str), 76), (("sign_told" : Str), 77), (("cells_told" : Str), 78), (("whole_rule" : Str), 79), (("read_rule" : Str), 80), (("_law_cell_at" : Str), 85), (("_law_order" : Str), 86), (("_law_beside" : Str), 87), (("_law_region" : Str), 88), (("_law_row" : Str), 89), (("law" : Str), 90)]
def fnM : List (Str × Str × Str × Nat × Nat) := [(("Clue" : Str), ("word" : Str), ("Clue.word" : Str), 28, 0), (("Clue" : Str), ("fits" : Str), ("Clue.fits" : Str), 28, 1), (("Clue" : Str), ("strikes" : Str), ("Clue.strikes" : Str), 28, 2), (("Clue" : Str), ("mores" : Str), ("Kind.mores" : Str), 24, 4), (("Only" : Str), ("word" : Str), ("Only.word" : Str), 30, 0), (("Only" : Str), ("fits" : Str), ("Only.fits" : Str), 30, 1), (("Only" : Str), ("strikes" : Str), ("Only.strikes" : Str), 30, 2), (("Only" : Str), ("mores" : Str), ("Only.mores" : Str), 30, 4), (("Place" : Str), ("word" : Str), ("Place.word" : Str), 31, 0), (("Place" : Str), ("fits" : Str), ("Place.fits" : Str), 31, 1), (("Place" : Str), ("strikes" : Str), ("Place.strikes" : Str), 31, 2), (("Place" : Str), ("mores" : Str), ("Place.mores" : Str), 31, 4), (("Pair" : Str), ("word" : Str), ("Pair.word" : Str), 32, 0), (("Pair" : Str), ("fits" : Str), ("Pair.fits" : Str), 32, 1), (("Pair" : Str), ("strikes" : Str), ("Pair.strikes" : Str), 32, 2), (("Pair" : Str), ("mores" : Str), ("Pair.mores" : Str), 32, 4), (("Count" : Str), ("word" : Str), ("Count.word" : Str), 36, 0), (("Count" : Str), ("fits" : Str), ("Count.fits" : Str), 36, 1), (("Count" : Str), ("strikes" : Str), ("Count.strikes" : Str), 36, 2), (("Count" : Str), ("mores" : Str), ("Kind.mores" : Str), 24, 4), (("Step" : Str), ("word" : Str), ("Step.word" : Str), 38, 0), (("Step" : Str), ("fits" : Str), ("Step.fits" : Str), 38, 1), (("Step" : Str), ("strikes" : Str), ("Step.strikes" : Str), 38, 2), (("Step" : Str), ("mores" : Str), ("Kind.mores" : Str), 24, 4), (("Sums" : Str), ("word" : Str), ("Sums.word" : Str), 39, 0), (("Sums" : Str), ("fits" : Str), ("Sums.fits" : Str), 39, 1), (("Sums" : Str), ("strikes" : Str), ("Sums.strikes" : Str), 39, 2), (("Sums" : Str), ("mores" : Str), ("Kind.mores" : Str), 24, 4), (("Ways" : Str), ("word" : Str), ("Ways.word" : Str), 40, 0), (("Ways" : Str), ("fits" : Str), ("Ways.fits" : Str), 40, 1), (("Ways" : Str), ("strikes" : Str), ("Ways.strikes" : Str), 40, 2), (("Ways" : Str), ("mores" : Str), ("Kind.mores" : Str), 24, 4), (("Square" : Str), ("word" : Str), ("Square.word" : Str), 45, 0), (("Square" : Str), ("fits" : Str), ("Square.fits" : Str), 45, 1), (("Square" : Str), ("strikes" : Str), ("Square.strikes" : Str), 45, 2), (("Square" : Str), ("mores" : Str), ("Square.mores" : Str), 45, 4), (("Reach" : Str), ("word" : Str), ("Reach.word" : Str), 46, 0), (("Reach" : Str), ("fits" : Str), ("Reach.fits" : Str), 46, 1), (("Reach" : Str), ("strikes" : Str), ("Reach.strikes" : Str), 46, 2), (("Reach" : Str), ("mores" : Str), ("Reach.mores" : Str), 46, 4), (("Turn" : Str), ("word" : Str), ("Turn.word" : Str), 47, 0), (("Turn" : Str), ("fits" : Str), ("Turn.fits" : Str), 47, 1), (("Turn" : Str), ("strikes" : Str), ("Turn.strikes" : Str), 47, 2), (("Turn" : Str), ("mores" : Str), ("Turn.mores" : Str), 47, 4), (("Unlike" : Str), ("__init__" : Str), ("Rule.__init__" : Str), 62, 0), (("Unlike" : Str), ("name" : Str), ("Unlike.name" : Str), 63, 0), (("Unlike" : Str), ("holds" : Str), ("Unlike.holds" : Str), 63, 1), (("Unlike" : Str), ("spots" : Str), ("Rule.spots" : Str), 62, 2), (("Unlike" : Str), ("number" : Str), ("Rule.number" : Str), 62, 4), (("Unlike" : Str), ("sign" : Str), ("Rule.sign" : Str), 62, 5), (("Total" : Str), ("__init__" : Str), ("Rule.__init__" : Str), 62, 0), (("Total" : Str), ("name" : Str), ("Total.name" : Str), 64, 0), (("Total" : Str), ("holds" : Str), ("Total.holds" : Str), 64, 1), (("Total" : Str), ("spots" : Str), ("Rule.spots" : Str), 62, 2), (("Total" : Str), ("number" : Str), ("Rule.number" : Str), 62, 4), (("Total" : Str), ("sign" : Str), ("Rule.sign" : Str), 62, 5), (("Rising" : Str), ("__init__" : Str), ("Rule.__init__" : Str), 62, 0), (("Rising" : Str), ("name" : Str), ("Rising.name" : Str), 65, 0), (("Rising" : Str), ("holds" : Str), ("Rising.holds" : Str), 65, 1), (("Rising" : Str), ("spots" : Str), ("Rule.spots" : Str), 62, 2), (("Rising" : Str), ("number" : Str), ("Rule.number" : Str), 62, 4), (("Rising" : Str), ("sign" : Str), ("Rule.sign" : Str), 62, 5), (("Seen" : Str), ("__init__" : Str), ("Rule.__init__" : Str), 62, 0), (("Seen" : Str), ("name" : Str), ("Seen.name" : Str), 66, 0), (("Seen" : Str), ("holds" : Str), ("Seen.holds" : Str), 66, 1), (("Seen" : Str), ("spots" : Str), ("Rule.spots" : Str), 62, 2), (("Seen" : Str), ("number" : Str), ("Rule.number" : Str), 62, 4), (("Seen" : Str), ("sign" : Str), ("Rule.sign" : Str), 62, 5), (("Counted" : Str), ("__init__" : Str), ("Rule.__init__" : Str), 62, 0), (("Counted" : Str), ("name" : Str), ("Counted.name" : Str), 67, 0), (("Counted" : Str), ("holds" : Str), ("Counted.holds" : Str), 67, 1), (("Counted" : Str), ("spots" : Str), ("Rule.spots" : Str), 62, 2), (("Counted" : Str), ("number" : Str), ("Rule.number" : Str), 62, 4), (("Counted" : Str), ("sign" : Str), ("Rule.sign" : Str), 62, 5), (("Joined" : Str), ("__init__" : Str), ("Rule.__init__" : Str), 62, 0), (("Joined" : Str), ("name" : Str), ("Joined.name" : Str), 70, 0), (("Joined" : Str), ("holds" : Str), ("Joined.holds" : Str), 70, 1), (("Joined" : Str), ("spots" : Str), ("Rule.spots" : Str), 62, 2), (("Joined" : Str), ("number" : Str), ("Rule.number" : Str), 62, 4), (("Joined" : Str), ("sign" : Str), ("Rule.sign" : Str), 62, 5), (("NoSquare" : Str), ("__init__" : Str), ("Rule.__init__" : Str), 62, 0), (("NoSquare" : Str), ("name" : Str), ("NoSquare.name" : Str), 71, 0), (("NoSquare" : Str), ("holds" : Str), ("NoSquare.holds" : Str), 71, 1), (("NoSquare" : Str), ("spots" : Str), ("Rule.spots" : Str), 62, 2), (("NoSquare" : Str), ("number" : Str), ("Rule.number" : Str), 62, 4), (("NoSquare" : Str), ("sign" : Str), ("Rule.sign" : Str), 62, 5), (("Ring" : Str), ("__init__" : Str), ("Rule.__init__" : Str), 62, 0), (("Ring" : Str), ("name" : Str), ("Ring.name" : Str), 72, 0), (("Ring" : Str), ("holds" : Str), ("Ring.holds" : Str), 72, 1), (("Ring" : Str), ("spots" : Str), ("Rule.spots" : Str), 62, 2), (("Ring" : Str), ("number" : Str), ("Rule.number" : Str), 62, 4), (("Ring" : Str), ("sign" : Str), ("Rule.sign" : Str), 62, 5), (("Puzzle" : Str), ("__init__" : Str), ("Puzzle.__init__" : Str), 83, 0), (("Puzzle" : Str), ("place" : Str), ("Puzzle.place" : Str), 83, 1), (("Puzzle" : Str), ("many" : Str), ("Puzzle.many" : Str), 83, 2), (("Puzzle" : Str), ("rule_at" : Str), ("Puzzle.rule_at" : Str), 83, 6), (("Puzzle" : Str), ("many_rules" : Str), ("Puzzle.many_rules" : Str), 83, 7), (("Puzzle" : Str), ("clue_at" : Str), ("Puzzle.clue_at" : Str), 83, 8), (("Puzzle" : Str), ("meets" : Str), ("Puzzle.meets" : Str), 83, 9)]
def kindCs : List Str := [("Clue" : Str), ("Only" : Str), ("Place" : Str), ("Pair" : Str), ("Count" : Str), ("Step" : Str), ("Sums" : Str), ("Ways" : Str), ("Square" : Str), ("Reach" : Str), ("Turn" : Str)]
def ruleCs : List Str := [("Unlike" : Str), ("Total" : Str), ("Rising" : Str), ("Seen" : Str), ("Counted" : Str), ("Joined" : Str), ("NoSquare" : Str), ("Ring" : Str)]
def globs : List Str := (kindCs ++ (ruleCs ++ [("Puzzle" : Str), ("KINDS" : Str), ("RULES_OF" : Str)]))
def frees : List Str := [("range" : Str), ("len" : Str), ("list" : Str), ("sorted" : Str), ("set" : Str), ("min" : Str), ("max" : Str), ("sum" : Str), ("zip" : Str), ("all" : Str), ("int" : Str), ("str" : Str), ("isinstance" : Str)]
def intsT : List (Str × Int) := [(("MOST_SIDE" : Str), (6 : Int)), (("MOST_CELLS" : Str), (16 : Int)), (("MOST_SIGNS" : Str), (6 : Int)), (("MOST_WAYS" : Str), (32 : Int)), (("LONGEST" : Str), (2 : Int)), (("MOST_RULES" : Str), (12 : Int))]
def clss : List Str := kindCs ++ (ruleCs ++ [("Puzzle" : Str)])
def noats : List (Str × Str) := [(("Unlike" : Str), ("ground" : Str)), (("Unlike" : Str), ("cells" : Str)), (("Unlike" : Str), ("wanted" : Str)), (("Unlike" : Str), ("of_sign" : Str)), (("Total" : Str), ("ground" : Str)), (("Total" : Str), ("cells" : Str)), (("Total" : Str), ("wanted" : Str)), (("Total" : Str), ("of_sign" : Str)), (("Rising" : Str), ("ground" : Str)), (("Rising" : Str), ("cells" : Str)), (("Rising" : Str), ("wanted" : Str)), (("Rising" : Str), ("of_sign" : Str)), (("Seen" : Str), ("ground" : Str)), (("Seen" : Str), ("cells" : Str)), (("Seen" : Str), ("wanted" : Str)), (("Seen" : Str), ("of_sign" : Str)), (("Counted" : Str), ("ground" : Str)), (("Counted" : Str), ("cells" : Str)), (("Counted" : Str), ("wanted" : Str)), (("Counted" : Str), ("of_sign" : Str)), (("Joined" : Str), ("ground" : Str)), (("Joined" : Str), ("cells" : Str)), (("Joined" : Str), ("wanted" : Str)), (("Joined" : Str), ("of_sign" : Str)), (("NoSquare" : Str), ("ground" : Str)), (("NoSquare" : Str), ("cells" : Str)), (("NoSquare" : Str), ("wanted" : Str)), (("NoSquare" : Str), ("of_sign" : Str)), (("Ring" : Str), ("ground" : Str)), (("Ring" : Str), ("cells" : Str)), (("Ring" : Str), ("wanted" : Str)), (("Ring" : Str), ("of_sign" : Str)), (("Puzzle" : Str), ("ground" : Str)), (("Puzzle" : Str), ("rule_list" : Str)), (("Puzzle" : Str), ("clue_list" : Str))]
def meths : List (Str × Str) := [(("Clue" : Str), ("word" : Str)), (("Clue" : Str), ("fits" : Str)), (("Clue" : Str), ("strikes" : Str)), (("Clue" : Str), ("mores" : Str)), (("Only" : Str), ("word" : Str)), (("Only" : Str), ("fits" : Str)), (("Only" : Str), ("strikes" : Str)), (("Only" : Str), ("mores" : Str)), (("Place" : Str), ("word" : Str)), (("Place" : Str), ("fits" : Str)), (("Place" : Str), ("strikes" : Str)), (("Place" : Str), ("mores" : Str)), (("Pair" : Str), ("word" : Str)), (("Pair" : Str), ("fits" : Str)), (("Pair" : Str), ("strikes" : Str)), (("Pair" : Str), ("mores" : Str)), (("Count" : Str), ("word" : Str)), (("Count" : Str), ("fits" : Str)), (("Count" : Str), ("strikes" : Str)), (("Count" : Str), ("mores" : Str)), (("Step" : Str), ("word" : Str)), (("Step" : Str), ("fits" : Str)), (("Step" : Str), ("strikes" : Str)), (("Step" : Str), ("mores" : Str)), (("Sums" : Str), ("word" : Str)), (("Sums" : Str), ("fits" : Str)), (("Sums" : Str), ("strikes" : Str)), (("Sums" : Str), ("mores" : Str)), (("Ways" : Str), ("word" : Str)), (("Ways" : Str), ("fits" : Str)), (("Ways" : Str), ("strikes" : Str)), (("Ways" : Str), ("mores" : Str)), (("Square" : Str), ("word" : Str)), (("Square" : Str), ("fits" : Str)), (("Square" : Str), ("strikes" : Str)), (("Square" : Str), ("mores" : Str)), (("Reach" : Str), ("word" : Str)), (("Reach" : Str), ("fits" : Str)), (("Reach" : Str), ("strikes" : Str)), (("Reach" : Str), ("mores" : Str)), (("Turn" : Str), ("word" : Str)), (("Turn" : Str), ("fits" : Str)), (("Turn" : Str), ("strikes" : Str)), (("Turn" : Str), ("mores" : Str)), (("Unlike" : Str), ("name" : Str)), (("Unlike" : Str), ("holds" : Str)), (("Unlike" : Str), ("spots" : Str)), (("Unlike" : Str), ("number" : Str)), (("Unlike" : Str), ("sign" : Str)), (("Total" : Str), ("name" : Str)), (("Total" : Str), ("holds" : Str)), (("Total" : Str), ("spots" : Str)), (("Total" : Str), ("number" : Str)), (("Total" : Str), ("sign" : Str)), (("Rising" : Str), ("name" : Str)), (("Rising" : Str), ("holds" : Str)), (("Rising" : Str), ("spots" : Str)), (("Rising" : Str), ("number" : Str)), (("Rising" : Str), ("sign" : Str)), (("Seen" : Str), ("name" : Str)), (("Seen" : Str), ("holds" : Str)), (("Seen" : Str), ("spots" : Str)), (("Seen" : Str), ("number" : Str)), (("Seen" : Str), ("sign" : Str)), (("Counted" : Str), ("name" : Str)), (("Counted" : Str), ("holds" : Str)), (("Counted" : Str), ("spots" : Str)), (("Counted" : Str), ("number" : Str)), (("Counted" : Str), ("sign" : Str)), (("Joined" : Str), ("name" : Str)), (("Joined" : Str), ("holds" : Str)), (("Joined" : Str), ("spots" : Str)), (("Joined" : Str), ("number" : Str)), (("Joined" : Str), ("sign" : Str)), (("NoSquare" : Str), ("name" : Str)), (("NoSquare" : Str), ("holds" : Str)), (("NoSquare" : Str), ("spots" : Str)), (("NoSquare" : Str), ("number" : Str)), (("NoSquare" : Str), ("sign" : Str)), (("Ring" : Str), ("name" : Str)), (("Ring" : Str), ("holds" : Str)), (("Ring" : Str), ("spots" : Str)), (("Ring" : Str), ("number" : Str)), (("Ring" : Str), ("sign" : Str)), (("Puzzle" : Str), ("place" : Str)), (("Puzzle" : Str), ("many" : Str)), (("Puzzle" : Str), ("rule_at" : Str)), (("Puzzle" : Str), ("many_rules" : Str)), (("Puzzle" : Str), ("clue_at" : Str)), (("Puzzle" : Str), ("meets" : Str))]
def mks : List Str := ruleCs ++ [("Puzzle" : Str)]
def kindWs : List Str := [("clue" : Str), ("only" : Str), ("place" : Str), ("count" : Str), ("step" : Str), ("sum" : Str), ("square" : Str), ("reach" : Str), ("turn" : Str), ("pair" : Str), ("ways" : Str)]
def rulesOf : List (Str × List Str) := [(("only" : Str), [("unlike" : Str)]), (("place" : Str), [("unlike" : Str)]), (("count" : Str), [("count" : Str)]), (("step" : Str), [("rising" : Str)]), (("sum" : Str), [("sum" : Str)]), (("square" : Str), [("nosquare" : Str)]), (("reach" : Str), [("joined" : Str), ("ring" : Str)]), (("turn" : Str), [("ring" : Str)]), (("pair" : Str), [("unlike" : Str)])]
def dG (p : Str × Nat) : He.DefD := ⟨(p.1, none), p.1, p.1, defArgs (top p.2), defBody (top p.2), defScope (top p.2), [], []⟩
def dM (p : Str × Str × Str × Nat × Nat) : He.DefD := ⟨(p.1, some p.2.1), p.2.1, p.2.2.1, defArgs (mth p.2.2.2.1 p.2.2.2.2), defBody (mth p.2.2.2.1 p.2.2.2.2), defScope (mth p.2.2.2.1 p.2.2.2.2), [], []⟩
def fn : List He.DefD := fnG.map dG ++ fnM.map dM
def fa : List He.Fa := globs.map .glo ++ (frees.map .free ++ (intsT.map (fun p => .int p.1 p.2) ++ (clss.map .cls ++ (noats.map (fun p => .noat p.1 p.2) ++ [.str "FIGURES" "0123456789"]))))
abbrev ga := He.ga
/-- a class of the text with an __init__ of the text's own; without one -/
def mk1 (K : PySem.W.Frag) (x : Str) : Bool := PySem.W.makesIn K (ga K x) && PySem.W.keepIn K (.ref (ga K x))
def mk0 (K : PySem.W.Frag) (x : Str) : Bool := mk1 K x && He.eqO (PySem.W.findIn K (.ref (ga K x)) "__init__") (some (some (.builtin "object.__init__")))
/-- an item of the table: a tuple of texts -/
def tabRow (K : PySem.W.Frag) (p : Str × List Str) : Bool := match PySem.W.nsIn K (ga K "RULES_OF") p.1 with
  | some (some (.ref t)) => (match K.lookup t with
    | some ⟨.type c, _, .seq its _, _⟩ => decide (c = "tuple") && (decide (its.size ≤ sizeLine) && He.relAll (p.2.map V.str) its.toList)
    | _ => false)
  | _ => false
def tabNo (K : PySem.W.Frag) (x : Str) : Bool := He.eqO (PySem.W.nsIn K (ga K "RULES_OF") x) (some none)
def exB (K : PySem.W.Frag) : Bool := (fa.all fun f => f.ok K) && (kindCs.all (mk0 K) && (mks.all (mk1 K) && (He.tupB K "KINDS" (kindWs.map .str) && (rulesOf.all (tabRow K) && (["clue", "ways"] : List Str).all (tabNo K)))))
/-- where a def stands -/
def Stands (K : PySem.W.Frag) (p : Str × Option Str) (f : Addr) : Prop := match p.2 with
  | none => PySem.W.nsIn K mainGlobals p.1 = some (some (.ref f))
  | some m => PySem.W.findIn K (.ref (ga K p.1)) m = some (some (.ref f))
/-- what stands behind the top, as the defs' proofs lean on it -/
structure Told (w : World) (K : PySem.W.Frag) : Prop where
  more : exB K = true
  tab : ∃ es n, KDict K w (ga K "RULES_OF") es n
  fns : ∀ d ∈ fn, ∃ f fd, Stands K d.at_ f ∧ PySem.W.isFn K (.ref f) = true ∧ FunD K d.name d.qual d.params d.body d.scope [] [] f fd
structure Top (w : World) (K : PySem.W.Frag) (mg : Str → Option Value) (base : Heap) : Prop where
  told : Told w K
  kin : K.In base
  glob : base.Ns mainGlobals mg
section
variable {P : Program} {w : World} {K : PySem.W.Frag} {mg : Str → Option Value} {base : Heap}
theorem Top.fact (T : Top w K mg base) {f : He.Fa} (h : f ∈ fa) : f.ok K = true := List.all_eq_true.mp (Bool.and_eq_true_iff.mp T.told.more).1 f h
theorem Top.glo (T : Top w K mg base) (x : Str) (h : x ∈ globs := by decide +kernel) : mg x = some (.ref (ga K x)) := He.glo_ok T.kin T.glob (T.fact (List.mem_append_left _ (List.mem_map.mpr ⟨x, h, rfl⟩)))
theorem Top.free (T : Top w K mg base) (x : Str) (h : x ∈ frees := by decide +kernel) : mg x = none := He.free_ok T.kin T.glob (T.fact (List.mem_append_right _ (List.mem_append_left _ (List.mem_map.mpr ⟨x, h, rfl⟩))))
theorem Top.int (T : Top w K mg base) (x : Str) (i : Int) (h : (x, i) ∈ intsT := by decide +kernel) : ∃ t, mg x = some (.int i t) := He.int_ok T.kin T.glob (T.fact (List.mem_append_right _ (List.mem_append_right _ (List.mem_append_left _ (List.mem_map.mpr ⟨(x, i), h, rfl⟩)))))
theorem Top.cls (T : Top w K mg base) (x : Str) (h : x ∈ clss := by decide +kernel) : Cls K (ga K x) := He.cls_ok (T.fact (List.mem_append_right _ (List.mem_append_right _ (List.mem_append_right _ (List.mem_append_left _ (List.mem_map.mpr ⟨x, h, rfl⟩))))))
theorem Top.noat (T : Top w K mg base) (x f : Str) (h : (x, f) ∈ noats := by decide +kernel) : NoAttr K (ga K x) f := He.noat_ok (T.fact (List.mem_append_right _ (List.mem_append_right _ (List.mem_append_right _ (List.mem_append_right _ (List.mem_append_left _ (List.mem_map.mpr ⟨(x, f), h, rfl⟩)))))))
theorem Top.figs (T : Top w K mg base) : ∃ t, mg "FIGURES" = some (.str "0123456789" t) := He.str_ok T.kin T.glob (T.fact (List.mem_append_right _ (List.mem_append_right _ (List.mem_append_right _ (List.mem_append_right _ (List.mem_append_right _ List.mem_cons_self))))))
theorem Top.defG (T : Top w K mg base) (x : Str) (i : Nat) (h : (x, i) ∈ fnG := by decide +kernel) : ∃ f fd, mg x = some (.ref f) ∧ FunD K x x (defArgs (top i)) (defBody (top i)) (defScope (top i)) [] [] f fd := by
  obtain ⟨f, fd, a, _, b⟩ := T.told.fns (dG (x, i)) (List.mem_append_left _ (List.mem_map.mpr ⟨_, h, rfl⟩))
  exact ⟨f, fd, PySem.W.mg_of T.kin T.glob a, b⟩
theorem Top.defM (T : Top w K mg base) (x m q : Str) (i j : Nat) (h : (x, m, q, i, j) ∈ fnM := by decide +kernel) : ∃ f fd, Meth K (ga K x) m f ∧ FunD K m q (defArgs (mth i j)) (defBody (mth i j)) (defScope (mth i j)) [] [] f fd := by
  obtain ⟨f, fd, a, b, c⟩ := T.told.fns (dM (x, m, q, i, j)) (List.mem_append_right _ (List.mem_map.mpr ⟨_, h, rfl⟩))
  exact ⟨f, fd, ⟨a, b, c.kp⟩, c⟩
theorem Top.ex (T : Top w K mg base) : kindCs.all (mk0 K) = true ∧ mks.all (mk1 K) = true ∧ He.tupB K "KINDS" (kindWs.map .str) = true ∧ rulesOf.all (tabRow K) = true ∧ (["clue", "ways"] : List Str).all (tabNo K) = true := by
  have h := (Bool.and_eq_true_iff.mp T.told.more).2
  have h1 := Bool.and_eq_true_iff.mp h
  have h2 := Bool.and_eq_true_iff.mp h1.2
  have h3 := Bool.and_eq_true_iff.mp h2.2
  have h4 := Bool.and_eq_true_iff.mp h3.2
  exact ⟨h1.1, h2.1, h3.1, h4.1, h4.2⟩
/-- an __init__ of the text's own, by its class -/
theorem Top.mkr (T : Top w K mg base) (x q : Str) (i j : Nat) (h : (x, ("__init__" : Str), q, i, j) ∈ fnM := by decide +kernel) (h2 : x ∈ mks := by decide +kernel) : ∃ f fd, Mk K (ga K x) f ∧ FunD K "__init__" q (defArgs (mth i j)) (defBody (mth i j)) (defScope (mth i j)) [] [] f fd := by
  obtain ⟨f, fd, a, b, c⟩ := T.told.fns (dM (x, "__init__", q, i, j)) (List.mem_append_right _ (List.mem_map.mpr ⟨_, h, rfl⟩))
  obtain ⟨m1, m2⟩ := Bool.and_eq_true_iff.mp (List.all_eq_true.mp T.ex.2.1 x h2)
  exact ⟨f, fd, ⟨m1, a, b, m2⟩, c⟩
theorem Top.kinds (T : Top w K mg base) (H : Hp) : SqT K H (ga K "KINDS") (kindWs.map V.str) := by
  have e := He.tupB_ok T.ex.2.2.1 H
  rw [List.map_map] at e
  exact e

/-! ### a def's promise by its body -/
/-- what a body is to reach: only more stands, and r is handed back -/
def endsR (H : Hp) (r : Rt) : Ends := { nx := fun _ H' => Ex H H' ∧ r.go H .non H', rt := fun v H' => Ex H H' ∧ r.go H v H' }
/-- the context of a def's body -/
abbrev Bd (P : Program) (w : World) (K : PySem.W.Frag) (mg : Str → Option Value) (base : Heap) (N : List Str) (qual : Str) (scope : Scope) (f : Addr) (cdv : Value) (A : Around) (outer : List Env) (s : Shared) (H : Hp) (E : XK) : Cx :=
  (cxOf CX0 P w K mg base N qual scope f cdv A outer s H E).nox
theorem sem_mono {X : Cx} {sts : List Stmt} {D D' : Ends} {σ : L2.St} {H : Hp} (h : semB X sts D σ H) (a : ∀ σ H, D.nx σ H → D'.nx σ H) (b : ∀ v H, D.rt v H → D'.rt v H) (c : ∀ σ H, D.bk σ H → D'.bk σ H) (d : ∀ σ H, D.ct σ H → D'.ct σ H) : semB X sts D' σ H :=
  fun pins s I => thn (h pins s I) fun fl s' q => by
    cases fl with
    | next => obtain ⟨σ', H', I', q⟩ := q; exact ⟨σ', H', I', a _ _ q⟩
    | brk => obtain ⟨σ', H', I', q⟩ := q; exact ⟨σ', H', I', c _ _ q⟩
    | cont => obtain ⟨σ', H', I', q⟩ := q; exact ⟨σ', H', I', d _ _ q⟩
    | ret u => obtain ⟨v, σ', H', I', r, q⟩ := q; exact ⟨v, σ', H', I', r, b _ _ q⟩
theorem fg_of {x qual : Str} {params : Arguments} {body : List Stmt} {scope : Scope} {f : Addr} {fd : FuncData} {N ps : List Str} {k : Nat} {R : Rl} (F : FunD K x qual params body scope [] [] f fd) (S : FnScope N ps scope) (len : ∀ vs H r, R vs H r → vs.length = ps.length)
    (hb : ∀ (kV doc pm : Value) (an : Option Addr) (cdv ct : Value) (us : List Value), us.length = ps.length → bindArgs (PySem.W.fnOf x qual params body scope .none kV doc pm an cdv ct) ⟨us, []⟩ = pure (ps.zip us))
    (run : ∀ (cdv : Value) (A : Around) (outer : List Env) (s : Shared) (H : Hp) (E : XK) (vs : List V) (r : Rt), Room k (A.deeper (envOfC qual scope s.heap.objs.size f cdv)) → R vs H r →
      semB (Bd P w K mg base N qual scope f cdv A outer s H E) body (endsR H r) (start N vs) H) : FG P w K mg base (k + 1) f ps R := by
  refine ⟨fd, F.ok S (fun vs H Q E h => ?_) (fun cdv A outer s H vs Q E hr h => ?_), F.bindsN hb⟩
  · obtain ⟨r, h1, _⟩ := h
    exact len vs H r h1
  · obtain ⟨r, h1, h2⟩ := h
    exact ⟨_, PSs.nox pb_sem, sem_mono (run cdv A outer s H E vs r hr h1) (fun _ H' q => h2 _ H' q.1 q.2) (fun v H' q => h2 v H' q.1 q.2) (fun _ _ q => q) (fun _ _ q => q)⟩
end
/-- return e, from what came behind the entry -/
theorem r_ret {X : Cx} {σ : L2.St} {H0 H : Hp} {D : Ends} {e : Expr} {r : Rt} {pos : Pos} (e0 : Ex H0 H) (h : XG X σ H e r) (hD : D.rt = (endsR H0 r).rt := by rfl) : semS X (.Return (some e) pos) D σ H :=
  s_ret h fun v H1 e1 g => by rw [hD]; exact ⟨e0.trans e1, go_back e0 g⟩
theorem q_ret {X : Cx} {σ : L2.St} {H0 H : Hp} {D : Ends} {e : Expr} {r : Rt} {pos : Pos} {sts : List Stmt} (e0 : Ex H0 H) (h : XG X σ H e r) (hD : D.rt = (endsR H0 r).rt := by rfl) : semB X (.Return (some e) pos :: sts) D σ H :=
  s_seq (r_ret e0 h hD)
/-- .. told by what it is worth -/
theorem q_retV {X : Cx} {σ : L2.St} {H0 H : Hp} {D : Ends} {e : Expr} {v x : V} {pos : Pos} {sts : List Stmt} (e0 : Ex H0 H) (h : XV X σ H e v) (k : v = x) (hD : D.rt = (endsR H0 (.val x)).rt := by rfl) : semB X (.Return (some e) pos :: sts) D σ H :=
  q_ret e0 (h.is k) hD
end Ck

set_option maxRecDepth 100000
set_option maxHeartbeats 0
namespace Ck
open PySem L2
/-! ### what is looked at behind the top: by names, no more than is needed -/
namespace Hk
def clsNs (g : Addr → Option Obj) (a : Addr) : List Addr := match g a with
  | some ⟨_, _, .cls cd, _⟩ => [cd.ns]
  | _ => []
def refsAt (g : Addr → Option Obj) (a : Addr) : List Addr := match g a with
  | some o => He.refsO o
  | none => []
def codeAt (g : Addr → Option Obj) (a : Addr) : List Addr := match g a with
  | some ⟨_, _, .func fd, _⟩ => He.refV fd.code
  | _ => []
/-- the module's names, the classes and what they hold -/
def front (g : Addr → Option Obj) : List Addr :=
  let K0 := He.frG g [mainGlobals]
  let cs := (clss ++ [("Kind" : Str), ("Rule" : Str)]).map (He.ga K0)
  mainGlobals :: He.ga K0 "RULES_OF" :: (cs ++ cs.flatMap (clsNs g))
def adr (g : Addr → Option Obj) (d : He.DefD) : Addr := He.fAd (He.frG g (front g)) d.at_
def fnA (g : Addr → Option Obj) : List Addr := fn.map (adr g)
def places (g : Addr → Option Obj) : List Addr :=
  let K0 := He.frG g [mainGlobals]
  front g ++ ((He.ga K0 "KINDS" :: refsAt g (He.ga K0 "RULES_OF")) ++ (fnA g ++ (fnA g).flatMap (codeAt g)))
def part (g : Addr → Option Obj) : PySem.W.Frag := He.frG g (places g)
theorem part_at {g : Addr → Option Obj} {a : Addr} {o : Obj} (e : g a = some o) : ∀ {as : List Addr}, a ∈ as → (He.frG g as).lookup a = some o
  | [], h => by cases h
  | b :: r, h => by
    unfold He.frG
    by_cases hb : a = b
    · subst hb
      rw [List.filterMap_cons, e]
      show (match a == a with | true => some o | false => _) = some o
      rw [beq_self_eq_true]
    · have hr : a ∈ r := (List.mem_cons.mp h).resolve_left hb
      have ih := part_at e hr
      unfold He.frG at ih
      cases q : g b with
      | none => rw [List.filterMap_cons, q]; exact ih
      | some u =>
        rw [List.filterMap_cons, q]
        show (match a == b with | true => some u | false => _) = some o
        rw [beq_false_of_ne hb]
        exact ih
theorem part_no {g : Addr → Option Obj} {a : Addr} : ∀ {as : List Addr}, as.contains a = false → (He.frG g as).lookup a = none := fun {as} h => by
  cases q : (He.frG g as).lookup a with
  | none => rfl
  | some o =>
    have : a ∈ as := by
      clear h
      induction as with
      | nil => cases q
      | cons b r ih =>
        unfold He.frG at q ih
        cases z : g b with
        | none => rw [List.filterMap_cons, z] at q; exact List.mem_cons_of_mem _ (ih q)
        | some u =>
          rw [List.filterMap_cons, z] at q
          have q' : (match a == b with | true => some u | false => (List.filterMap (fun a => (g a).map fun o => (a, o)) r).lookup a) = some o := q
          by_cases hb : a = b
          · rw [hb]; exact List.mem_cons_self
          · rw [beq_false_of_ne hb] at q'
            exact List.mem_cons_of_mem _ (ih q')
    rw [List.contains_iff_mem.mpr this] at h
    cases h
/-- the data of a def's function object -/
def fnT (g : Addr → Option Obj) (a : Addr) : He.FnW := match g a with
  | some ⟨_, _, .func fd, _⟩ => some (fd.name, fd.qualname, fd.params, fd.body, fd.scope, fd.globals, fd.closure, fd.builtins)
  | _ => none
def codeT (g : Addr → Option Obj) (cd : Value) (q : Str) : Bool := match cd with
  | .ref c => (match g c with
    | some ⟨_, _, .fields vs, _⟩ => (match vs.toList with
      | _ :: .str n _ :: _ => n == q
      | _ => false)
    | _ => false)
  | _ => false
def isNone : Value → Bool
  | .none => true
  | _ => false
def fnOkT (g : Addr → Option Obj) (q : Str) (a : Addr) : Bool := match g a with
  | some ⟨.type c, _, .func fd, _⟩ => decide (c = "function") && (codeT g fd.code q && isNone fd.defaults)
  | _ => false
def standsB (K : PySem.W.Frag) (p : Str × Option Str) (f : Addr) : Bool := match p.2 with
  | none => He.eqO (PySem.W.nsIn K mainGlobals p.1) (some (some (.ref f)))
  | some m => He.eqO (PySem.W.findIn K (.ref (ga K p.1)) m) (some (some (.ref f)))
theorem stands_ok {K : PySem.W.Frag} {p : Str × Option Str} {f : Addr} (h : standsB K p f = true) : Stands K p f := by
  unfold Stands
  unfold standsB at h
  cases e : p.2 with
  | none => rw [e] at h; exact He.eqO_ok h
  | some m => rw [e] at h; exact He.eqO_ok h
theorem fun_ok {g : Addr → Option Obj} {d : He.DefD} (hd : d ∈ fn) (e : fnT g (adr g d) = d.val) (c : fnOkT g d.qual (adr g d) = true) :
    ∃ fd, PySem.W.isFn (part g) (.ref (adr g d)) = true ∧ FunD (part g) d.name d.qual d.params d.body d.scope [] [] (adr g d) fd := by
  have hm : adr g d ∈ places g := List.mem_append_right _ (List.mem_append_right _ (List.mem_append_left _ (List.mem_map.mpr ⟨d, hd, rfl⟩)))
  unfold fnOkT at c
  unfold fnT at e
  cases q : g (adr g d) with
  | none => rw [q] at c; cases c
  | some o =>
    obtain ⟨oc, od, dt, osl⟩ := o
    have L := part_at q hm
    rw [q] at c e
    cases dt with
    | func fd =>
      cases oc with
      | type tc =>
        obtain ⟨c1, c2⟩ := Bool.and_eq_true_iff.mp c
        obtain ⟨c3, c4⟩ := Bool.and_eq_true_iff.mp c2
        have e1 : tc = "function" := of_decide_eq_true c1
        subst e1
        obtain ⟨n1, n2, n3, n4, n5, n6, n7, n8, n9, n10, n11, n12, n13, n14, n15⟩ := fd
        have e2 : (some (n1, n2, n3, n4, n5, n6, n7, n15) : He.FnW) = some (d.name, d.qual, d.params, .stmts d.body, d.scope, mainGlobals, [], builtinsNs) := e
        simp only [Option.some.injEq, Prod.mk.injEq] at e2
        obtain ⟨h1, h2, h3, h4, h5, h6, h7, h8⟩ := e2
        subst h1 h2 h3 h4 h5 h6 h7 h8
        have hdv : n8 = .none := by
          have z : isNone n8 = true := c4
          cases n8 with
          | none => rfl
          | _ => cases z
        subst hdv
        have hcd : PySem.W.codeIn (part g) n13 d.qual = true := by
          have z : codeT g n13 d.qual = true := c3
          cases n13 with
          | ref cc =>
            have hc : cc ∈ places g := List.mem_append_right _ (List.mem_append_right _ (List.mem_append_right _ (List.mem_flatMap.mpr ⟨adr g d, List.mem_map.mpr ⟨d, hd, rfl⟩, by unfold codeAt; rw [q]; exact List.mem_cons_self⟩)))
            unfold codeT at z
            cases q2 : g cc with
            | none => simp only [q2] at z; cases z
            | some ob =>
              obtain ⟨a1, a2, a3, a4⟩ := ob
              simp only [q2] at z
              have L2 := part_at q2 hc
              unfold PySem.W.codeIn
              show (match (part g).lookup cc with | some ⟨_, _, .fields vs, _⟩ => (match vs.toList with | _ :: .str n _ :: _ => n == d.qual | _ => false) | _ => false) = true
              unfold part
              rw [L2]
              exact z
          | _ => cases z
        refine ⟨_, ?_, ⟨_, od, .none, n9, n10, n11, n12, n13, n14, osl, rfl, L, hcd, .inl ⟨rfl, rfl⟩, .inl rfl⟩, ?_⟩
        · unfold PySem.W.isFn PySem.W.typeIn
          show (((part g).lookup (adr g d)).map (·.cls) == some (Value.type "function")) = true
          unfold part
          rw [L]
          exact beq_self_eq_true _
        · unfold PySem.W.keepIn
          show (match (part g).lookup (adr g d) with | some ⟨_, _, .func _, _⟩ => true | some ⟨_, _, .cls _, _⟩ => PySem.W.specialIn (part g) (.ref (adr g d)) "__call__" == some (some (.builtin "type.__call__")) | _ => false) = true
          unfold part
          rw [L]
      | _ => cases c
    | _ => cases oc <;> cases c
def lawRow : Str × Option Str := ("_law_row", none)
abbrev Al : Type := Bool × List He.FnW × Option (List (Option (Str × Int)))
def tabOkT (g : Addr → Option Obj) (K : PySem.W.Frag) : Bool := PySem.W.codeHdIn K (He.cT K lawRow).1 (He.cT K lawRow).2 && (!(places g).contains (He.cT K lawRow).2 && (match g (He.cT K lawRow).2 with
  | some o => He.emptyTab o
  | none => false))
def look (g : Addr → Option Obj) : Al :=
  (exB (part g) && (tabOkT g (part g) && fn.all fun d => standsB (part g) d.at_ (adr g d) && fnOkT g d.qual (adr g d)), fn.map (fun d => fnT g (adr g d)), He.dicW (part g) (ga (part g) "RULES_OF"))
def good (w : World) : Al := (true, fn.map He.DefD.val, some (He.keysIn w.params (rulesOf.map (·.1))))
structure Says (w : World) (h : Heap) (K : PySem.W.Frag) : Prop where
  t : Told w K
  hd : PySem.W.codeHdIn K (He.cT K lawRow).1 (He.cT K lawRow).2 = true
  out : K.lookup (He.cT K lawRow).2 = none
  empty : h.get? (He.cT K lawRow).2 = some { cls := .none, data := .fields #[] }
theorem says_of {w : World} {h : Heap} (e : look h.get? = good w) : Says w h (part h.get?) := by
  have e1 : (exB (part h.get?) && (tabOkT h.get? (part h.get?) && fn.all fun d => standsB (part h.get?) d.at_ (adr h.get? d) && fnOkT h.get? d.qual (adr h.get? d))) = true := congrArg (fun z : Al => z.1) e
  have e2 : fn.map (fun d => fnT h.get? (adr h.get? d)) = fn.map He.DefD.val := congrArg (fun z : Al => z.2.1) e
  have e3 : He.dicW (part h.get?) (ga (part h.get?) "RULES_OF") = some (He.keysIn w.params (rulesOf.map (·.1))) := congrArg (fun z : Al => z.2.2) e
  obtain ⟨f1, f2⟩ := Bool.and_eq_true_iff.mp e1
  obtain ⟨f3, f4⟩ := Bool.and_eq_true_iff.mp f2
  obtain ⟨g1, g2⟩ := Bool.and_eq_true_iff.mp f3
  obtain ⟨g3, g4⟩ := Bool.and_eq_true_iff.mp g2
  refine ⟨⟨f1, He.dicW_ok e3, fun d hd => ?_⟩, g1, part_no (by simpa using g3), ?_⟩
  · obtain ⟨s1, s2⟩ := Bool.and_eq_true_iff.mp (List.all_eq_true.mp f4 d hd)
    have ev : fnT h.get? (adr h.get? d) = d.val := List.map_inj_left.mp e2 d hd
    obtain ⟨fd, k1, k2⟩ := fun_ok hd ev s2
    exact ⟨adr h.get? d, fd, stands_ok s1, k1, k2⟩
  · cases q : h.get? (He.cT (part h.get?) lawRow).2 with
    | none => rw [q] at g4; exact absurd g4 (by decide)
    | some o =>
      rw [q] at g4
      rw [He.emptyTab_eq g4]
def hook : PySem.W.Hook where
  α := Al
  obs := fun s => look s.heap.get?
  val := good
  says := fun w h => ∃ K : PySem.W.Frag, K.In h ∧ Says w h K
  of := fun w s e => ⟨part s.heap.get?, He.frG_in, says_of e⟩
  keeps := fun w h h' ⟨K, a, b⟩ k => ⟨K, a.keeps k, ⟨b.t, b.hd, b.out, k _ _ b.empty⟩⟩
def ob (s : PySem.W.SharedT) : Al := look (HandSHeadRun.getT s)
theorem ob_eq (s : PySem.W.SharedT) : ob s = hook.obs s.abs := by
  have e : HandSHeadRun.getT s = s.abs.heap.get? := funext (HandSHeadRun.getT_eq s)
  show look (HandSHeadRun.getT s) = look s.abs.heap.get?
  rw [e]
end Hk
def nm0 : List Str := ["_wall", "__name__", "ClueError", "NoFloor", "NoRule", "NoPuzzle", "MOST_SIDE", "MOST_CELLS", "MOST_SIGNS", "floor_of", "many_cells", "spot_of", "beside", "squares", "reached", "bit", "stands", "has_only", "signs_in", "struck", "clashes", "Kind", "others_of", "are_others", "Clue", "is_unlike", "Only", "Place", "Pair", "MOST_WAYS"]
def nm1 : List Str := ["is_of", "Count", "neighbours_of", "Step", "Sums", "Ways", "may_have", "must_have", "square_at", "Square", "Reach", "Turn", "all_kinds", "kinds_by", "KINDS", "RULES_OF", "thought_at", "first_of", "is_for", "next_thought", "think", "is_filling", "Rule", "Unlike", "Total", "Rising", "Seen", "Counted", "cells_with", "are_joined"]
def nm2 : List Str := ["Joined", "NoSquare", "Ring", "FIGURES", "LONGEST", "number_of", "sign_told", "cells_told", "whole_rule", "read_rule", "MOST_RULES", "Puzzle", "_law_cell_at", "_law_order", "_law_beside", "_law_region", "_law_row"]
def names : List Str := nm0 ++ (nm1 ++ (nm2))
abbrev RR : PySem.W.OpenRow := PySem.W.OpenLaw.row PySem.Challenge.rw_cluemaker_k53_whole_thinking_keeps_answe
abbrev qv : Program := PySem.W.view RR.prog [90]
theorem run0 (w : World) : HandSHeadRun.RunEq RR qv Hk.hook Hk.ob 12000 names (w.withFollow "special-get-raises" false) := by
  intro os
  kernel_rfl
theorem run1 (w : World) : HandSHeadRun.RunEq RR qv Hk.hook Hk.ob 12000 names (w.withFollow "special-get-raises" true) := by
  intro os
  kernel_rfl
theorem runW (w : World) : HandSHeadRun.RunEq RR qv Hk.hook Hk.ob 12000 names w := PySem.W.byRow2 "special-get-raises" (P := fun w => HandSHeadRun.RunEq RR qv Hk.hook Hk.ob 12000 names w) run0 run1 w
end Ck

set_option maxRecDepth 100000
set_option maxHeartbeats 4000000
namespace Ck
open PySem PySem.Spec PyProof.Rows L2 Evl
/-! ### masks -/
def bitF (s : Int) : Int := 1 * 2 ^ (s - 1).toNat
def standsF (m s : Int) : Bool := !decide (Builtin.bitAnd m (bitF s) = 0)
def onlyF (m s : Int) : Bool := decide (Builtin.bitOr m (bitF s) = bitF s)
def signsF (m : Int) : List Int := ((List.range (Builtin.Int.intBits m)).map fun i : Nat => 1 + (i : Int)).filter (standsF m)
def struckF (ms : List Int) (c : Nat) (s : Int) : List Int := if standsF (ms.getD c 0) s then ms.set c (ms.getD c 0 - bitF s) else ms
theorem signs_len (m : Int) : (signsF m).length ≤ Builtin.Int.intBits m := by
  unfold signsF
  refine Nat.le_trans (List.length_filter_le _ _) ?_
  rw [List.length_map, List.length_range]
  exact Nat.le_refl _
section
variable {P : Program} {w : World} {K : PySem.W.Frag} {mg : Str → Option Value} {base : Heap}
def rBit : Rl := fun vs _ r => ∃ s : Int, vs = [.int s] ∧ 1 ≤ s ∧ s ≤ 100 ∧ r = .val (.int (bitF s))
theorem sc_bit : FnScope ["sign"] ["sign"] (defScope (top 17)) := ⟨rfl, rfl, rfl, by decide +kernel, rfl, by decide +kernel, by decide +kernel⟩
theorem ok_bit (T : Top w K mg base) : DF P w K mg base 1 "bit" ["sign"] rBit := by
  obtain ⟨f, fd, hm, F⟩ := T.defG "bit" 17
  refine ⟨f, fg_of F sc_bit (fun vs H r h => ?_) (fun _ _ _ _ _ _ us hl => match us, hl with | [_], _ => rfl) (fun cdv A outer s H E vs r hr h => ?_), hm, F.kp⟩
  · obtain ⟨s, rfl, _⟩ := h
    rfl
  · obtain ⟨s, rfl, h1, h2, rfl⟩ := h
    exact q_ret (Ex.refl H) (x_shl x_int (x_sub (x_v 0) x_int) ⟨by omega, by omega, by decide⟩)
def rStands : Rl := fun vs _ r => ∃ m s : Int, vs = [.int m, .int s] ∧ 1 ≤ s ∧ s ≤ 100 ∧ r = .val (.bl (standsF m s))
theorem sc_stands : FnScope ["mask", "sign"] ["mask", "sign"] (defScope (top 18)) := ⟨rfl, rfl, rfl, by decide +kernel, rfl, by decide +kernel, by decide +kernel⟩
theorem ok_stands (T : Top w K mg base) : DF P w K mg base 2 "stands" ["mask", "sign"] rStands := by
  have D1 : DF P w K mg base 1 "bit" ["sign"] rBit := ok_bit T
  obtain ⟨f, fd, hm, F⟩ := T.defG "stands" 18
  refine ⟨f, fg_of F sc_stands (fun vs H r h => ?_) (fun _ _ _ _ _ _ us hl => match us, hl with | [_, _], _ => rfl) (fun cdv A outer s H E vs r hr h => ?_), hm, F.kp⟩
  · obtain ⟨m, s, rfl, _⟩ := h
    rfl
  · obtain ⟨m, s, rfl, h1, h2, rfl⟩ := h
    exact q_ret (Ex.refl H) (x_c (c_neI (x_and (x_v 0) (x_call D1 hr (e_1 (x_v 1)) fun _ _ => ⟨s, rfl, h1, h2, rfl⟩)) x_int))
def rOnly : Rl := fun vs _ r => ∃ m s : Int, vs = [.int m, .int s] ∧ 1 ≤ s ∧ s ≤ 100 ∧ r = .val (.bl (onlyF m s))
theorem sc_only : FnScope ["mask", "sign"] ["mask", "sign"] (defScope (top 19)) := ⟨rfl, rfl, rfl, by decide +kernel, rfl, by decide +kernel, by decide +kernel⟩
theorem ok_only (T : Top w K mg base) : DF P w K mg base 2 "has_only" ["mask", "sign"] rOnly := by
  have D1 : DF P w K mg base 1 "bit" ["sign"] rBit := ok_bit T
  obtain ⟨f, fd, hm, F⟩ := T.defG "has_only" 19
  refine ⟨f, fg_of F sc_only (fun vs H r h => ?_) (fun _ _ _ _ _ _ us hl => match us, hl with | [_, _], _ => rfl) (fun cdv A outer s H E vs r hr h => ?_), hm, F.kp⟩
  · obtain ⟨m, s, rfl, _⟩ := h
    rfl
  · obtain ⟨m, s, rfl, h1, h2, rfl⟩ := h
    exact q_ret (Ex.refl H) (x_c (c_eqI (x_or (x_v 0) (x_call D1 hr (e_1 (x_v 1)) fun _ _ => ⟨s, rfl, h1, h2, rfl⟩)) (x_call D1 hr (e_1 (x_v 1)) fun _ _ => ⟨s, rfl, h1, h2, rfl⟩)))
def rSigns : Rl := fun vs _ r => ∃ m : Int, vs = [.int m] ∧ Builtin.Int.intBits m ≤ 50 ∧ r = .lst ((signsF m).map V.int)
theorem sc_signs : FnScope ["mask", "sign"] ["mask"] (defScope (top 20)) := ⟨rfl, rfl, rfl, by decide +kernel, rfl, by decide +kernel, by decide +kernel⟩
theorem ok_signs (T : Top w K mg base) : DF P w K mg base 3 "signs_in" ["mask"] rSigns := by
  have D1 : DF P w K mg base 2 "stands" ["mask", "sign"] rStands := ok_stands T
  obtain ⟨f, fd, hm, F⟩ := T.defG "signs_in" 20
  refine ⟨f, fg_of F sc_signs (fun vs H r h => ?_) (fun _ _ _ _ _ _ us hl => match us, hl with | [_], _ => rfl) (fun cdv A outer s H E vs r hr h => ?_), hm, F.kp⟩
  · obtain ⟨m, rfl, _⟩ := h
    rfl
  · obtain ⟨m, rfl, h1, rfl⟩ := h
    have e1 : ((Builtin.Int.intBits m : Int) + 1 - 1).toNat = Builtin.Int.intBits m := by omega
    refine q_ret (Ex.refl H) (x_l (l_RI (lo := 1) (m := Builtin.Int.intBits m) 1 (standsF m) V.int sc_signs.nd (@blkOk_by ["mask", "sign"] (defScope (top 20)) _ _ (by decide +kernel)) (pi_range2 rfl (T.free "range") (pa_cons pe_sem (pa_cons pe_sem pa_nil)))
      (fun H1 k R q => pr_2 x_int (x_add (x_bits (x_v 0)) x_int) (by omega) H1 k R fun H2 k2 => by rw [e1]; exact q H2 k2) (by omega) (fun s' H0 cl C fp i H1 hi k => ts_one (t_val (x_call D1 hr (e_cons (x_v 0) (e_1 (x_v 1))) fun _ _ => ⟨_, _, rfl, by omega, by omega, rfl⟩))) fun s' H0 cl C fp i H1 hi hp k => x_v 1))
def rStruck : Rl := fun vs H r => ∃ (q : Addr) (ms : List Int) (c : Nat) (s : Int), vs = [.ref q, .int c, .int s] ∧ H q = some (.lst (ms.map V.int)) ∧ c < ms.length ∧ ms.length ≤ 1000 ∧ 1 ≤ s ∧ s ≤ 100 ∧ r = .lst ((struckF ms c s).map V.int)
theorem sc_struck : FnScope ["masks", "cell", "sign", "found"] ["masks", "cell", "sign"] (defScope (top 21)) := ⟨rfl, rfl, rfl, by decide +kernel, rfl, by decide +kernel, by decide +kernel⟩
theorem at_ints {ns : List Int} {c : Nat} (h : c < ns.length) : atI (ns.map V.int) (c : Int) = some (V.int (ns.getD c 0)) := by
  refine atI_of (by omega) ?_
  rw [List.getElem?_map, Int.toNat_natCast, List.getElem?_eq_getElem h, List.getD_eq_getElem?_getD, List.getElem?_eq_getElem h]
  rfl
theorem ok_struck (T : Top w K mg base) : DF P w K mg base 3 "struck" ["masks", "cell", "sign"] rStruck := by
  have D1 : DF P w K mg base 1 "bit" ["sign"] rBit := ok_bit T
  have D2 : DF P w K mg base 2 "stands" ["mask", "sign"] rStands := ok_stands T
  obtain ⟨f, fd, hm, F⟩ := T.defG "struck" 21
  refine ⟨f, fg_of F sc_struck (fun vs H r h => ?_) (fun _ _ _ _ _ _ us hl => match us, hl with | [_, _, _], _ => rfl) (fun cdv A outer s H E vs r hr h => ?_), hm, F.kp⟩
  · obtain ⟨q, ms, c, s, rfl, _⟩ := h
    rfl
  · obtain ⟨q, ms, c, sg, rfl, hq, hc, hz, h1, h2, rfl⟩ := h
    refine q_set 3 sc_struck.nd (x_list (x_v 0) (.inl (SqL.of hq)) (T.free "list")) fun v H1 e1 g => ?_
    obtain ⟨l, rfl, nl, hl⟩ := g
    refine q_when (t_val (x_call D2 (hr.mono (by decide)) (e_cons (x_ixL (x_v 3) (x_v 1) (SqL.of hl) (at_ints hc)) (e_1 (x_v 2))) fun _ _ => ⟨_, _, rfl, h1, h2, rfl⟩)) (fun hb H2 e2 => ?_) (fun hb H2 e2 => ?_)
    · have hl2 := e2 l _ hl
      refine s_one (s_setL (j := c) hl2 (x_sub (x_ixL (x_v 3) (x_v 1) (SqL.of hl2) (at_ints hc)) (x_call D1 (hr.mono (by decide)) (e_1 (x_v 2)) fun _ _ => ⟨_, rfl, h1, h2, rfl⟩)) (x_v 3) (x_v 1) (by rw [List.length_map]; exact hc) fun H3 e3 => ?_)
      have e4 : (ms.map V.int).set c (V.int (ms.getD c 0 - bitF sg)) = (struckF ms c sg).map V.int := by
        unfold struckF
        rw [if_pos hb, List.map_set]
      refine s_one (s_ret (x_v 3) fun v H4 k4 g => ?_)
      cases g
      rw [e4] at k4
      exact ⟨(Ex.mut ((e1.trans e2).trans e3) nl).trans k4, l, rfl, nl, k4 l _ upd_same⟩
    · refine s_one (s_ret (x_v 3) fun v H4 k4 g => ?_)
      cases g
      have e4 : struckF ms c sg = ms := by
        unfold struckF
        rw [hb]
        rfl
      rw [e4]
      exact ⟨(e1.trans e2).trans k4, l, rfl, nl, k4 l _ (e2 l _ hl)⟩
def rClash : Rl := fun vs H r => ∃ (q : Addr) (ms : List Int), vs = [.ref q] ∧ H q = some (.lst (ms.map V.int)) ∧ r = .val (.bl (decide (0 ∈ ms)))
theorem sc_clash : FnScope ["masks"] ["masks"] (defScope (top 22)) := ⟨rfl, rfl, rfl, by decide +kernel, rfl, by decide +kernel, by decide +kernel⟩
theorem ok_clash (T : Top w K mg base) : DF P w K mg base 1 "clashes" ["masks"] rClash := by
  obtain ⟨f, fd, hm, F⟩ := T.defG "clashes" 22
  refine ⟨f, fg_of F sc_clash (fun vs H r h => ?_) (fun _ _ _ _ _ _ us hl => match us, hl with | [_], _ => rfl) (fun cdv A outer s H E vs r hr h => ?_), hm, F.kp⟩
  · obtain ⟨m, _, rfl, _⟩ := h
    rfl
  · obtain ⟨q, ms, rfl, hq, rfl⟩ := h
    exact q_ret (Ex.refl H) (x_c (c_inI x_int (x_v 0) hq))
end
end Ck

set_option maxRecDepth 100000
set_option maxHeartbeats 4000000
namespace Ck
open PySem PySem.Spec PyProof.Rows L2 Evl
/-! ### floors -/
structure Fl where
  h : Int
  w : Int
  s : Int
structure FlOk (F : Fl) : Prop where
  h1 : 1 ≤ F.h
  h6 : F.h ≤ 6
  w1 : 1 ≤ F.w
  w6 : F.w ≤ 6
  s1 : 1 ≤ F.s
  s6 : F.s ≤ 6
  hw : F.h * F.w ≤ 16
def Fl.vs (F : Fl) : List V := [.int F.h, .int F.w, .int F.s]
def besideF (F : Fl) (c : Int) : List Int :=
  (if 0 < c / F.w then [c - F.w] else []) ++ ((if 0 < c % F.w then [c - 1] else []) ++ ((if c % F.w < F.w - 1 then [c + 1] else []) ++ (if c / F.w < F.h - 1 then [c + F.w] else [])))
def isCorner (F : Fl) (c : Int) : Bool := decide (c / F.w < F.h - 1) && decide (c % F.w < F.w - 1)
def squareF (F : Fl) (c : Int) : List Int := [c, c + 1, c + F.w, c + F.w + 1]
def cellsF (n : Int) : List Int := (List.range n.toNat).map fun i : Nat => (i : Int)
def squaresF (F : Fl) : List (List Int) := ((cellsF (F.h * F.w)).filter (isCorner F)).map (squareF F)
inductive Reach (F : Fl) (cells : List Int) (s : Int) : Int → Prop
  | base : s ∈ cells → Reach F cells s s
  | step {x y : Int} : Reach F cells s x → y ∈ besideF F x → y ∈ cells → Reach F cells s y
theorem Reach.mem {F : Fl} {cells : List Int} {s x : Int} (h : Reach F cells s x) : x ∈ cells := by
  cases h with
  | base h => exact h
  | step _ _ h => exact h
/-- a list of lists of ints -/
def IsLL (H : Hp) (q : Addr) (yss : List (List Int)) : Prop := ∃ ps : List Addr, H q = some (.lst (ps.map V.ref)) ∧ Paired (fun p (ys : List Int) => H p = some (.lst (ys.map V.int))) ps yss
theorem IsLL.mono {H H' : Hp} {q : Addr} {yss : List (List Int)} (h : IsLL H q yss) (e : Ex H H') : IsLL H' q yss := by
  obtain ⟨ps, a, b⟩ := h
  exact ⟨ps, e q _ a, Paired.mapP b fun p ys z => e p _ z⟩
theorem nodup_len {α : Type} [DecidableEq α] : ∀ {xs ys : List α}, xs.Nodup → (∀ x ∈ xs, x ∈ ys) → xs.length ≤ ys.length
  | [], _, _, _ => Nat.zero_le _
  | x :: xs, ys, hn, hs => by
    have hx := hs x List.mem_cons_self
    obtain ⟨h1, h2⟩ := List.nodup_cons.mp hn
    have := nodup_len (xs := xs) (ys := ys.erase x) h2 fun z hz => (List.mem_erase_of_ne (by intro e; exact h1 (e ▸ hz))).mpr (hs z (List.mem_cons_of_mem _ hz))
    rw [List.length_erase_of_mem hx] at this
    have : 0 < ys.length := List.length_pos_of_mem hx
    simp only [List.length_cons]
    omega
section
variable {P : Program} {w : World} {K : PySem.W.Frag} {mg : Str → Option Value} {base : Heap}
theorem at_fl {F : Fl} : atI F.vs 0 = some (.int F.h) ∧ atI F.vs 1 = some (.int F.w) ∧ atI F.vs 2 = some (.int F.s) := ⟨rfl, rfl, rfl⟩
/-- the floor's tuple at q -/
abbrev FlAt (H : Hp) (q : Addr) (F : Fl) : Prop := H q = some (.tup F.vs)
def rMany : Rl := fun vs H r => ∃ (q : Addr) (F : Fl), vs = [.ref q] ∧ FlAt H q F ∧ FlOk F ∧ r = .val (.int (F.h * F.w))
theorem sc_many : FnScope ["floor"] ["floor"] (defScope (top 11)) := ⟨rfl, rfl, rfl, by decide +kernel, rfl, by decide +kernel, by decide +kernel⟩
theorem ok_many (T : Top w K mg base) : DF P w K mg base 1 "many_cells" ["floor"] rMany := by
  obtain ⟨f, fd, hm, F⟩ := T.defG "many_cells" 11
  refine ⟨f, fg_of F sc_many (fun vs H r h => ?_) (fun _ _ _ _ _ _ us hl => match us, hl with | [_], _ => rfl) (fun cdv A outer s H E vs r hr h => ?_), hm, F.kp⟩
  · obtain ⟨s, _, rfl, _⟩ := h
    rfl
  · obtain ⟨q, F, rfl, hq, o, rfl⟩ := h
    have := o.h1; have := o.h6
    exact q_ret (Ex.refl H) (x_mul (x_ixT (x_v 0) x_int (SqT.of hq) at_fl.1) (x_ixT (x_v 0) x_int (SqT.of hq) at_fl.2.1) (.inl ⟨by omega, by omega⟩))
def rSpot : Rl := fun vs H r => ∃ (q : Addr) (F : Fl) (c : Int), vs = [.ref q, .int c] ∧ FlAt H q F ∧ FlOk F ∧ r = .tup [.int (c / F.w), .int (c % F.w)]
theorem sc_spot : FnScope ["floor", "cell"] ["floor", "cell"] (defScope (top 12)) := ⟨rfl, rfl, rfl, by decide +kernel, rfl, by decide +kernel, by decide +kernel⟩
theorem ok_spot (T : Top w K mg base) : DF P w K mg base 1 "spot_of" ["floor", "cell"] rSpot := by
  obtain ⟨f, fd, hm, F⟩ := T.defG "spot_of" 12
  refine ⟨f, fg_of F sc_spot (fun vs H r h => ?_) (fun _ _ _ _ _ _ us hl => match us, hl with | [_, _], _ => rfl) (fun cdv A outer s H E vs r hr h => ?_), hm, F.kp⟩
  · obtain ⟨s, _, _, rfl, _⟩ := h
    rfl
  · obtain ⟨q, F, c, rfl, hq, o, rfl⟩ := h
    have := o.w1; have := o.w6
    exact q_ret (Ex.refl H) (x_tup (e_cons (x_div (x_v 1) (x_ixT (x_v 0) x_int (SqT.of hq) at_fl.2.1) ⟨by omega, by omega⟩) (e_1 (x_mod (x_v 1) (x_ixT (x_v 0) x_int (SqT.of hq) at_fl.2.1) (by omega)))) (by simp))
def rBeside : Rl := fun vs H r => ∃ (q : Addr) (F : Fl) (c : Int), vs = [.ref q, .int c] ∧ FlAt H q F ∧ FlOk F ∧ r = .lst ((besideF F c).map V.int)
theorem sc_beside : FnScope ["floor", "cell", "high", "wide", "signs", "row", "column", "found"] ["floor", "cell"] (defScope (top 13)) := ⟨rfl, rfl, rfl, by decide +kernel, rfl, by decide +kernel, by decide +kernel⟩
/-- if c: xs.append(e), told by what the list holds behind it -/
theorem q_appIf {X : Cx} {σ : L2.St} {H H0 : Hp} {D : Ends} {t e o : Expr} {sts : List Stmt} {pos p p2 apos : Pos} {c : Prop} [Decidable c] {l : Addr} {xs : List V} {v : V} (hl : H l = some (.lst xs)) (h0 : Ex H0 H) (n0 : H0 l = none) (ht : XT X σ H t (decide c)) (ha : XV X σ H o (.ref l)) (h : XV X σ H e v) (hz : xs.length < 1000)
    (k : ∀ H1, Ex H0 H1 → H1 l = some (.lst (xs ++ if c then [v] else [])) → semB X sts D σ H1)
    (hs : swapsWith (.Call (.Attribute o "append" apos) [e] [] p) none p2.line X.env = pure false := by rfl) (hbase : attributeBase o "append" X.env (eval o X.env) = eval o X.env := by rfl)
    (hfew : ((backTo p (starEach [e] X.env)).all (fun x => !x.1) && (backToKw p (keywordEach [] X.env)).all (fun x => x.1.isSome)
      && decide ([e].length + ([] : List Keyword).length + (if ([] : List Keyword).isEmpty then 0 else 1) < 30)) = true := by rfl)
    (hline : (apos.endLine == p.line) = true := by rfl) (hst : starEach [e] X.env = (false, eval e X.env) :: starEach [] X.env := by rfl) (hplain : (backTo p (starEach [] X.env)).any (·.1) = false := by rfl) :
    semB X (.If t [.Expr (.Call (.Attribute o "append" apos) [e] [] p) p2] [] pos :: sts) D σ H := by
  refine q_when ht (fun hb H1 e1 => ?_) (fun hb H1 e1 => ?_)
  · refine s_one (s_app (e1 l _ hl) (ha.mono e1) (h.mono e1) (by omega) (fun u H2 e2 g => ?_) hs hbase hfew hline hst hplain)
    cases g
    refine k _ (Ex.mut ((h0.trans e1).trans e2) n0) ?_
    rw [if_pos (of_decide_eq_true hb)]
    exact upd_same
  · refine k H1 (h0.trans e1) ?_
    rw [if_neg (of_decide_eq_false hb), List.append_nil]
    exact e1 l _ hl
theorem ok_beside (T : Top w K mg base) : DF P w K mg base 2 "beside" ["floor", "cell"] rBeside := by
  have D1 : DF P w K mg base 1 "spot_of" ["floor", "cell"] rSpot := ok_spot T
  obtain ⟨f, fd, hm, F⟩ := T.defG "beside" 13
  refine ⟨f, fg_of F sc_beside (fun vs H r h => ?_) (fun _ _ _ _ _ _ us hl => match us, hl with | [_, _], _ => rfl) (fun cdv A outer s H E vs r hr h => ?_), hm, F.kp⟩
  · obtain ⟨s, _, _, rfl, _⟩ := h
    rfl
  · obtain ⟨q, F, c, rfl, hq, o, rfl⟩ := h
    refine q_un3 2 3 4 sc_beside.nd (x_v 0) fun v H1 e1 g => ?_
    cases g
    refine ⟨q, _, _, _, rfl, SqT.of (e1 q _ hq), ?_⟩
    refine q_un2 5 6 sc_beside.nd (x_call D1 hr (e_cons (x_v 0) (e_1 (x_v 1))) fun H2 e2 => ⟨q, F, c, rfl, e2 q _ (e1 q _ hq), o, rfl⟩) fun v H2 e2 g => ?_
    obtain ⟨t, rfl, _, ht⟩ := g
    refine ⟨t, _, _, rfl, SqT.of ht, ?_⟩
    refine q_set 7 sc_beside.nd (x_lst (vs := []) e_nil (by decide)) fun v H3 e3 g => ?_
    obtain ⟨l, rfl, nl, hl⟩ := g
    have E3 : Ex H H3 := (e1.trans e2).trans e3
    have n0 : H l = none := fresh_back (e1.trans e2) nl
    refine q_appIf hl E3 n0 (t_c (c_gt (x_v 5) x_int)) (x_v 7) (x_sub (x_v 1) (x_v 3)) (by decide) fun H4 e4 h4 => ?_
    refine q_appIf h4 e4 n0 (t_c (c_gt (x_v 6) x_int)) (x_v 7) (x_sub (x_v 1) x_int) (by split <;> simp) fun H5 e5 h5 => ?_
    refine q_appIf h5 e5 n0 (t_c (c_lt (x_v 6) (x_sub (x_v 3) x_int))) (x_v 7) (x_add (x_v 1) x_int) (by split <;> split <;> simp) fun H6 e6 h6 => ?_
    refine q_appIf h6 e6 n0 (t_c (c_lt (x_v 5) (x_sub (x_v 2) x_int))) (x_v 7) (x_add (x_v 1) (x_v 3)) (by split <;> split <;> split <;> simp) fun H7 e7 h7 => ?_
    refine s_one (s_ret (x_v 7) fun v H8 e8 g => ?_)
    cases g
    refine ⟨e7.trans e8, l, rfl, n0, ?_⟩
    rw [e8 l _ h7]
    unfold besideF
    simp only [List.map_append, List.nil_append, List.append_assoc, apply_ite (List.map V.int), List.map_cons, List.map_nil]
/-! squares: a list of lists grows -/
/-- the list at l holds lists; l itself is none of them -/
def Gw (H H' : Hp) (l : Addr) (yss : List (List Int)) : Prop := Ex H H' ∧ ∃ ps : List Addr, H' l = some (.lst (ps.map V.ref)) ∧ Paired (fun p (ys : List Int) => H' p = some (.lst (ys.map V.int)) ∧ p ≠ l) ps yss
theorem Gw.grow {H H1 H2 : Hp} {l q : Addr} {yss : List (List Int)} {ys : List Int} (g : Gw H H1 l yss) (n0 : H l = none) (e : Ex H1 H2) (hq : H1 q = none) (h : H2 q = some (.lst (ys.map V.int))) :
    ∃ ps : List Addr, H2 l = some (.lst (ps.map V.ref)) ∧ ps.length = yss.length ∧ Gw H (upd H2 l (.lst (ps.map V.ref ++ [.ref q]))) l (yss ++ [ys]) := by
  obtain ⟨a, ps, b, c⟩ := g
  have ql : q ≠ l := fun z => by rw [z, b] at hq; cases hq
  refine ⟨ps, e l _ b, Paired.length c, Ex.mut (a.trans e) n0, ps ++ [q], by rw [upd_same, List.map_append, List.map_cons, List.map_nil], Paired.snoc (Paired.mapP c fun p ys z => ⟨?_, z.2⟩) ⟨?_, ql⟩⟩
  · rw [upd_ne z.2]; exact e p _ z.1
  · rw [upd_ne ql]; exact h
theorem Gw.step {H H1 H2 : Hp} {l : Addr} {yss : List (List Int)} (g : Gw H H1 l yss) (e : Ex H1 H2) : Gw H H2 l yss := by
  obtain ⟨a, ps, b, c⟩ := g
  exact ⟨a.trans e, ps, e l _ b, Paired.mapP c fun p ys z => ⟨e p _ z.1, z.2⟩⟩
theorem Gw.ll {H H1 : Hp} {l : Addr} {yss : List (List Int)} (g : Gw H H1 l yss) : IsLL H1 l yss := by
  obtain ⟨a, ps, b, c⟩ := g
  exact ⟨ps, b, Paired.mapP c fun p ys z => z.1⟩
def rSquares : Rl := fun vs H r => ∃ (q : Addr) (F : Fl), vs = [.ref q] ∧ FlAt H q F ∧ FlOk F ∧ r = .gen fun v H' => ∃ l, v = .ref l ∧ IsLL H' l (squaresF F)
theorem sc_squares : FnScope ["floor", "high", "wide", "signs", "found", "cell", "row", "column"] ["floor"] (defScope (top 14)) := ⟨rfl, rfl, rfl, by decide +kernel, rfl, by decide +kernel, by decide +kernel⟩
theorem FlOk.nn {F : Fl} (o : FlOk F) : 0 ≤ F.h * F.w := Int.mul_nonneg (by have := o.h1; omega) (by have := o.w1; omega)
theorem cells_take {n : Int} {i : Nat} (hi : i < n.toNat) : (cellsF n).take (i + 1) = (cellsF n).take i ++ [(i : Int)] := by
  unfold cellsF
  rw [← List.map_take, ← List.map_take, List.take_add_one, List.getElem?_range hi, List.map_append]
  rfl
theorem cells_all {n : Int} : (cellsF n).take n.toNat = cellsF n := List.take_of_length_le (by unfold cellsF; simp)
theorem ok_squares (T : Top w K mg base) : DF P w K mg base 2 "squares" ["floor"] rSquares := by
  have D1 : DF P w K mg base 1 "spot_of" ["floor", "cell"] rSpot := ok_spot T
  have D2 : DF P w K mg base 1 "many_cells" ["floor"] rMany := ok_many T
  obtain ⟨f, fd, hm, F⟩ := T.defG "squares" 14
  refine ⟨f, fg_of F sc_squares (fun vs H r h => ?_) (fun _ _ _ _ _ _ us hl => match us, hl with | [_], _ => rfl) (fun cdv A outer s H E vs r hr h => ?_), hm, F.kp⟩
  · obtain ⟨s, _, rfl, _⟩ := h
    rfl
  · obtain ⟨q, F, rfl, hq, o, rfl⟩ := h
    have nn := o.nn
    have hw := o.hw
    refine q_un3 1 2 3 sc_squares.nd (x_v 0) fun v H1 e1 g => ?_
    cases g
    refine ⟨q, _, _, _, rfl, SqT.of (e1 q _ hq), ?_⟩
    refine q_set 4 sc_squares.nd (x_lst (vs := []) e_nil (by decide)) fun v H2 e2 g => ?_
    obtain ⟨l, rfl, nl, hl⟩ := g
    have E2 : Ex H H2 := e1.trans e2
    have n0 : H l = none := fresh_back e1 nl
    refine s_seq (s_forR 5 sc_squares.nd (x_call D2 hr (e_1 (x_v 0)) fun H3 e3 => ⟨q, F, rfl, e3 q _ (E2 q _ hq), o, rfl⟩) (by omega) (T.free "range")
      (fun i σ' H' => (∃ x y z, σ' = [some (.ref q), some (.int F.h), some (.int F.w), some (.int F.s), some (.ref l), x, y, z]) ∧ Gw H H' l ((((cellsF (F.h * F.w)).take i).filter (isCorner F)).map (squareF F)))
      (fun H3 e3 => ⟨⟨none, none, none, rfl⟩, E2.trans e3, [], e3 l _ hl, .nil⟩) (fun i σ' H3 hi inv => ?_) fun σ' H3 inv => ?_)
    · obtain ⟨⟨x, y, z, rfl⟩, G⟩ := inv
      refine q_un2 6 7 sc_squares.nd (x_call D1 hr (e_cons (x_v 0) (e_1 (x_v 5))) fun H4 e4 => ⟨q, F, _, rfl, e4 q _ (G.1 q _ hq), o, rfl⟩) fun v H4 e4 g => ?_
      obtain ⟨t, rfl, _, ht⟩ := g
      refine ⟨t, _, _, rfl, SqT.of ht, ?_⟩
      have G4 := G.step e4
      have ec : (((cellsF (F.h * F.w)).take (i + 1)).filter (isCorner F)).map (squareF F) = (((cellsF (F.h * F.w)).take i).filter (isCorner F)).map (squareF F) ++ (if isCorner F i then [squareF F i] else []) := by
        rw [cells_take hi, List.filter_append, List.map_append, List.filter_cons]
        split <;> rfl
      have len : ((((cellsF (F.h * F.w)).take i).filter (isCorner F)).map (squareF F)).length ≤ 16 := by
        have h1 := List.length_filter_le (isCorner F) ((cellsF (F.h * F.w)).take i)
        rw [List.length_take] at h1
        rw [List.length_map]
        omega
      refine s_one (s_when (t_and (t_c (c_lt (x_v 6) (x_sub (x_v 1) x_int))) fun _ => t_c (c_lt (x_v 7) (x_sub (x_v 2) x_int))) (fun hb H5 e5 => ?_) (fun hb H5 e5 => ?_))
      · have hb' : isCorner F i = true := hb
        obtain ⟨ps, hps, _⟩ := id (G4.step e5).2
        refine s_one (s_app (xs := ps.map V.ref) hps (x_v 4) (x_lst (e_cons (x_v 5) (e_cons (x_add (x_v 5) x_int) (e_cons (x_add (x_v 5) (x_v 2)) (e_1 (x_add (x_add (x_v 5) (x_v 2)) x_int))))) (by simp)) ?_ fun v H6 e6 g => ?_)
        · obtain ⟨ps', h1, h2⟩ := (G4.step e5).2
          rw [hps] at h1
          have h3 := HO.lst.inj (Option.some.inj h1)
          rw [h3, List.length_map, Paired.length h2]
          omega
        · obtain ⟨t2, rfl, nt, ht2⟩ := g
          obtain ⟨ps2, hp2, _, G6⟩ := (G4.step e5).grow (ys := squareF F i) n0 e6 nt ht2
          have e7 := e6 l _ hps
          rw [hp2] at e7
          have e8 := HO.lst.inj (Option.some.inj e7)
          rw [← e8]
          refine ⟨⟨_, _, _, rfl⟩, ?_⟩
          rw [ec, if_pos hb']
          exact G6
      · have hb' : isCorner F i = false := hb
        refine ⟨⟨_, _, _, rfl⟩, ?_⟩
        rw [ec, if_neg (by rw [hb']; exact Bool.false_ne_true), List.append_nil]
        exact G4.step e5
    · obtain ⟨⟨x, y, z, rfl⟩, G⟩ := inv
      rw [cells_all] at G
      refine s_one (s_ret (x_v 4) fun v H4 e4 g => ?_)
      cases g
      exact ⟨G.1.trans e4, l, rfl, (G.step e4).ll⟩
end
end Ck

set_option maxRecDepth 100000
set_option maxHeartbeats 4000000
namespace Ck
open PySem PySem.Spec PyProof.Rows L2 Evl
section
variable {P : Program} {w : World} {K : PySem.W.Frag} {mg : Str → Option Value} {base : Heap}
/-! ### floor_of -/
def rFloorOf : Rl := fun vs _ r => ∃ F : Fl, vs = [.int F.h, .int F.w, .int F.s] ∧ FlOk F ∧ r = .tup F.vs
theorem sc_floorOf : FnScope ["high", "wide", "signs"] ["high", "wide", "signs"] (defScope (top 10)) := ⟨rfl, rfl, rfl, by decide +kernel, rfl, by decide +kernel, by decide +kernel⟩
theorem Top.gint (T : Top w K mg base) {X : Cx} (hX : X.mg = mg) (n : Str) (i : Int) (h : (n, i) ∈ intsT := by decide +kernel) {σ : L2.St} {H : Hp} {pos : Pos} (hg : Gl X n := by rfl) (hd : (n == ("__debug__" : Str)) = false := by decide) : XV X σ H (.Name n pos) (.int i) := by
  obtain ⟨t, e⟩ := T.int n i h
  exact x_glob (u := .int i t) (by rw [hX]; exact e) ⟨t, rfl⟩ hg hd
theorem ok_floorOf (T : Top w K mg base) : DF P w K mg base 1 "floor_of" ["high", "wide", "signs"] rFloorOf := by
  obtain ⟨f, fd, hm, F⟩ := T.defG "floor_of" 10
  refine ⟨f, fg_of F sc_floorOf (fun vs H r h => ?_) (fun _ _ _ _ _ _ us hl => match us, hl with | [_, _, _], _ => rfl) (fun cdv A outer s H E vs r hr h => ?_), hm, F.kp⟩
  · obtain ⟨s, rfl, _⟩ := h
    rfl
  · obtain ⟨F, rfl, o, rfl⟩ := h
    obtain ⟨a1, a2, a3, a4, a5, a6, a7⟩ := o
    refine q_when (t_w (w_or (t_not (t_chainLe x_int (x_v 0) (T.gint rfl "MOST_SIDE" 6))) fun _ => w_or (t_not (t_chainLe x_int (x_v 1) (T.gint rfl "MOST_SIDE" 6))) fun _ => w_or1 (t_c (c_gt (x_mul (x_v 0) (x_v 1) (.inl ⟨by omega, by omega⟩)) (T.gint rfl "MOST_CELLS" 16))))) (fun hb => ?_) (fun _ H1 e1 => ?_)
    · exfalso
      simp only [Bool.or_eq_true, Bool.not_eq_true', Bool.and_eq_false_iff, decide_eq_false_iff_not, decide_eq_true_eq] at hb
      omega
    · refine q_when (t_not (t_chainLe x_int (x_v 2) (T.gint rfl "MOST_SIGNS" 6))) (fun hb => ?_) (fun _ H2 e2 => ?_)
      · exfalso
        simp only [Bool.not_eq_true', Bool.and_eq_false_iff, decide_eq_false_iff_not] at hb
        omega
      · exact q_ret (e1.trans e2) (x_tup (e_cons (x_v 0) (e_cons (x_v 1) (e_1 (x_v 2)))) (by simp))
/-! ### reached -/
def rReached : Rl := fun vs H r => ∃ (q : Addr) (F : Fl) (p : Addr) (cs : List Int) (s : Int), vs = [.ref q, .ref p, .int s] ∧ FlAt H q F ∧ FlOk F ∧ H p = some (.lst (cs.map V.int)) ∧ cs.length ≤ 100 ∧
  r = .gen fun v H' => ∃ (l : Addr) (ns : List Int), v = .ref l ∧ H' l = some (.lst (ns.map V.int)) ∧ (ns.Nodup ∧ ∀ x, x ∈ ns ↔ Reach F cs s x)
theorem sc_reached : FnScope ["floor", "cells", "start", "found", "at", "cell"] ["floor", "cells", "start"] (defScope (top 15)) := ⟨rfl, rfl, rfl, by decide +kernel, rfl, by decide +kernel, by decide +kernel⟩
/-- what holds of the cells found, of which the first k have been gone through -/
structure Found (F : Fl) (cs : List Int) (s : Int) (ns : List Int) (k : Nat) : Prop where
  nd : ns.Nodup
  st : s ∈ ns
  re : ∀ x ∈ ns, Reach F cs s x
  kl : k ≤ ns.length
  cl : ∀ x ∈ ns.take k, ∀ y ∈ besideF F x, y ∈ cs → y ∈ ns
theorem Found.len {F : Fl} {cs : List Int} {s : Int} {ns : List Int} {k : Nat} (f : Found F cs s ns k) : ns.length ≤ cs.length := nodup_len f.nd fun x hx => (f.re x hx).mem
theorem Found.all {F : Fl} {cs : List Int} {s : Int} {ns : List Int} (f : Found F cs s ns ns.length) : ∀ x, x ∈ ns ↔ Reach F cs s x := fun x => ⟨f.re x, fun h => by
  induction h with
  | base h => exact f.st
  | step _ hb hc ih => exact f.cl _ (by rw [List.take_length]; exact ih) _ hb hc⟩
/-- within a turn: of the neighbours of the k-th the first t have been looked at -/
structure FoundT (F : Fl) (cs : List Int) (s : Int) (ns : List Int) (k : Nat) (x : Int) (t : Nat) : Prop extends Found F cs s ns k where
  at_ : ns[k]? = some x
  done : ∀ y ∈ (besideF F x).take t, y ∈ cs → y ∈ ns
theorem mem_dec {x : Int} {ns : List Int} {c : Bool} (h : decide (x ∈ ns) = c) : (x ∈ ns) ↔ c = true := by rw [← h]; exact decide_eq_true_iff.symm
theorem ok_reached (T : Top w K mg base) : DF P w K mg base 3 "reached" ["floor", "cells", "start"] rReached := by
  have D1 : DF P w K mg base 2 "beside" ["floor", "cell"] rBeside := ok_beside T
  obtain ⟨f, fd, hm, F⟩ := T.defG "reached" 15
  refine ⟨f, fg_of F sc_reached (fun vs H r h => ?_) (fun _ _ _ _ _ _ us hl => match us, hl with | [_, _, _], _ => rfl) (fun cdv A outer s H E vs r hr h => ?_), hm, F.kp⟩
  · obtain ⟨_, _, _, _, _, rfl, _⟩ := h
    rfl
  · obtain ⟨q, F, p, cs, s0, rfl, hq, o, hp, hz, rfl⟩ := h
    refine q_when (t_c (c_niI (x_v 2) (x_v 1) hp)) (fun hb H1 e1 => ?_) (fun hb H1 e1 => ?_)
    · have hb' : ¬ s0 ∈ cs := fun z => by rw [decide_eq_true z] at hb; cases hb
      refine s_one (s_ret (x_lst (vs := []) e_nil (by decide)) fun v H2 e2 g => ?_)
      obtain ⟨l, rfl, _, hl⟩ := g
      refine ⟨e1.trans e2, l, [], rfl, hl, List.nodup_nil, fun x => ⟨(fun z => by cases z), fun z => ?_⟩⟩
      exfalso
      clear hl
      induction z with
      | base h => exact hb' h
      | step _ _ _ ih => exact ih
    · have hb' : s0 ∈ cs := by
        cases hd : decide (s0 ∈ cs) with
        | true => exact of_decide_eq_true hd
        | false => rw [hd] at hb; cases hb
      refine q_set 3 sc_reached.nd (x_lst (e_1 (x_v 2)) (by simp)) fun v H2 e2 g => ?_
      obtain ⟨l, rfl, nl, hl⟩ := g
      have n0 : H l = none := fresh_back e1 nl
      refine q_setV 4 sc_reached.nd x_int fun H3 e3 => ?_
      refine s_seq (s_while (fun m σ' H' => ∃ (ns : List Int) (k : Nat) (c : Option V), σ' = [some (.ref q), some (.ref p), some (.int s0), some (.ref l), some (.int k), c] ∧ Ex H H' ∧ H' l = some (.lst (ns.map V.int)) ∧ Found F cs s0 ns k ∧ m = cs.length - k)
        (cs.length - 0) ⟨[s0], 0, none, rfl, (e1.trans e2).trans e3, e3 l _ hl, ⟨by simp, by simp, fun x hx => by rw [List.mem_singleton.mp hx]; exact .base hb', by simp, fun x hx => by simp at hx⟩, rfl⟩ ?_)
      rintro m σ' H' ⟨ns, k, c, rfl, hE, hL, hF, rfl⟩
      refine ⟨_, t_c (c_lt (x_v 4) (x_len (x_v 3) (.inl (SqL.of hL)) (T.free "len"))), fun hc H4 e4 => ?_, fun hc H4 e4 => ?_⟩
      · have hk : k < ns.length := by
          have := of_decide_eq_true hc
          rw [List.length_map] at this
          omega
        refine ⟨fun σ2 H2 => ∃ (ns : List Int) (c : Option V), σ2 = [some (.ref q), some (.ref p), some (.int s0), some (.ref l), some (.int ((k : Int) + 1)), c] ∧ Ex H H2 ∧ H2 l = some (.lst (ns.map V.int)) ∧ Found F cs s0 ns (k + 1), fun σ2 H2 z => ?_, ?_⟩
        · obtain ⟨ns2, c2, rfl, z2, z3, z4⟩ := z
          have := z4.kl
          have := z4.len
          exact ⟨cs.length - (k + 1), by omega, ns2, k + 1, c2, rfl, z2, z3, z4, rfl⟩
        · have hl4 := e4 l _ hL
          have hx : ns[k]? = some ns[k] := List.getElem?_eq_getElem hk
          have hix : atI (ns.map V.int) (k : Int) = some (V.int ns[k]) := by
            refine atI_of (by omega) ?_
            rw [Int.toNat_natCast, List.getElem?_map, hx]; rfl
          refine s_seq (s_forN 5 sc_reached.nd (x_call D1 (hr.mono (by decide)) (e_cons (x_v 0) (e_1 (x_ixL (x_v 3) (x_v 4) (SqL.of hl4) hix))) fun H5 e5 => ⟨q, F, _, rfl, e5 q _ (e4 q _ (hE q _ hq)), o, rfl⟩)
            (fun b t σ2 H2 => ∃ (ns2 : List Int) (c : Option V), σ2 = [some (.ref q), some (.ref p), some (.int s0), some (.ref l), some (.int k), c] ∧ Ex H H2 ∧ H2 l = some (.lst (ns2.map V.int)) ∧ FoundT F cs s0 ns2 k ns[k] t ∧ H2 b = some (.lst ((besideF F ns[k]).map V.int)) ∧ b ≠ l)
            (fun b H5 e5 nb hb5 => ⟨ns, c, rfl, (hE.trans e4).trans e5, e5 l _ hl4, ⟨hF, hx, fun y hy => by simp at hy⟩, hb5, fun z => by rw [z, hl4] at nb; cases nb⟩) (fun b t σ2 H2 _ z => ?_) (fun b t y σ2 H2 hy z => ?_) fun b σ2 H2 z => ?_)
          · obtain ⟨_, _, _, _, _, _, h, _⟩ := z
            exact SqL.of h
          · obtain ⟨ns2, c2, rfl, z1, z2, z3, z4, z5⟩ := z
            rw [List.getElem?_map] at hy
            obtain ⟨yi, hyi, rfl⟩ : ∃ yi, (besideF F ns[k])[t]? = some yi ∧ y = V.int yi := by
              cases e : (besideF F ns[k])[t]? with
              | none => rw [e] at hy; cases hy
              | some yi => rw [e] at hy; exact ⟨yi, rfl, (Option.some.inj hy).symm⟩
            have ht : (besideF F ns[k]).take (t + 1) = (besideF F ns[k]).take t ++ [yi] := by rw [List.take_add_one, hyi]; rfl
            have yb : yi ∈ besideF F ns[k] := List.mem_of_getElem? hyi
            refine s_one (s_when (t_and (t_c (c_inI (x_v 5) (x_v 1) (z1 p _ hp))) fun _ => t_c (c_niI (x_v 5) (x_v 3) z2)) (fun hb2 H6 e6 => ?_) (fun hb2 H6 e6 => ?_))
            · obtain ⟨c1, c2'⟩ := Bool.and_eq_true_iff.mp hb2
              have m1 : yi ∈ cs := of_decide_eq_true c1
              have m2 : ¬ yi ∈ ns2 := fun z => by rw [decide_eq_true z] at c2'; cases c2'
              refine s_one (s_app (e6 l _ z2) (x_v 3) (x_v 5) (by rw [List.length_map]; have := z3.toFound.len; omega) fun v H7 e7 g => ?_)
              cases g
              refine ⟨ns2 ++ [yi], _, rfl, Ex.mut ((z1.trans e6).trans e7) n0, by rw [upd_same, List.map_append]; rfl, ?_, by rw [upd_ne z5]; exact e7 b _ (e6 b _ z4), z5⟩
              have hk2 := (List.getElem?_eq_some_iff.mp z3.at_).1
              refine ⟨⟨?_, List.mem_append_left _ z3.st, fun x hx => ?_, by simp; omega, fun x hx y hy hc => ?_⟩, ?_, fun y hy hc => ?_⟩
              · exact List.nodup_append.mpr ⟨z3.nd, by simp, fun a ha b hb e => m2 (by rw [List.mem_singleton] at hb; rw [← hb, ← e]; exact ha)⟩
              · rcases List.mem_append.mp hx with h | h
                · exact z3.re x h
                · rw [List.mem_singleton.mp h]
                  exact .step (z3.re _ (List.mem_of_getElem? z3.at_)) yb m1
              · rw [List.take_append_of_le_length (by omega)] at hx
                exact List.mem_append_left _ (z3.cl x hx y hy hc)
              · rw [List.getElem?_append_left hk2]; exact z3.at_
              · rw [ht] at hy
                rcases List.mem_append.mp hy with h | h
                · exact List.mem_append_left _ (z3.done y h hc)
                · exact List.mem_append_right _ h
            · refine ⟨ns2, _, rfl, z1.trans e6, e6 l _ z2, ⟨z3.toFound, z3.at_, fun y hy hc => ?_⟩, e6 b _ z4, z5⟩
              rw [ht] at hy
              rcases List.mem_append.mp hy with h | h
              · exact z3.done y h hc
              · rw [List.mem_singleton.mp h] at hc ⊢
                rw [decide_eq_true hc, Bool.true_and] at hb2
                cases hd : decide (yi ∈ ns2) with
                | true => exact of_decide_eq_true hd
                | false => rw [hd] at hb2; cases hb2
          · obtain ⟨ns2, c2, rfl, z1, z2, z3, z4, z5⟩ := z
            rw [List.length_map] at z3
            refine s_one (s_set 4 sc_reached.nd (x_add (x_v 4) x_int) fun v H6 e6 g => ?_)
            cases g
            have hk2 := (List.getElem?_eq_some_iff.mp z3.at_).1
            refine ⟨ns2, c2, rfl, z1.trans e6, e6 l _ z2, z3.nd, z3.st, z3.re, hk2, fun x hx y hy hc => ?_⟩
            rw [List.take_add_one, z3.at_] at hx
            rcases List.mem_append.mp hx with h | h
            · exact z3.cl x h y hy hc
            · have ex : x = ns[k] := by simpa using h
              rw [ex] at hy
              exact z3.done y (by rw [List.take_length]; exact hy) hc
      · have hk : k = ns.length := by
          have := of_decide_eq_false hc
          rw [List.length_map] at this
          have := hF.kl
          omega
        subst hk
        refine s_one (s_ret (x_sorted (XG.ofV (x_v 3) (e4 l _ hL)) (T.free "sorted")) fun v H5 e5 g => ?_)
        obtain ⟨l2, ns', rfl, h1, h2, h3⟩ := g
        exact ⟨(hE.trans e4).trans e5, l2, ns', rfl, h1, h2.nodup_iff.mpr hF.nd, fun x => h2.mem_iff.trans (hF.all x)⟩
end
end Ck

set_option maxRecDepth 100000
set_option maxHeartbeats 4000000
namespace Ck
open PySem PySem.Spec PyProof.Rows L2 Evl
/-! ### rules as data -/
inductive Kd where
  | unlike | sum | rising | seen | count | joined | nosquare | ring
  deriving DecidableEq
def Kd.cls : Kd → Str
  | .unlike => "Unlike"
  | .sum => "Total"
  | .rising => "Rising"
  | .seen => "Seen"
  | .count => "Counted"
  | .joined => "Joined"
  | .nosquare => "NoSquare"
  | .ring => "Ring"
def Kd.word : Kd → Str
  | .unlike => "unlike"
  | .sum => "sum"
  | .rising => "rising"
  | .seen => "seen"
  | .count => "count"
  | .joined => "joined"
  | .nosquare => "nosquare"
  | .ring => "ring"
structure Ru where
  k : Kd
  cells : List Int
  n : Int
  s : Int
def ruFs (g c : Addr) (n s : Int) : List (Str × V) := [("ground", .ref g), ("cells", .ref c), ("wanted", .int n), ("of_sign", .int s)]
/-- what is true of every rule that stands here -/
structure RuOk (F : Fl) (R : Ru) : Prop where
  nd : R.cells.Nodup
  inn : ∀ c ∈ R.cells, 0 ≤ c ∧ c < F.h * F.w
  n0 : 0 ≤ R.n ∧ R.n ≤ 1000
  s0 : 0 ≤ R.s ∧ R.s ≤ F.s
  s1 : (R.k = .count ∨ R.k = .joined ∨ R.k = .nosquare ∨ R.k = .ring) → 1 ≤ R.s
  all : (R.k = .joined ∨ R.k = .nosquare ∨ R.k = .ring) → R.cells = cellsF (F.h * F.w)
/-- the rule R on the floor F stands at a -/
def RuAt (K : PySem.W.Frag) (F : Fl) (H : Hp) (a : Addr) (R : Ru) : Prop := RuOk F R ∧ ∃ dx g c, H a = some (.ins (ga K R.k.cls) dx (ruFs g c R.n R.s)) ∧ FlAt H g F ∧ H c = some (.lst (R.cells.map V.int))
theorem RuAt.mono {K : PySem.W.Frag} {F : Fl} {H H' : Hp} {a : Addr} {R : Ru} (h : RuAt K F H a R) (e : Ex H H') : RuAt K F H' a R := by
  obtain ⟨o, dx, g, c, h1, h2, h3⟩ := h
  exact ⟨o, dx, g, c, e a _ h1, e g _ h2, e c _ h3⟩
theorem RuOk.len {F : Fl} {R : Ru} (fo : FlOk F) (o : RuOk F R) : R.cells.length ≤ 16 := by
  have h1 := nodup_len (ys := cellsF (F.h * F.w)) o.nd fun c hc => by
    obtain ⟨a, b⟩ := o.inn c hc
    unfold cellsF
    exact List.mem_map.mpr ⟨c.toNat, List.mem_range.mpr (by omega), by omega⟩
  have h2 : (cellsF (F.h * F.w)).length = (F.h * F.w).toNat := by unfold cellsF; simp
  have := fo.hw
  omega
theorem ru_ground {g c : Addr} {n s : Int} : (ruFs g c n s).lookup ("ground" : Str) = some (V.ref g) := rfl
theorem ru_cells {g c : Addr} {n s : Int} : (ruFs g c n s).lookup ("cells" : Str) = some (V.ref c) := rfl
theorem ru_wanted {g c : Addr} {n s : Int} : (ruFs g c n s).lookup ("wanted" : Str) = some (V.int n) := rfl
theorem ru_sign {g c : Addr} {n s : Int} : (ruFs g c n s).lookup ("of_sign" : Str) = some (V.int s) := rfl
section
variable {P : Program} {w : World} {K : PySem.W.Frag} {mg : Str → Option Value} {base : Heap}
theorem Top.rcls (T : Top w K mg base) (k : Kd) : Cls K (ga K k.cls) := by cases k <;> exact T.cls _
/-- self of the kind k -/
def rSelf (k : Kd) (r : Ru → Rt) (K : PySem.W.Frag) : Rl := fun vs H r' => ∃ (F : Fl) (a : Addr) (R : Ru), vs = [.ref a] ∧ RuAt K F H a R ∧ R.k = k ∧ r' = r R
theorem sc_self {st : Stmt} (h : (defScope st).names.lookup ("self" : Str) = some NameKind.local ∨ (defScope st).names.lookup ("self" : Str) = some NameKind.cell) (h2 : (defScope st).kind = .function) (h3 : (defScope st).isCoroutine = false) (h4 : (defScope st).isGenerator = false) (h5 : ∀ y ∈ (defScope st).names, y.2 ≠ .free) : FnScope ["self"] ["self"] (defScope st) :=
  ⟨h2, h3, h4, by decide +kernel, rfl, fun x hx => by rw [List.mem_singleton.mp hx]; exact h, h5⟩
theorem name_of (T : Top w K mg base) (k : Kd) (q : Str) (i : Nat) (hm : (k.cls, ("name" : Str), q, i, 0) ∈ fnM) (S : FnScope ["self"] ["self"] (defScope (mth i 0))) (hb : ∃ j p p', defBody (mth i 0) = [.Return (some (.Constant (.str k.word) j p)) p'])
    (bd : ∀ (fd : FuncData) (kV doc pm : Value) (an : Option Addr) (cdv ct : Value) (us : List Value), us.length = 1 → bindArgs (PySem.W.fnOf "name" q (defArgs (mth i 0)) (defBody (mth i 0)) (defScope (mth i 0)) .none kV doc pm an cdv ct) ⟨us, []⟩ = pure ((["self"] : List Str).zip us)) :
    MF P w K mg base 1 (ga K k.cls) "name" ["self"] (rSelf k (fun R => .val (.str k.word)) K) := by
  obtain ⟨f, fd, M, F⟩ := T.defM k.cls "name" q i 0 hm
  refine ⟨f, fg_of F S (fun vs H r h => ?_) (bd fd) (fun cdv A outer s H E vs r hr h => ?_), M⟩
  · obtain ⟨_, _, _, rfl, _⟩ := h
    rfl
  · obtain ⟨F, a, R, rfl, RA, e, rfl⟩ := h
    obtain ⟨j, p, p', hb⟩ := hb
    rw [hb]
    exact q_ret (Ex.refl H) x_str
theorem ok_name (T : Top w K mg base) (k : Kd) : MF P w K mg base 1 (ga K k.cls) "name" ["self"] (rSelf k (fun R => .val (.str k.word)) K) := by
  cases k
  · exact name_of T .unlike "Unlike.name" 63 (by decide +kernel) (sc_self (.inl rfl) rfl rfl rfl (by decide +kernel)) ⟨_, _, _, rfl⟩ fun _ _ _ _ _ _ _ us hl => match us, hl with | [_], _ => rfl
  · exact name_of T .sum "Total.name" 64 (by decide +kernel) (sc_self (.inl rfl) rfl rfl rfl (by decide +kernel)) ⟨_, _, _, rfl⟩ fun _ _ _ _ _ _ _ us hl => match us, hl with | [_], _ => rfl
  · exact name_of T .rising "Rising.name" 65 (by decide +kernel) (sc_self (.inl rfl) rfl rfl rfl (by decide +kernel)) ⟨_, _, _, rfl⟩ fun _ _ _ _ _ _ _ us hl => match us, hl with | [_], _ => rfl
  · exact name_of T .seen "Seen.name" 66 (by decide +kernel) (sc_self (.inl rfl) rfl rfl rfl (by decide +kernel)) ⟨_, _, _, rfl⟩ fun _ _ _ _ _ _ _ us hl => match us, hl with | [_], _ => rfl
  · exact name_of T .count "Counted.name" 67 (by decide +kernel) (sc_self (.inl rfl) rfl rfl rfl (by decide +kernel)) ⟨_, _, _, rfl⟩ fun _ _ _ _ _ _ _ us hl => match us, hl with | [_], _ => rfl
  · exact name_of T .joined "Joined.name" 70 (by decide +kernel) (sc_self (.inl rfl) rfl rfl rfl (by decide +kernel)) ⟨_, _, _, rfl⟩ fun _ _ _ _ _ _ _ us hl => match us, hl with | [_], _ => rfl
  · exact name_of T .nosquare "NoSquare.name" 71 (by decide +kernel) (sc_self (.inl rfl) rfl rfl rfl (by decide +kernel)) ⟨_, _, _, rfl⟩ fun _ _ _ _ _ _ _ us hl => match us, hl with | [_], _ => rfl
  · exact name_of T .ring "Ring.name" 72 (by decide +kernel) (sc_self (.inl rfl) rfl rfl rfl (by decide +kernel)) ⟨_, _, _, rfl⟩ fun _ _ _ _ _ _ _ us hl => match us, hl with | [_], _ => rfl
theorem ok_spots (T : Top w K mg base) (k : Kd) : MF P w K mg base 1 (ga K k.cls) "spots" ["self"] (rSelf k (fun R => .lst (R.cells.map V.int)) K) := by
  obtain ⟨f, fd, M, F⟩ := T.defM k.cls "spots" "Rule.spots" 62 2 (by cases k <;> decide +kernel)
  refine ⟨f, fg_of F (sc_self (.inl rfl) rfl rfl rfl (by decide +kernel)) (fun vs H r h => ?_) (fun _ _ _ _ _ _ us hl => match us, hl with | [_], _ => rfl) (fun cdv A outer s H E vs r hr h => ?_), M⟩
  · obtain ⟨_, _, _, rfl, _⟩ := h
    rfl
  · obtain ⟨F, a, R, rfl, ⟨o, dx, g, c, h1, h2, h3⟩, e, rfl⟩ := h
    rw [e] at h1
    exact q_ret (Ex.refl H) (x_list (x_fld (x_v 0) h1 (T.rcls k) (T.noat k.cls "cells" (by cases k <;> decide +kernel)) ru_cells) (.inl (SqL.of h3)) (T.free "list"))
theorem ok_number (T : Top w K mg base) (k : Kd) : MF P w K mg base 1 (ga K k.cls) "number" ["self"] (rSelf k (fun R => .val (.int R.n)) K) := by
  obtain ⟨f, fd, M, F⟩ := T.defM k.cls "number" "Rule.number" 62 4 (by cases k <;> decide +kernel)
  refine ⟨f, fg_of F (sc_self (.inl rfl) rfl rfl rfl (by decide +kernel)) (fun vs H r h => ?_) (fun _ _ _ _ _ _ us hl => match us, hl with | [_], _ => rfl) (fun cdv A outer s H E vs r hr h => ?_), M⟩
  · obtain ⟨_, _, _, rfl, _⟩ := h
    rfl
  · obtain ⟨F, a, R, rfl, ⟨o, dx, g, c, h1, h2, h3⟩, e, rfl⟩ := h
    rw [e] at h1
    exact q_ret (Ex.refl H) (x_fld (x_v 0) h1 (T.rcls k) (T.noat k.cls "wanted" (by cases k <;> decide +kernel)) ru_wanted)
theorem ok_sign (T : Top w K mg base) (k : Kd) : MF P w K mg base 1 (ga K k.cls) "sign" ["self"] (rSelf k (fun R => .val (.int R.s)) K) := by
  obtain ⟨f, fd, M, F⟩ := T.defM k.cls "sign" "Rule.sign" 62 5 (by cases k <;> decide +kernel)
  refine ⟨f, fg_of F (sc_self (.inl rfl) rfl rfl rfl (by decide +kernel)) (fun vs H r h => ?_) (fun _ _ _ _ _ _ us hl => match us, hl with | [_], _ => rfl) (fun cdv A outer s H E vs r hr h => ?_), M⟩
  · obtain ⟨_, _, _, rfl, _⟩ := h
    rfl
  · obtain ⟨F, a, R, rfl, ⟨o, dx, g, c, h1, h2, h3⟩, e, rfl⟩ := h
    rw [e] at h1
    exact q_ret (Ex.refl H) (x_fld (x_v 0) h1 (T.rcls k) (T.noat k.cls "of_sign" (by cases k <;> decide +kernel)) ru_sign)
end
/-! ### what these are worth where they are called -/
section
variable {X : Cx} {σ : L2.St} {H : Hp} {o : Expr} {a : Addr} {F : Fl} {R : Ru} {pos apos : Pos} {k : Nat}
theorem ru_call {m : Str} {r : Ru → Rt} (T : Top X.w X.K X.mg X.base) (M : MF X.prog X.w X.K X.mg X.base 1 (ga X.K R.k.cls) m ["self"] (rSelf R.k r X.K)) (hr : Room k X.A) (ho : XV X σ H o (.ref a)) (RA : RuAt X.K F H a R) (hn : ∀ g c n s, (ruFs g c n s).lookup m = none) (hk : 1 ≤ k) {pl : Sem Bool}
    (ht : eval (.Call (.Attribute o m apos) [] [] pos) X.env = (do
      let ov ← eval o X.env
      standAt apos.atName
      let (f, first) ← holding [ov] (getMethod ov m pl)
      callWith pos f first (backTo pos (starEach [] X.env)) (backToKw pos (keywordEach [] X.env)))) : XG X σ H (.Call (.Attribute o m apos) [] [] pos) (r R) := by
  obtain ⟨ok, dx, g, c, h1, h2, h3⟩ := id RA
  exact x_meth0 M (T.rcls R.k) (hr.mono hk) ho h1 (hn g c _ _) (fun H1 e1 => ⟨F, a, R, rfl, RA.mono e1, rfl, rfl⟩) ht
theorem x_name (T : Top X.w X.K X.mg X.base) (hr : Room k X.A) (ho : XV X σ H o (.ref a)) (RA : RuAt X.K F H a R) (hk : 1 ≤ k := by decide) {pl : Sem Bool}
    (ht : eval (.Call (.Attribute o "name" apos) [] [] pos) X.env = (do
      let ov ← eval o X.env
      standAt apos.atName
      let (f, first) ← holding [ov] (getMethod ov "name" pl)
      callWith pos f first (backTo pos (starEach [] X.env)) (backToKw pos (keywordEach [] X.env))) := by rfl) : XV X σ H (.Call (.Attribute o "name" apos) [] [] pos) (.str R.k.word) :=
  ru_call (r := fun R' => .val (.str R.k.word)) T (ok_name T R.k) hr ho RA (fun _ _ _ _ => rfl) hk ht
theorem x_spots (T : Top X.w X.K X.mg X.base) (hr : Room k X.A) (ho : XV X σ H o (.ref a)) (RA : RuAt X.K F H a R) (hk : 1 ≤ k := by decide) {pl : Sem Bool}
    (ht : eval (.Call (.Attribute o "spots" apos) [] [] pos) X.env = (do
      let ov ← eval o X.env
      standAt apos.atName
      let (f, first) ← holding [ov] (getMethod ov "spots" pl)
      callWith pos f first (backTo pos (starEach [] X.env)) (backToKw pos (keywordEach [] X.env))) := by rfl) : XG X σ H (.Call (.Attribute o "spots" apos) [] [] pos) (.lst (R.cells.map V.int)) :=
  ru_call (r := fun R' => .lst (R'.cells.map V.int)) T (ok_spots T R.k) hr ho RA (fun _ _ _ _ => rfl) hk ht
theorem x_number (T : Top X.w X.K X.mg X.base) (hr : Room k X.A) (ho : XV X σ H o (.ref a)) (RA : RuAt X.K F H a R) (hk : 1 ≤ k := by decide) {pl : Sem Bool}
    (ht : eval (.Call (.Attribute o "number" apos) [] [] pos) X.env = (do
      let ov ← eval o X.env
      standAt apos.atName
      let (f, first) ← holding [ov] (getMethod ov "number" pl)
      callWith pos f first (backTo pos (starEach [] X.env)) (backToKw pos (keywordEach [] X.env))) := by rfl) : XV X σ H (.Call (.Attribute o "number" apos) [] [] pos) (.int R.n) :=
  ru_call (r := fun R' => .val (.int R'.n)) T (ok_number T R.k) hr ho RA (fun _ _ _ _ => rfl) hk ht
theorem x_sign (T : Top X.w X.K X.mg X.base) (hr : Room k X.A) (ho : XV X σ H o (.ref a)) (RA : RuAt X.K F H a R) (hk : 1 ≤ k := by decide) {pl : Sem Bool}
    (ht : eval (.Call (.Attribute o "sign" apos) [] [] pos) X.env = (do
      let ov ← eval o X.env
      standAt apos.atName
      let (f, first) ← holding [ov] (getMethod ov "sign" pl)
      callWith pos f first (backTo pos (starEach [] X.env)) (backToKw pos (keywordEach [] X.env))) := by rfl) : XV X σ H (.Call (.Attribute o "sign" apos) [] [] pos) (.int R.s) :=
  ru_call (r := fun R' => .val (.int R'.s)) T (ok_sign T R.k) hr ho RA (fun _ _ _ _ => rfl) hk ht
end
end Ck

set_option maxRecDepth 100000
set_option maxHeartbeats 4000000
namespace Ck
open PySem PySem.Spec PyProof.Rows L2 Evl
/-! ### what many kinds of thought lean on -/
def othersF (R : Ru) (c : Int) : List Int := R.cells.filter fun x => !decide (x = c)
def areOthersF (R : Ru) (c : Int) (sm : List Int) : Bool := decide (((sm.filter fun x => !decide (x ∈ othersF R c)).length : Int) = 0) && decide ((unlikes sm : Int) = (sm.length : Int))
section
variable {X : Cx} {σ : L2.St} {H : Hp} {a b e : Expr} {p pos : Pos} {k : Nat}
theorem x_stands {m s : Int} (T : Top X.w X.K X.mg X.base) (hr : Room k X.A) (ha : XV X σ H a (.int m)) (hb : XV X σ H b (.int s)) (hs : 1 ≤ s ∧ s ≤ 100) (hk : 2 ≤ k := by decide) (hg : Gl X "stands" := by rfl) (he : starEach [a, b] X.env = (false, eval a X.env) :: starEach [b] X.env := by rfl) (he2 : starEach [b] X.env = (false, eval b X.env) :: starEach [] X.env := by rfl) (hpl : (backTo pos (starEach [b] X.env)).any (·.1) = false := by rfl) :
    XV X σ H (.Call (.Name "stands" p) [a, b] [] pos) (.bl (standsF m s)) := x_call (ok_stands T) (hr.mono hk) (e_cons ha (e_1 hb he2) he) (fun _ _ => ⟨m, s, rfl, hs.1, hs.2, rfl⟩) hg (by decide) he hpl
theorem x_only {m s : Int} (T : Top X.w X.K X.mg X.base) (hr : Room k X.A) (ha : XV X σ H a (.int m)) (hb : XV X σ H b (.int s)) (hs : 1 ≤ s ∧ s ≤ 100) (hk : 2 ≤ k := by decide) (hg : Gl X "has_only" := by rfl) (he : starEach [a, b] X.env = (false, eval a X.env) :: starEach [b] X.env := by rfl) (he2 : starEach [b] X.env = (false, eval b X.env) :: starEach [] X.env := by rfl) (hpl : (backTo pos (starEach [b] X.env)).any (·.1) = false := by rfl) :
    XV X σ H (.Call (.Name "has_only" p) [a, b] [] pos) (.bl (onlyF m s)) := x_call (ok_only T) (hr.mono hk) (e_cons ha (e_1 hb he2) he) (fun _ _ => ⟨m, s, rfl, hs.1, hs.2, rfl⟩) hg (by decide) he hpl
theorem x_signs {m : Int} (T : Top X.w X.K X.mg X.base) (hr : Room k X.A) (ha : XV X σ H a (.int m)) (hm : Builtin.Int.intBits m ≤ 50) (hk : 3 ≤ k := by decide) (hg : Gl X "signs_in" := by rfl) (he : starEach [a] X.env = (false, eval a X.env) :: starEach [] X.env := by rfl) (hpl : (backTo pos (starEach [] X.env)).any (·.1) = false := by rfl) :
    XG X σ H (.Call (.Name "signs_in" p) [a] [] pos) (.lst ((signsF m).map V.int)) := x_call (ok_signs T) (hr.mono hk) (e_1 ha he) (fun _ _ => ⟨m, rfl, hm, rfl⟩) hg (by decide) he hpl
end
section
variable {P : Program} {w : World} {K : PySem.W.Frag} {mg : Str → Option Value} {base : Heap}
def rOthers (K : PySem.W.Frag) : Rl := fun vs H r => ∃ (F : Fl) (a : Addr) (R : Ru) (c : Int), vs = [.ref a, .int c] ∧ RuAt K F H a R ∧ FlOk F ∧ r = .lst ((othersF R c).map V.int)
theorem sc_others : FnScope ["rule", "cell", "other"] ["rule", "cell"] (defScope (top 25)) := ⟨rfl, rfl, rfl, by decide +kernel, rfl, by decide +kernel, by decide +kernel⟩
theorem ok_others (T : Top w K mg base) : DF P w K mg base 2 "others_of" ["rule", "cell"] (rOthers K) := by
  obtain ⟨f, fd, hm, F⟩ := T.defG "others_of" 25
  refine ⟨f, fg_of F sc_others (fun vs H r h => ?_) (fun _ _ _ _ _ _ us hl => match us, hl with | [_, _], _ => rfl) (fun cdv A outer s H E vs r hr h => ?_), hm, F.kp⟩
  · obtain ⟨_, _, _, _, rfl, _⟩ := h
    rfl
  · obtain ⟨F, a, R, c, rfl, RA, fo, rfl⟩ := h
    have hl := RA.1.len fo
    exact q_ret (Ex.refl H) (x_l (l_I 2 (fun x => !decide (x = c)) V.int sc_others.nd (@blkOk_by ["rule", "cell", "other"] (defScope (top 25)) _ _ (by decide +kernel)) (x_spots T hr (x_v 0) RA) hrN (by omega)
      (fun s' H0 cl C fp x H1 hx k => ts_one (t_c (c_neI (x_v 2) (x_v 1)))) (fun s' H0 cl C fp x H1 hx hp k => x_v 2)))
def rAreOthers (K : PySem.W.Frag) : Rl := fun vs H r => ∃ (F : Fl) (a : Addr) (R : Ru) (c : Int) (q : Addr) (sm : List Int), vs = [.ref a, .int c, .ref q] ∧ RuAt K F H a R ∧ FlOk F ∧ H q = some (.lst (sm.map V.int)) ∧ sm.length ≤ 1000 ∧ r = .val (.bl (areOthersF R c sm))
theorem sc_areOthers : FnScope ["rule", "cell", "some", "others", "other"] ["rule", "cell", "some"] (defScope (top 26)) := ⟨rfl, rfl, rfl, by decide +kernel, rfl, by decide +kernel, by decide +kernel⟩
theorem ok_areOthers (T : Top w K mg base) : DF P w K mg base 3 "are_others" ["rule", "cell", "some"] (rAreOthers K) := by
  obtain ⟨f, fd, hm, F⟩ := T.defG "are_others" 26
  refine ⟨f, fg_of F sc_areOthers (fun vs H r h => ?_) (fun _ _ _ _ _ _ us hl => match us, hl with | [_, _, _], _ => rfl) (fun cdv A outer s H E vs r hr h => ?_), hm, F.kp⟩
  · obtain ⟨_, _, _, _, _, _, rfl, _⟩ := h
    rfl
  · obtain ⟨F, a, R, c, q, sm, rfl, RA, fo, hq, hz, rfl⟩ := h
    refine q_set 3 sc_areOthers.nd (x_call (ok_others T) hr (e_cons (x_v 0) (e_1 (x_v 1))) fun H1 e1 => ⟨F, a, R, c, rfl, RA.mono e1, fo, rfl⟩) fun v H1 e1 g => ?_
    obtain ⟨l, rfl, _, hl⟩ := g
    refine q_retV e1 (x_and2 (x_c (c_eqI (x_lenN (x_l (l_I 4 (fun x => !decide (x ∈ othersF R c)) V.int sc_areOthers.nd (@blkOk_by ["rule", "cell", "some", "others", "other"] (defScope (top 26)) _ _ (by decide +kernel)) (x_v 2) (hrL (e1 q _ hq)) (by omega)
      (fun s' H0 cl C fp x H2 hx k => ts_one (t_c (c_niI (x_v 4) (x_v 3) (k l _ hl)))) (fun s' H0 cl C fp x H2 hx hp k => x_v 4))) (T.free "len")) x_int)) fun _ => x_c (c_eqI (x_lenSet (ns := sm) (x_v 2) (hrL (e1 q _ hq)) (by omega) (T.free "len") (T.free "set")) (x_len (x_v 2) (.inl (SqL.of (e1 q _ hq))) (T.free "len")))) ?_
    rw [List.length_map, List.length_map]
    rfl
def rIsUnlike (K : PySem.W.Frag) : Rl := fun vs H r => ∃ (F : Fl) (a : Addr) (R : Ru) (c : Int), vs = [.ref a, .int c] ∧ RuAt K F H a R ∧ r = .val (.bl (decide (R.k = .unlike) && decide (c ∈ R.cells)))
theorem sc_isUnlike : FnScope ["rule", "cell"] ["rule", "cell"] (defScope (top 29)) := ⟨rfl, rfl, rfl, by decide +kernel, rfl, by decide +kernel, by decide +kernel⟩
theorem word_eq (k : Kd) (j : Kd) : decide (k.word = j.word) = decide (k = j) := by cases k <;> cases j <;> rfl
theorem ok_isUnlike (T : Top w K mg base) : DF P w K mg base 2 "is_unlike" ["rule", "cell"] (rIsUnlike K) := by
  obtain ⟨f, fd, hm, F⟩ := T.defG "is_unlike" 29
  refine ⟨f, fg_of F sc_isUnlike (fun vs H r h => ?_) (fun _ _ _ _ _ _ us hl => match us, hl with | [_, _], _ => rfl) (fun cdv A outer s H E vs r hr h => ?_), hm, F.kp⟩
  · obtain ⟨_, _, _, _, rfl, _⟩ := h
    rfl
  · obtain ⟨F, a, R, c, rfl, RA, rfl⟩ := h
    refine q_retV (Ex.refl H) (x_band (x_c (c_notN (x_v 0))) fun _ => x_band (x_c (c_eqS (x_name T hr (x_v 0) RA) x_str)) fun _ => x_b1 (x_c (c_inIN (x_v 1) (x_spots T hr (x_v 0) RA)))) ?_
    rw [show decide (R.k.word = Str.ofString "unlike") = decide (R.k = .unlike) from word_eq R.k .unlike]
    rfl
def rIsOf (K : PySem.W.Frag) : Rl := fun vs H r => ∃ (F : Fl) (a : Addr) (R : Ru) (j : Kd) (c : Int), vs = [.ref a, .str j.word, .int c] ∧ RuAt K F H a R ∧ r = .val (.bl (decide (R.k = j) && decide (c ∈ R.cells)))
theorem sc_isOf : FnScope ["rule", "word", "cell"] ["rule", "word", "cell"] (defScope (top 35)) := ⟨rfl, rfl, rfl, by decide +kernel, rfl, by decide +kernel, by decide +kernel⟩
theorem ok_isOf (T : Top w K mg base) : DF P w K mg base 2 "is_of" ["rule", "word", "cell"] (rIsOf K) := by
  obtain ⟨f, fd, hm, F⟩ := T.defG "is_of" 35
  refine ⟨f, fg_of F sc_isOf (fun vs H r h => ?_) (fun _ _ _ _ _ _ us hl => match us, hl with | [_, _, _], _ => rfl) (fun cdv A outer s H E vs r hr h => ?_), hm, F.kp⟩
  · obtain ⟨_, _, _, _, _, rfl, _⟩ := h
    rfl
  · obtain ⟨F, a, R, j, c, rfl, RA, rfl⟩ := h
    refine q_retV (Ex.refl H) (x_band (x_c (c_notN (x_v 0))) fun _ => x_band (x_c (c_eqS (x_name T hr (x_v 0) RA) (x_v 1))) fun _ => x_b1 (x_c (c_inIN (x_v 2) (x_spots T hr (x_v 0) RA)))) ?_
    rw [word_eq R.k j]
    rfl
end
/-! ### fillings, and what a rule asks of them -/
def vF (fl : List Int) (c : Int) : Int := fl.getD c.toNat 0
def withF (R : Ru) (fl : List Int) : List Int := R.cells.filter fun c => decide (vF fl c = R.s)
def JoinedP (F : Fl) (cs : List Int) : Prop := ∀ a r, cs = a :: r → ∀ x ∈ cs, Reach F cs a x
def seenN : Int → List Int → Int
  | _, [] => 0
  | h, x :: r => if h < x then 1 + seenN x r else seenN h r
def holdsP (F : Fl) (R : Ru) (fl : List Int) : Prop := match R.k with
  | .unlike => (R.cells.map (vF fl)).Nodup
  | .sum => (R.cells.map (vF fl)).sum = R.n
  | .rising => ∀ i x y, R.cells[i]? = some x → R.cells[i + 1]? = some y → vF fl x < vF fl y
  | .seen => seenN 0 (R.cells.map (vF fl)) = R.n
  | .count => ((withF R fl).length : Int) = R.n
  | .joined => JoinedP F (withF R fl)
  | .nosquare => ∀ q ∈ squaresF F, ¬ (q.filter fun c => decide (vF fl c = R.s)).length = 4
  | .ring => (∀ c ∈ withF R fl, ((besideF F c).filter fun x => decide (x ∈ withF R fl)).length = 2) ∧ JoinedP F (withF R fl)
open Classical in
noncomputable def holdsB (F : Fl) (R : Ru) (fl : List Int) : Bool := decide (holdsP F R fl)
open Classical in
noncomputable def joinedB (F : Fl) (cs : List Int) : Bool := decide (JoinedP F cs)
theorem at0 {α : Type} {x : α} {xs : List α} : atI (x :: xs) 0 = some x := atI_of (by decide) rfl
theorem at1 {α : Type} {x y : α} {xs : List α} : atI (x :: y :: xs) 1 = some y := atI_of (by decide) rfl
open Classical in
theorem joined_len {F : Fl} {a : Int} {r ns : List Int} (nd : (a :: r).Nodup) (h1 : ns.Nodup) (h2 : ∀ x, x ∈ ns ↔ Reach F (a :: r) a x) : decide ((ns.length : Int) = ((a :: r).length : Int)) = joinedB F (a :: r) := by
  have key : ns.length = (a :: r).length ↔ JoinedP F (a :: r) := by
    constructor
    · intro hl a' r' e x hx
      obtain ⟨rfl, rfl⟩ := List.cons.inj e
      refine (h2 x).mp ?_
      refine Classical.byContradiction fun hn => ?_
      have := nodup_len (xs := x :: ns) (ys := a :: r) (List.nodup_cons.mpr ⟨hn, h1⟩) fun z hz => by
        rcases List.mem_cons.mp hz with rfl | hz
        · exact hx
        · exact ((h2 z).mp hz).mem
      rw [List.length_cons, hl] at this
      omega
    · intro hj
      refine Nat.le_antisymm (nodup_len h1 fun x hx => ((h2 x).mp hx).mem) (nodup_len nd fun x hx => (h2 x).mpr (hj a r rfl x hx))
  unfold joinedB
  by_cases h : JoinedP F (a :: r)
  · rw [decide_eq_true (by have := key.mpr h; omega : (ns.length : Int) = ((a :: r).length : Int)), decide_eq_true h]
  · rw [decide_eq_false (fun z : (ns.length : Int) = ((a :: r).length : Int) => h (key.mp (by omega))), decide_eq_false h]
section
variable {P : Program} {w : World} {K : PySem.W.Frag} {mg : Str → Option Value} {base : Heap}
/-- a filling of the floor F at q -/
def FiAt (F : Fl) (H : Hp) (q : Addr) (fl : List Int) : Prop := H q = some (.lst (fl.map V.int)) ∧ (fl.length : Int) = F.h * F.w
theorem FiAt.mono {F : Fl} {H H' : Hp} {q : Addr} {fl : List Int} (h : FiAt F H q fl) (e : Ex H H') : FiAt F H' q fl := ⟨e q _ h.1, h.2⟩
theorem fi_at {F : Fl} {H : Hp} {q : Addr} {fl : List Int} {R : Ru} (h : FiAt F H q fl) (o : RuOk F R) {c : Int} (hc : c ∈ R.cells) : atI (fl.map V.int) c = some (V.int (vF fl c)) := by
  obtain ⟨h1, h2⟩ := o.inn c hc
  have e : c = ((c.toNat : Nat) : Int) := by omega
  have z := at_ints (ns := fl) (c := c.toNat) (by have := h.2; omega)
  rw [← e] at z
  exact z
def rWith (K : PySem.W.Frag) : Rl := fun vs H r => ∃ (F : Fl) (a : Addr) (R : Ru) (q : Addr) (fl : List Int), vs = [.ref a, .ref q] ∧ RuAt K F H a R ∧ FlOk F ∧ FiAt F H q fl ∧ r = .lst ((withF R fl).map V.int)
theorem sc_with : FnScope ["rule", "filling", "cell"] ["rule", "filling"] (defScope (top 68)) := ⟨rfl, rfl, rfl, by decide +kernel, rfl, by decide +kernel, by decide +kernel⟩
theorem ok_with (T : Top w K mg base) : DF P w K mg base 2 "cells_with" ["rule", "filling"] (rWith K) := by
  obtain ⟨f, fd, hm, F⟩ := T.defG "cells_with" 68
  refine ⟨f, fg_of F sc_with (fun vs H r h => ?_) (fun _ _ _ _ _ _ us hl => match us, hl with | [_, _], _ => rfl) (fun cdv A outer s H E vs r hr h => ?_), hm, F.kp⟩
  · obtain ⟨_, _, _, _, _, rfl, _⟩ := h
    rfl
  · obtain ⟨F, a, R, q, fl, rfl, RA, fo, hq, rfl⟩ := h
    have hl := RA.1.len fo
    exact q_ret (Ex.refl H) (x_l (l_I 2 (fun c => decide (vF fl c = R.s)) V.int sc_with.nd (@blkOk_by ["rule", "filling", "cell"] (defScope (top 68)) _ _ (by decide +kernel)) (x_spots T hr (x_v 0) RA) hrN (by omega)
      (fun s' H0 cl C fp x H1 hx k => ts_one (t_c (c_eqI (x_ixL (x_v 1) (x_v 2) (SqL.of (k q _ hq.1)) (fi_at hq RA.1 hx)) (x_sign T hr (x_v 0) (RA.mono k))))) (fun s' H0 cl C fp x H1 hx hp k => x_v 2)))
def rJoined : Rl := fun vs H r => ∃ (g : Addr) (F : Fl) (q : Addr) (cs : List Int), vs = [.ref g, .ref q] ∧ FlAt H g F ∧ FlOk F ∧ H q = some (.lst (cs.map V.int)) ∧ cs.length ≤ 100 ∧ cs.Nodup ∧ r = .val (.bl (joinedB F cs))
theorem sc_joined : FnScope ["floor", "cells"] ["floor", "cells"] (defScope (top 69)) := ⟨rfl, rfl, rfl, by decide +kernel, rfl, by decide +kernel, by decide +kernel⟩
theorem ok_joined (T : Top w K mg base) : DF P w K mg base 4 "are_joined" ["floor", "cells"] rJoined := by
  obtain ⟨f, fd, hm, F⟩ := T.defG "are_joined" 69
  refine ⟨f, fg_of F sc_joined (fun vs H r h => ?_) (fun _ _ _ _ _ _ us hl => match us, hl with | [_, _], _ => rfl) (fun cdv A outer s H E vs r hr h => ?_), hm, F.kp⟩
  · obtain ⟨_, _, _, _, rfl, _⟩ := h
    rfl
  · obtain ⟨g, F, q, cs, rfl, hg, fo, hq, hz, nd, rfl⟩ := h
    cases cs with
    | nil =>
      refine q_retV (Ex.refl H) (x_or2 (x_c (c_eqNil (ns := []) hr.units (x_v 1) hq (x_lst e_nil (by decide)))) (d := true) (fun z => nomatch z)) ?_
      have : joinedB F [] = true := by
        unfold joinedB
        exact decide_eq_true (p := JoinedP F []) (inst := Classical.propDecidable _) (fun a r e => nomatch e)
      rw [this]
      rfl
    | cons a r =>
      refine q_retV (Ex.refl H) (x_or2 (x_c (c_eqNil hr.units (x_v 1) hq (x_lst e_nil (by decide)))) fun _ => x_c (c_eqIG (f := fun ns => (ns.length : Int)) (x_lenP (x_call (ok_reached T) hr (e_cons (x_v 0) (e_cons (x_v 1) (e_1 (x_ixL (x_v 1) x_int (SqL.of hq) at0)))) fun H1 e1 => ⟨g, F, q, a :: r, a, rfl, e1 g _ hg, fo, e1 q _ hq, hz, rfl⟩) (T.free "len")) (x_len (x_v 1) (.inl (SqL.of hq)) (T.free "len")) (c := joinedB F (a :: r)) fun ns h => ?_)) ?_
      · rw [List.length_map]
        exact joined_len nd h.1 h.2
      · rfl
end
end Ck

set_option maxRecDepth 100000
set_option maxHeartbeats 4000000
namespace Ck
open PySem PySem.Spec PyProof.Rows L2 Evl
/-! ### a rule's own fields, in its methods -/
section
variable {X : Cx} {σ : L2.St} {H : Hp} {e : Expr} {a dx g c : Addr} {F : Fl} {R : Ru} {pos : Pos}
theorem x_rcells (T : Top X.w X.K X.mg X.base) (ho : XV X σ H e (.ref a)) (h1 : H a = some (.ins (ga X.K R.k.cls) dx (ruFs g c R.n R.s))) (hb : attributeBase e "cells" X.env (eval e X.env) = eval e X.env := by rfl) : XV X σ H (.Attribute e "cells" pos) (.ref c) :=
  x_fld ho h1 (T.rcls R.k) (T.noat R.k.cls "cells" (by cases R.k <;> decide +kernel)) ru_cells hb
theorem x_rground (T : Top X.w X.K X.mg X.base) (ho : XV X σ H e (.ref a)) (h1 : H a = some (.ins (ga X.K R.k.cls) dx (ruFs g c R.n R.s))) (hb : attributeBase e "ground" X.env (eval e X.env) = eval e X.env := by rfl) : XV X σ H (.Attribute e "ground" pos) (.ref g) :=
  x_fld ho h1 (T.rcls R.k) (T.noat R.k.cls "ground" (by cases R.k <;> decide +kernel)) ru_ground hb
theorem x_rwanted (T : Top X.w X.K X.mg X.base) (ho : XV X σ H e (.ref a)) (h1 : H a = some (.ins (ga X.K R.k.cls) dx (ruFs g c R.n R.s))) (hb : attributeBase e "wanted" X.env (eval e X.env) = eval e X.env := by rfl) : XV X σ H (.Attribute e "wanted" pos) (.int R.n) :=
  x_fld ho h1 (T.rcls R.k) (T.noat R.k.cls "wanted" (by cases R.k <;> decide +kernel)) ru_wanted hb
theorem x_rsign (T : Top X.w X.K X.mg X.base) (ho : XV X σ H e (.ref a)) (h1 : H a = some (.ins (ga X.K R.k.cls) dx (ruFs g c R.n R.s))) (hb : attributeBase e "of_sign" X.env (eval e X.env) = eval e X.env := by rfl) : XV X σ H (.Attribute e "of_sign" pos) (.int R.s) :=
  x_fld ho h1 (T.rcls R.k) (T.noat R.k.cls "of_sign" (by cases R.k <;> decide +kernel)) ru_sign hb
end
section
variable {P : Program} {w : World} {K : PySem.W.Frag} {mg : Str → Option Value} {base : Heap}
def rHolds (k : Kd) (K : PySem.W.Frag) : Rl := fun vs H r => ∃ (F : Fl) (a : Addr) (R : Ru) (q : Addr) (fl : List Int), vs = [.ref a, .ref q] ∧ RuAt K F H a R ∧ FlOk F ∧ R.k = k ∧ FiAt F H q fl ∧ r = .val (.bl (holdsB F R fl))
theorem holds_is {F : Fl} {R : Ru} {fl : List Int} {p : Prop} [i : Decidable p] (h : p ↔ holdsP F R fl) : V.bl (decide p) = V.bl (holdsB F R fl) := by
  unfold holdsB
  congr 1
  by_cases hp : p
  · rw [decide_eq_true hp, @decide_eq_true _ (Classical.propDecidable _) (h.mp hp)]
  · rw [decide_eq_false hp, @decide_eq_false _ (Classical.propDecidable _) fun z => hp (h.mpr z)]
theorem holds_yes {F : Fl} {R : Ru} {fl : List Int} (h : holdsP F R fl) : holdsB F R fl = true := by
  unfold holdsB
  exact @decide_eq_true _ (Classical.propDecidable _) h
theorem holds_no {F : Fl} {R : Ru} {fl : List Int} (h : ¬ holdsP F R fl) : holdsB F R fl = false := by
  unfold holdsB
  exact @decide_eq_false _ (Classical.propDecidable _) h
theorem all_true {α : Type} (l : List α) : l.filter (fun _ => true) = l := List.filter_eq_self.mpr (by simp)
theorem hrA {X : Cx} {H : Hp} {xs ys : List V} (h : xs = ys) : ∀ v H1, Ex H H1 → (Rt.lst xs).go H v H1 → ∃ q, v = .ref q ∧ SqL X.K H1 q ys := by
  rw [← h]
  exact hrN
theorem ok_holds1 (T : Top w K mg base) : MF P w K mg base 5 (ga K Kd.unlike.cls) "holds" ["self", "filling"] (rHolds .unlike K) := by
  obtain ⟨f, fd, M, F⟩ := T.defM "Unlike" "holds" "Unlike.holds" 63 1
  have S : FnScope ["self", "filling", "cell"] ["self", "filling"] (defScope (mth 63 1)) := ⟨rfl, rfl, rfl, by decide +kernel, rfl, by decide +kernel, by decide +kernel⟩
  refine ⟨f, fg_of F S (fun vs H r h => ?_) (fun _ _ _ _ _ _ us hl => match us, hl with | [_, _], _ => rfl) (fun cdv A outer s H E vs r hr h => ?_), M⟩
  · obtain ⟨_, _, _, _, _, rfl, _⟩ := h
    rfl
  · obtain ⟨F, a, R, q, fl, rfl, RA, fo, ek, hq, rfl⟩ := h
    obtain ⟨o, dx, g, c, h1, h2, h3⟩ := id RA
    have hz := o.len fo
    refine q_retV (Ex.refl H) (x_c (c_eqI (x_lenSet (ns := R.cells.map (vF fl)) (x_l (l_I 2 (fun _ => true) (fun x => V.int (vF fl x)) S.nd (@blkOk_by ["self", "filling", "cell"] (defScope (mth 63 1)) _ _ (by decide +kernel)) (x_rcells T (x_v 0) h1) (hrL h3) (by omega)
      (fun s' H0 cl C fp x H1 hx k => ts_nil) (fun s' H0 cl C fp x H1 hx hp k => x_ixL (x_v 1) (x_v 2) (SqL.of (k q _ hq.1)) (fi_at hq o hx)))) (hrA (by rw [all_true, List.map_map]; rfl)) (by rw [List.length_map]; omega) (T.free "len") (T.free "set")) (x_len (x_rcells T (x_v 0) h1) (.inl (SqL.of h3)) (T.free "len")))) ?_
    refine holds_is ?_
    have e1 : holdsP F R fl = (R.cells.map (vF fl)).Nodup := by unfold holdsP; rw [ek]
    rw [e1, ← unlikes_eq, List.length_map, List.length_map]
    omega
theorem ok_holds2 (T : Top w K mg base) : MF P w K mg base 5 (ga K Kd.sum.cls) "holds" ["self", "filling"] (rHolds .sum K) := by
  obtain ⟨f, fd, M, F⟩ := T.defM "Total" "holds" "Total.holds" 64 1
  have S : FnScope ["self", "filling", "cell"] ["self", "filling"] (defScope (mth 64 1)) := ⟨rfl, rfl, rfl, by decide +kernel, rfl, by decide +kernel, by decide +kernel⟩
  refine ⟨f, fg_of F S (fun vs H r h => ?_) (fun _ _ _ _ _ _ us hl => match us, hl with | [_, _], _ => rfl) (fun cdv A outer s H E vs r hr h => ?_), M⟩
  · obtain ⟨_, _, _, _, _, rfl, _⟩ := h
    rfl
  · obtain ⟨F, a, R, q, fl, rfl, RA, fo, ek, hq, rfl⟩ := h
    obtain ⟨o, dx, g, c, h1, h2, h3⟩ := id RA
    have hz := o.len fo
    refine q_retV (Ex.refl H) (x_c (c_eqI (x_sum (ns := R.cells.map (vF fl)) (x_l (l_I 2 (fun _ => true) (fun x => V.int (vF fl x)) S.nd (@blkOk_by ["self", "filling", "cell"] (defScope (mth 64 1)) _ _ (by decide +kernel)) (x_rcells T (x_v 0) h1) (hrL h3) (by omega)
      (fun s' H0 cl C fp x H1 hx k => ts_nil) (fun s' H0 cl C fp x H1 hx hp k => x_ixL (x_v 1) (x_v 2) (SqL.of (k q _ hq.1)) (fi_at hq o hx)))) (hrA (by rw [all_true, List.map_map]; rfl)) (T.free "sum")) (x_rwanted T (x_v 0) h1))) ?_
    refine holds_is ?_
    have e1 : holdsP F R fl = ((R.cells.map (vF fl)).sum = R.n) := by unfold holdsP; rw [ek]
    rw [e1]
theorem ok_holds3 (T : Top w K mg base) : MF P w K mg base 5 (ga K Kd.rising.cls) "holds" ["self", "filling"] (rHolds .rising K) := by
  obtain ⟨f, fd, M, F⟩ := T.defM "Rising" "holds" "Rising.holds" 65 1
  have S : FnScope ["self", "filling", "ahead", "cell"] ["self", "filling"] (defScope (mth 65 1)) := ⟨rfl, rfl, rfl, by decide +kernel, rfl, by decide +kernel, by decide +kernel⟩
  refine ⟨f, fg_of F S (fun vs H r h => ?_) (fun _ _ _ _ _ _ us hl => match us, hl with | [_, _], _ => rfl) (fun cdv A outer s H E vs r hr h => ?_), M⟩
  · obtain ⟨_, _, _, _, _, rfl, _⟩ := h
    rfl
  · obtain ⟨F, a, R, q, fl, rfl, RA, fo, ek, hq, rfl⟩ := h
    obtain ⟨o, dx, g, c, h1, h2, h3⟩ := id RA
    have e1 : holdsP F R fl = ∀ i x y, R.cells[i]? = some x → R.cells[i + 1]? = some y → vF fl x < vF fl y := by unfold holdsP; rw [ek]
    refine s_seq (s_forZ 2 3 S.nd (T.free "zip") (a_v (x_rcells T (x_v 0) h1) (a_cons (x_from (k := 1) (x_rcells T (x_v 0) h1) x_int (SqL.of h3)) fun v H1 k1 gg => a_nil fun H2 k2 => ?_)))
    obtain ⟨m, rfl, nm, hm⟩ := gg
    refine ⟨c, m, R.cells.map V.int, (R.cells.map V.int).drop 1, fun t σ' H' => (∃ x y, σ' = [some (.ref a), some (.ref q), x, y]) ∧ Ex H2 H' ∧ ∀ i x y, i < t → R.cells[i]? = some x → R.cells[i + 1]? = some y → vF fl x < vF fl y, rfl, SqL.of (k2 c _ (k1 c _ h3)), SqL.of (k2 m _ hm), ⟨⟨none, none, rfl⟩, Ex.refl H2, fun i _ _ hi => by omega⟩,
      fun t σ' H' z => ⟨SqL.of (z.2.1 c _ (k2 c _ (k1 c _ h3))), SqL.of (z.2.1 m _ (k2 m _ hm))⟩, ?_, ?_⟩
    · rintro t x y σ' H' H3 hx hy ⟨⟨x0, y0, rfl⟩, hE, hlt⟩ k3
      rw [List.getElem?_map] at hx
      rw [List.getElem?_drop, List.getElem?_map, Nat.add_comm 1 t] at hy
      obtain ⟨cx, hcx, rfl⟩ : ∃ cx, R.cells[t]? = some cx ∧ x = V.int cx := by
        cases e : R.cells[t]? with
        | none => rw [e] at hx; cases hx
        | some cx => rw [e] at hx; exact ⟨cx, rfl, (Option.some.inj hx).symm⟩
      obtain ⟨cy, hcy, rfl⟩ : ∃ cy, R.cells[t + 1]? = some cy ∧ y = V.int cy := by
        cases e : R.cells[t + 1]? with
        | none => rw [e] at hy; cases hy
        | some cy => rw [e] at hy; exact ⟨cy, rfl, (Option.some.inj hy).symm⟩
      have hE3 := ((k1.trans k2).trans hE).trans k3
      refine s_one (s_when (t_c (c_ge (x_ixL (x_v 1) (x_v 2) (SqL.of (hE3 q _ hq.1)) (fi_at hq o (List.mem_of_getElem? hcx))) (x_ixL (x_v 1) (x_v 3) (SqL.of (hE3 q _ hq.1)) (fi_at hq o (List.mem_of_getElem? hcy))))) (fun hb H4 k4 => ?_) (fun hb H4 k4 => ?_))
      · refine s_one (r_ret (hE3.trans k4) (x_bl.is ?_))
        rw [holds_no]
        intro z
        rw [e1] at z
        have := z t cx cy hcx hcy
        have := of_decide_eq_true hb
        omega
      · refine ⟨⟨_, _, rfl⟩, (hE.trans k3).trans k4, fun i x y hi hx hy => ?_⟩
        by_cases hit : i < t
        · exact hlt i x y hit hx hy
        · have ei : i = t := by omega
          have ex : x = cx := Option.some.inj (hx.symm.trans (by rw [ei]; exact hcx))
          have ey : y = cy := Option.some.inj (hy.symm.trans (by rw [ei]; exact hcy))
          rw [ex, ey]
          have := of_decide_eq_false hb
          omega
    · rintro σ' H' ⟨⟨x0, y0, rfl⟩, hE, hlt⟩
      refine s_one (r_ret ((k1.trans k2).trans hE) (x_bl.is ?_))
      rw [holds_yes]
      rw [e1]
      intro i x y hx hy
      refine hlt i x y ?_ hx hy
      have := (List.getElem?_eq_some_iff.mp hy).1
      rw [List.length_drop, List.length_map]
      omega
theorem ok_holds4 (T : Top w K mg base) : MF P w K mg base 5 (ga K Kd.seen.cls) "holds" ["self", "filling"] (rHolds .seen K) := by
  obtain ⟨f, fd, M, F⟩ := T.defM "Seen" "holds" "Seen.holds" 66 1
  have S : FnScope ["self", "filling", "many", "highest", "cell"] ["self", "filling"] (defScope (mth 66 1)) := ⟨rfl, rfl, rfl, by decide +kernel, rfl, by decide +kernel, by decide +kernel⟩
  refine ⟨f, fg_of F S (fun vs H r h => ?_) (fun _ _ _ _ _ _ us hl => match us, hl with | [_, _], _ => rfl) (fun cdv A outer s H E vs r hr h => ?_), M⟩
  · obtain ⟨_, _, _, _, _, rfl, _⟩ := h
    rfl
  · obtain ⟨F, a, R, q, fl, rfl, RA, fo, ek, hq, rfl⟩ := h
    obtain ⟨o, dx, g, c, h1, h2, h3⟩ := id RA
    have e1 : holdsP F R fl = (seenN 0 (R.cells.map (vF fl)) = R.n) := by unfold holdsP; rw [ek]
    refine q_setV 2 S.nd x_int fun H1 k1 => q_setV 3 S.nd x_int fun H2 k2 => ?_
    refine s_seq (s_forL 4 S.nd (x_rcells T (x_v 0) ((k1.trans k2) a _ h1)) (SqL.of ((k1.trans k2) c _ h3)) (fun i σ' H' => ∃ (m hi : Int) (x : Option V), σ' = [some (.ref a), some (.ref q), some (.int m), some (.int hi), x] ∧ Ex H H' ∧ m + seenN hi ((R.cells.drop i).map (vF fl)) = seenN 0 (R.cells.map (vF fl)))
      (fun H3 k3 => ⟨0, 0, none, rfl, (k1.trans k2).trans k3, by rw [List.drop_zero, Int.zero_add]⟩) (fun i σ' H' _ z => by obtain ⟨_, _, _, _, hE, _⟩ := z; exact SqL.of (hE c _ h3)) (fun i x σ' H' hx z => ?_) (fun σ' H' z => ?_))
    · obtain ⟨m, hi, x0, rfl, hE, hs⟩ := z
      rw [List.getElem?_map] at hx
      obtain ⟨cx, hcx, rfl⟩ : ∃ cx, R.cells[i]? = some cx ∧ x = V.int cx := by
        cases e : R.cells[i]? with
        | none => rw [e] at hx; cases hx
        | some cx => rw [e] at hx; exact ⟨cx, rfl, (Option.some.inj hx).symm⟩
      have hd : R.cells.drop i = cx :: R.cells.drop (i + 1) := by
        obtain ⟨hl, hv⟩ := List.getElem?_eq_some_iff.mp hcx
        rw [List.drop_eq_getElem_cons hl, hv]
      rw [hd, List.map_cons] at hs
      have hs2 : m + (if hi < vF fl cx then 1 + seenN (vF fl cx) ((R.cells.drop (i + 1)).map (vF fl)) else seenN hi ((R.cells.drop (i + 1)).map (vF fl))) = seenN 0 (R.cells.map (vF fl)) := hs
      refine s_one (s_when (t_c (c_gt (x_ixL (x_v 1) (x_v 4) (SqL.of (hE q _ hq.1)) (fi_at hq o (List.mem_of_getElem? hcx))) (x_v 3))) (fun hb H4 k4 => ?_) (fun hb H4 k4 => ?_))
      · refine q_setV 2 S.nd (x_add (x_v 2) x_int) fun H5 k5 => s_one (s_set 3 S.nd (x_ixL (x_v 1) (x_v 4) (SqL.of (((hE.trans k4).trans k5) q _ hq.1)) (fi_at hq o (List.mem_of_getElem? hcx))) fun v H6 k6 gg => ?_)
        cases gg
        rw [if_pos (of_decide_eq_true hb)] at hs2
        exact ⟨m + 1, vF fl cx, _, rfl, ((hE.trans k4).trans k5).trans k6, by omega⟩
      · rw [if_neg (of_decide_eq_false hb)] at hs2
        exact ⟨m, hi, _, rfl, hE.trans k4, hs2⟩
    · obtain ⟨m, hi, x0, rfl, hE, hs⟩ := z
      rw [List.length_map, List.drop_of_length_le (Nat.le_refl _)] at hs
      have hm : m = seenN 0 (R.cells.map (vF fl)) := by
        have : seenN hi (List.map (vF fl) []) = 0 := rfl
        omega
      refine s_one (r_ret hE ((x_c (c_eqI (x_v 2) (x_rwanted T (x_v 0) (hE a _ h1)))).is (holds_is ?_)))
      rw [e1, hm]
theorem ok_holds5 (T : Top w K mg base) : MF P w K mg base 5 (ga K Kd.count.cls) "holds" ["self", "filling"] (rHolds .count K) := by
  obtain ⟨f, fd, M, F⟩ := T.defM "Counted" "holds" "Counted.holds" 67 1
  have S : FnScope ["self", "filling", "cell"] ["self", "filling"] (defScope (mth 67 1)) := ⟨rfl, rfl, rfl, by decide +kernel, rfl, by decide +kernel, by decide +kernel⟩
  refine ⟨f, fg_of F S (fun vs H r h => ?_) (fun _ _ _ _ _ _ us hl => match us, hl with | [_, _], _ => rfl) (fun cdv A outer s H E vs r hr h => ?_), M⟩
  · obtain ⟨_, _, _, _, _, rfl, _⟩ := h
    rfl
  · obtain ⟨F, a, R, q, fl, rfl, RA, fo, ek, hq, rfl⟩ := h
    obtain ⟨o, dx, g, c, h1, h2, h3⟩ := id RA
    have hz := o.len fo
    refine q_retV (Ex.refl H) (x_c (c_eqI (x_lenN (x_l (l_I 2 (fun x => decide (vF fl x = R.s)) V.int S.nd (@blkOk_by ["self", "filling", "cell"] (defScope (mth 67 1)) _ _ (by decide +kernel)) (x_rcells T (x_v 0) h1) (hrL h3) (by omega)
      (fun s' H0 cl C fp x H1 hx k => ts_one (t_c (c_eqI (x_ixL (x_v 1) (x_v 2) (SqL.of (k q _ hq.1)) (fi_at hq o hx)) (x_rsign T (x_v 0) (k a _ h1))))) (fun s' H0 cl C fp x H1 hx hp k => x_v 2))) (T.free "len")) (x_rwanted T (x_v 0) h1))) ?_
    rw [List.length_map]
    refine holds_is ?_
    have e1 : holdsP F R fl = (((withF R fl).length : Int) = R.n) := by unfold holdsP; rw [ek]
    rw [e1]
    rfl
theorem RuOk.with_len {F : Fl} {R : Ru} (fo : FlOk F) (o : RuOk F R) (fl : List Int) : (withF R fl).length ≤ 16 := Nat.le_trans (List.length_filter_le _ _) (o.len fo)
theorem ok_holds6 (T : Top w K mg base) : MF P w K mg base 5 (ga K Kd.joined.cls) "holds" ["self", "filling"] (rHolds .joined K) := by
  obtain ⟨f, fd, M, F⟩ := T.defM "Joined" "holds" "Joined.holds" 70 1
  have S : FnScope ["self", "filling"] ["self", "filling"] (defScope (mth 70 1)) := ⟨rfl, rfl, rfl, by decide +kernel, rfl, by decide +kernel, by decide +kernel⟩
  refine ⟨f, fg_of F S (fun vs H r h => ?_) (fun _ _ _ _ _ _ us hl => match us, hl with | [_, _], _ => rfl) (fun cdv A outer s H E vs r hr h => ?_), M⟩
  · obtain ⟨_, _, _, _, _, rfl, _⟩ := h
    rfl
  · obtain ⟨F, a, R, q, fl, rfl, RA, fo, ek, hq, rfl⟩ := h
    obtain ⟨o, dx, g, c, h1, h2, h3⟩ := id RA
    have hz := o.with_len fo fl
    refine q_retV (v := .bl (joinedB F (withF R fl))) (x := .bl (holdsB F R fl)) (Ex.refl H) (x_callA (ok_joined T) hr (a_v (x_rground T (x_v 0) h1) (a_cons (x_call (ok_with T) (hr.mono (by decide)) (e_cons (x_v 0) (e_1 (x_v 1))) fun H1 k1 => ⟨F, a, R, q, fl, rfl, RA.mono k1, fo, hq.mono k1, rfl⟩) fun v H1 k1 gg => a_nil fun H2 k2 => ?_))) ?_
    · obtain ⟨l, rfl, _, hl⟩ := gg
      exact ⟨_, ⟨g, F, l, withF R fl, rfl, k2 g _ (k1 g _ h2), fo, k2 l _ hl, by omega, o.nd.sublist List.filter_sublist, rfl⟩, fun _ _ _ z => z⟩
    · have e1 : holdsP F R fl = JoinedP F (withF R fl) := by unfold holdsP; rw [ek]
      unfold joinedB holdsB
      exact congrArg V.bl (decide_eq_decide.mpr (by rw [e1]))
theorem sq_in {F : Fl} (fo : FlOk F) {q : List Int} (h : q ∈ squaresF F) : q.length = 4 ∧ ∀ c ∈ q, 0 ≤ c ∧ c < F.h * F.w := by
  unfold squaresF at h
  obtain ⟨c, hc, rfl⟩ := List.mem_map.mp h
  obtain ⟨h1, h2⟩ := List.mem_filter.mp hc
  unfold cellsF at h1
  obtain ⟨i, hi, rfl⟩ := List.mem_map.mp h1
  have hlt := List.mem_range.mp hi
  unfold isCorner at h2
  obtain ⟨a, b⟩ := Bool.and_eq_true_iff.mp h2
  have a := of_decide_eq_true a
  have b := of_decide_eq_true b
  have w1 := fo.w1
  have d := Int.emod_add_mul_ediv (i : Int) F.w
  have m0 := Int.emod_nonneg (i : Int) (by omega : F.w ≠ 0)
  have m1 := Int.emod_lt_of_pos (i : Int) (by omega : 0 < F.w)
  have q0 : 0 ≤ (i : Int) / F.w := Int.ediv_nonneg (by omega) (by omega)
  have key : (i : Int) + F.w + 1 < F.h * F.w := by
    have : ((i : Int) / F.w + 2) * F.w ≤ F.h * F.w := Int.mul_le_mul_of_nonneg_right (by omega) (by omega)
    rw [Int.add_mul] at this
    have e : (i : Int) / F.w * F.w = F.w * ((i : Int) / F.w) := Int.mul_comm _ _
    omega
  refine ⟨rfl, fun c hc => ?_⟩
  unfold squareF at hc
  simp only [List.mem_cons, List.not_mem_nil, or_false] at hc
  rcases hc with rfl | rfl | rfl | rfl <;> omega
theorem fi_at2 {F : Fl} {H : Hp} {q : Addr} {fl : List Int} (h : FiAt F H q fl) {c : Int} (hc : 0 ≤ c ∧ c < F.h * F.w) : atI (fl.map V.int) c = some (V.int (vF fl c)) := by
  have e : c = ((c.toNat : Nat) : Int) := by omega
  have z := at_ints (ns := fl) (c := c.toNat) (by have := h.2; omega)
  rw [← e] at z
  exact z
theorem paired_at {α β : Type} {F : α → β → Prop} : ∀ {l₁ : List α} {l₂ : List β} {i : Nat} {a : α}, Paired F l₁ l₂ → l₁[i]? = some a → ∃ b, l₂[i]? = some b ∧ F a b
  | _, _, _, _, .nil, e => by simp at e
  | _, _, 0, _, .cons r _, e => by simp at e; subst e; exact ⟨_, rfl, r⟩
  | _, _, i + 1, _, .cons _ t, e => by
    obtain ⟨b, h1, h2⟩ := paired_at (i := i) t (by simpa using e)
    exact ⟨b, by simpa using h1, h2⟩
theorem ok_holds7 (T : Top w K mg base) : MF P w K mg base 5 (ga K Kd.nosquare.cls) "holds" ["self", "filling"] (rHolds .nosquare K) := by
  obtain ⟨f, fd, M, F⟩ := T.defM "NoSquare" "holds" "NoSquare.holds" 71 1
  have S : FnScope ["self", "filling", "square", "cell"] ["self", "filling"] (defScope (mth 71 1)) := ⟨rfl, rfl, rfl, by decide +kernel, rfl, by decide +kernel, by decide +kernel⟩
  refine ⟨f, fg_of F S (fun vs H r h => ?_) (fun _ _ _ _ _ _ us hl => match us, hl with | [_, _], _ => rfl) (fun cdv A outer s H E vs r hr h => ?_), M⟩
  · obtain ⟨_, _, _, _, _, rfl, _⟩ := h
    rfl
  · obtain ⟨F, a, R, q, fl, rfl, RA, fo, ek, hq, rfl⟩ := h
    obtain ⟨o, dx, g, c, h1, h2, h3⟩ := id RA
    have e1 : holdsP F R fl = ∀ q ∈ squaresF F, ¬ (q.filter fun c => decide (vF fl c = R.s)).length = 4 := by unfold holdsP; rw [ek]
    refine s_seq (s_forG 2 S.nd (x_call (ok_squares T) (hr.mono (by decide)) (e_1 (x_rground T (x_v 0) h1)) fun H1 k1 => ⟨g, F, rfl, k1 g _ h2, fo, rfl⟩) fun v H1 k1 gg => ?_)
    obtain ⟨l, rfl, ps, hl, hp⟩ := gg
    refine ⟨l, ps.map V.ref, fun i σ' H' => (∃ x, σ' = [some (.ref a), some (.ref q), x, none]) ∧ Ex H1 H' ∧ ∀ j sq, j < i → (squaresF F)[j]? = some sq → ¬ (sq.filter fun c => decide (vF fl c = R.s)).length = 4, rfl, SqL.of hl, ⟨⟨none, rfl⟩, Ex.refl H1, fun j _ hj => by omega⟩, fun i σ' H' z => SqL.of (z.2.1 l _ hl), ?_, ?_⟩
    · rintro i x σ' H' hx ⟨⟨x0, rfl⟩, hE, hno⟩
      rw [List.getElem?_map] at hx
      obtain ⟨p, hpi, rfl⟩ : ∃ p, ps[i]? = some p ∧ x = V.ref p := by
        cases e : ps[i]? with
        | none => rw [e] at hx; cases hx
        | some p => rw [e] at hx; exact ⟨p, rfl, (Option.some.inj hx).symm⟩
      obtain ⟨sq, hsq, hps⟩ := paired_at hp hpi
      obtain ⟨l4, hin⟩ := sq_in fo (List.mem_of_getElem? hsq)
      refine s_one (s_when (t_c (c_eqI (x_lenN (x_l (l_I 3 (fun c => decide (vF fl c = R.s)) V.int S.nd (@blkOk_by ["self", "filling", "square", "cell"] (defScope (mth 71 1)) _ _ (by decide +kernel)) (x_v 2) (hrL (hE p _ hps)) (by omega)
        (fun s' H0 cl C fp x H2 hx k => ts_one (t_c (c_eqI (x_ixL (x_v 1) (x_v 3) (SqL.of ((hE.trans k) q _ (k1 q _ hq.1))) (fi_at2 hq (hin x hx))) (x_rsign T (x_v 0) ((k1.trans (hE.trans k)) a _ h1))))) (fun s' H0 cl C fp x H2 hx hp k => x_v 3))) (T.free "len")) x_int)) (fun hb H2 k2 => ?_) (fun hb H2 k2 => ?_))
      · refine s_one (r_ret ((k1.trans hE).trans k2) (x_bl.is ?_))
        rw [holds_no]
        intro z
        rw [e1] at z
        refine z sq (List.mem_of_getElem? hsq) ?_
        have := of_decide_eq_true hb
        rw [List.length_map] at this
        omega
      · refine ⟨⟨_, rfl⟩, hE.trans k2, fun j sq' hj hsj => ?_⟩
        by_cases hji : j < i
        · exact hno j sq' hji hsj
        · have ej : j = i := by omega
          have es : sq' = sq := Option.some.inj (hsj.symm.trans (by rw [ej]; exact hsq))
          have := of_decide_eq_false hb
          rw [List.length_map] at this
          rw [es]
          omega
    · rintro σ' H' ⟨⟨x0, rfl⟩, hE, hno⟩
      refine s_one (r_ret (k1.trans hE) (x_bl.is ?_))
      rw [holds_yes]
      rw [e1]
      intro sq hsq
      obtain ⟨j, hj⟩ := List.mem_iff_getElem?.mp hsq
      refine hno j sq ?_ hj
      rw [List.length_map, Paired.length hp]
      exact (List.getElem?_eq_some_iff.mp hj).1
theorem beside_len (F : Fl) (c : Int) : (besideF F c).length ≤ 4 := by
  unfold besideF
  simp only [List.length_append]
  split <;> split <;> split <;> split <;> simp
theorem ok_holds8 (T : Top w K mg base) : MF P w K mg base 5 (ga K Kd.ring.cls) "holds" ["self", "filling"] (rHolds .ring K) := by
  obtain ⟨f, fd, M, F⟩ := T.defM "Ring" "holds" "Ring.holds" 72 1
  have S : FnScope ["self", "filling", "found", "cell", "other"] ["self", "filling"] (defScope (mth 72 1)) := ⟨rfl, rfl, rfl, by decide +kernel, rfl, by decide +kernel, by decide +kernel⟩
  refine ⟨f, fg_of F S (fun vs H r h => ?_) (fun _ _ _ _ _ _ us hl => match us, hl with | [_, _], _ => rfl) (fun cdv A outer s H E vs r hr h => ?_), M⟩
  · obtain ⟨_, _, _, _, _, rfl, _⟩ := h
    rfl
  · obtain ⟨F, a, R, q, fl, rfl, RA, fo, ek, hq, rfl⟩ := h
    obtain ⟨o, dx, g, c, h1, h2, h3⟩ := id RA
    have e1 : holdsP F R fl = ((∀ c ∈ withF R fl, ((besideF F c).filter fun x => decide (x ∈ withF R fl)).length = 2) ∧ JoinedP F (withF R fl)) := by unfold holdsP; rw [ek]
    refine q_set 2 S.nd (x_call (ok_with T) (hr.mono (by decide)) (e_cons (x_v 0) (e_1 (x_v 1))) fun H1 k1 => ⟨F, a, R, q, fl, rfl, RA.mono k1, fo, hq.mono k1, rfl⟩) fun v H1 k1 gg => ?_
    obtain ⟨l, rfl, _, hl⟩ := gg
    refine s_seq (s_forL 3 S.nd (x_v 2) (SqL.of hl) (fun i σ' H' => (∃ x, σ' = [some (.ref a), some (.ref q), some (.ref l), x, none]) ∧ Ex H1 H' ∧ ∀ j c, j < i → (withF R fl)[j]? = some c → ((besideF F c).filter fun x => decide (x ∈ withF R fl)).length = 2)
      (fun H2 k2 => ⟨⟨none, rfl⟩, k2, fun j _ hj => by omega⟩) (fun i σ' H' _ z => SqL.of (z.2.1 l _ hl)) ?_ ?_)
    · rintro i x σ' H' hx ⟨⟨x0, rfl⟩, hE, hno⟩
      rw [List.getElem?_map] at hx
      obtain ⟨cx, hcx, rfl⟩ : ∃ p, (withF R fl)[i]? = some p ∧ x = V.int p := by
        cases e : (withF R fl)[i]? with
        | none => rw [e] at hx; cases hx
        | some p => rw [e] at hx; exact ⟨p, rfl, (Option.some.inj hx).symm⟩
      have hbl := beside_len F cx
      refine s_one (s_when (t_c (c_neI (x_lenN (x_l (l_I 4 (fun x => decide (x ∈ withF R fl)) V.int S.nd (@blkOk_by ["self", "filling", "found", "cell", "other"] (defScope (mth 72 1)) _ _ (by decide +kernel)) (x_call (ok_beside T) (hr.mono (by decide)) (e_cons (x_rground T (x_v 0) (hE a _ (k1 a _ h1))) (e_1 (x_v 3))) fun H2 k2 => ⟨g, F, cx, rfl, k2 g _ (hE g _ (k1 g _ h2)), fo, rfl⟩) hrN (by omega)
        (fun s' H0 cl C fp x H2 hx k => ts_one (t_c (c_inI (x_v 4) (x_v 2) (k l _ (hE l _ hl))))) (fun s' H0 cl C fp x H2 hx hp k => x_v 4))) (T.free "len")) x_int)) (fun hb H2 k2 => ?_) (fun hb H2 k2 => ?_))
      · refine s_one (r_ret ((k1.trans hE).trans k2) (x_bl.is ?_))
        rw [holds_no]
        intro z
        rw [e1] at z
        have := z.1 cx (List.mem_of_getElem? hcx)
        rw [List.length_map, this] at hb
        exact absurd hb (by decide)
      · refine ⟨⟨_, rfl⟩, hE.trans k2, fun j c' hj hcj => ?_⟩
        by_cases hji : j < i
        · exact hno j c' hji hcj
        · have ej : j = i := by omega
          have es : c' = cx := Option.some.inj (hcj.symm.trans (by rw [ej]; exact hcx))
          rw [List.length_map] at hb
          rw [es]
          cases hd : decide ((((besideF F cx).filter fun x => decide (x ∈ withF R fl)).length : Int) = 2) with
          | true => have := of_decide_eq_true hd; omega
          | false => rw [hd] at hb; cases hb
    · rintro σ' H' ⟨⟨x0, rfl⟩, hE, hno⟩
      have hz := o.with_len fo fl
      refine s_one (r_ret (k1.trans hE) ((x_call (ok_joined T) hr (e_cons (x_rground T (x_v 0) (hE a _ (k1 a _ h1))) (e_1 (x_v 2))) fun H2 k2 => ⟨g, F, l, withF R fl, rfl, k2 g _ (hE g _ (k1 g _ h2)), fo, k2 l _ (hE l _ hl), by omega, o.nd.sublist List.filter_sublist, rfl⟩).is ?_))
      unfold joinedB holdsB
      refine congrArg V.bl (decide_eq_decide.mpr ?_)
      rw [e1]
      refine ⟨fun z => ⟨fun c hc => ?_, z⟩, fun z => z.2⟩
      obtain ⟨j, hj⟩ := List.mem_iff_getElem?.mp hc
      exact hno j c (by rw [List.length_map]; exact (List.getElem?_eq_some_iff.mp hj).1) hj
theorem ok_holds (T : Top w K mg base) (k : Kd) : MF P w K mg base 5 (ga K k.cls) "holds" ["self", "filling"] (rHolds k K) := by
  cases k
  · exact ok_holds1 T
  · exact ok_holds2 T
  · exact ok_holds3 T
  · exact ok_holds4 T
  · exact ok_holds5 T
  · exact ok_holds6 T
  · exact ok_holds7 T
  · exact ok_holds8 T
end
section
variable {X : Cx} {σ : L2.St} {H : Hp} {o e : Expr} {a q : Addr} {F : Fl} {R : Ru} {fl : List Int} {pos apos : Pos} {k : Nat}
theorem x_holds (T : Top X.w X.K X.mg X.base) (hr : Room k X.A) (ho : XV X σ H o (.ref a)) (he : XV X σ H e (.ref q)) (RA : RuAt X.K F H a R) (fo : FlOk F) (hq : FiAt F H q fl) (hk : 5 ≤ k := by decide) {pl : Sem Bool}
    (hst : starEach [e] X.env = (false, eval e X.env) :: starEach [] X.env := by rfl) (hpl : (backTo pos (starEach [] X.env)).any (·.1) = false := by rfl)
    (ht : eval (.Call (.Attribute o "holds" apos) [e] [] pos) X.env = (do
      let ov ← eval o X.env
      standAt apos.atName
      let (f, first) ← holding [ov] (getMethod ov "holds" pl)
      callWith pos f first (backTo pos (starEach [e] X.env)) (backToKw pos (keywordEach [] X.env))) := by rfl) : XV X σ H (.Call (.Attribute o "holds" apos) [e] [] pos) (.bl (holdsB F R fl)) := by
  obtain ⟨ok, dx, g, c, h1, h2, h3⟩ := id RA
  exact x_meth (ok_holds T R.k) (T.rcls R.k) (hr.mono hk) ho h1 rfl (e_1 he hst) (fun H1 e1 => ⟨F, a, R, q, fl, rfl, RA.mono e1, fo, rfl, hq.mono e1, rfl⟩) hst hpl ht
end
end Ck

set_option maxRecDepth 100000
set_option maxHeartbeats 4000000
namespace Ck
open PySem PySem.Spec PyProof.Rows L2 Evl
/-! ### puzzles -/
structure PuD where
  F : Fl
  rules : List Ru
  clues : List Int
def puFs (g rl cl : Addr) : List (Str × V) := [("ground", .ref g), ("rule_list", .ref rl), ("clue_list", .ref cl)]
theorem pu_ground {g rl cl : Addr} : (puFs g rl cl).lookup ("ground" : Str) = some (V.ref g) := rfl
theorem pu_rules {g rl cl : Addr} : (puFs g rl cl).lookup ("rule_list" : Str) = some (V.ref rl) := rfl
theorem pu_clues {g rl cl : Addr} : (puFs g rl cl).lookup ("clue_list" : Str) = some (V.ref cl) := rfl
structure PuOk (D : PuD) : Prop where
  fo : FlOk D.F
  cl : (D.clues.length : Int) = D.F.h * D.F.w
  rl : D.rules.length ≤ 12
/-- the puzzle D stands at a -/
def PuAt (K : PySem.W.Frag) (H : Hp) (a : Addr) (D : PuD) : Prop := PuOk D ∧ ∃ (dx g rl cl : Addr) (ps : List Addr), H a = some (.ins (ga K "Puzzle") dx (puFs g rl cl)) ∧ FlAt H g D.F ∧ H rl = some (.lst (ps.map V.ref)) ∧ Paired (fun p R => RuAt K D.F H p R) ps D.rules ∧ H cl = some (.lst (D.clues.map V.int))
theorem PuAt.mono {K : PySem.W.Frag} {H H' : Hp} {a : Addr} {D : PuD} (h : PuAt K H a D) (e : Ex H H') : PuAt K H' a D := by
  obtain ⟨o, dx, g, rl, cl, ps, h1, h2, h3, h4, h5⟩ := h
  exact ⟨o, dx, g, rl, cl, ps, e a _ h1, e g _ h2, e rl _ h3, Paired.mapP h4 fun p R z => z.mono e, e cl _ h5⟩
section
variable {P : Program} {w : World} {K : PySem.W.Frag} {mg : Str → Option Value} {base : Heap}
def rPu (r : PuD → Rt) (K : PySem.W.Frag) : Rl := fun vs H r' => ∃ (a : Addr) (D : PuD), vs = [.ref a] ∧ PuAt K H a D ∧ r' = r D
theorem pcls (T : Top w K mg base) : Cls K (ga K "Puzzle") := T.cls _
theorem ok_place (T : Top w K mg base) : MF P w K mg base 1 (ga K "Puzzle") "place" ["self"] (rPu (fun D => .gen fun v H => ∃ g, v = .ref g ∧ FlAt H g D.F) K) := by
  obtain ⟨f, fd, M, F⟩ := T.defM "Puzzle" "place" "Puzzle.place" 83 1
  refine ⟨f, fg_of F (sc_self (.inl rfl) rfl rfl rfl (by decide +kernel)) (fun vs H r h => ?_) (fun _ _ _ _ _ _ us hl => match us, hl with | [_], _ => rfl) (fun cdv A outer s H E vs r hr h => ?_), M⟩
  · obtain ⟨_, _, rfl, _⟩ := h
    rfl
  · obtain ⟨a, D, rfl, ⟨o, dx, g, rl, cl, ps, h1, h2, h3, h4, h5⟩, rfl⟩ := h
    exact q_ret (r := .gen fun v H => ∃ g, v = .ref g ∧ FlAt H g D.F) (Ex.refl H) ((x_fld (x_v 0) h1 (T.cls _) (T.noat _ _) pu_ground).weak fun v H1 H2 k1 k2 gg => by
      cases gg
      exact ⟨g, rfl, k2 g _ (k1 g _ h2)⟩)
theorem ok_many2 (T : Top w K mg base) : MF P w K mg base 2 (ga K "Puzzle") "many" ["self"] (rPu (fun D => .val (.int (D.F.h * D.F.w))) K) := by
  obtain ⟨f, fd, M, F⟩ := T.defM "Puzzle" "many" "Puzzle.many" 83 2
  refine ⟨f, fg_of F (sc_self (.inl rfl) rfl rfl rfl (by decide +kernel)) (fun vs H r h => ?_) (fun _ _ _ _ _ _ us hl => match us, hl with | [_], _ => rfl) (fun cdv A outer s H E vs r hr h => ?_), M⟩
  · obtain ⟨_, _, rfl, _⟩ := h
    rfl
  · obtain ⟨a, D, rfl, ⟨o, dx, g, rl, cl, ps, h1, h2, h3, h4, h5⟩, rfl⟩ := h
    exact q_ret (Ex.refl H) (x_call (ok_many T) hr (e_1 (x_fld (x_v 0) h1 (T.cls _) (T.noat _ _) pu_ground)) fun H1 k1 => ⟨g, D.F, rfl, k1 g _ h2, o.fo, rfl⟩)
theorem ok_manyRules (T : Top w K mg base) : MF P w K mg base 1 (ga K "Puzzle") "many_rules" ["self"] (rPu (fun D => .val (.int (D.rules.length : Nat))) K) := by
  obtain ⟨f, fd, M, F⟩ := T.defM "Puzzle" "many_rules" "Puzzle.many_rules" 83 7
  refine ⟨f, fg_of F (sc_self (.inl rfl) rfl rfl rfl (by decide +kernel)) (fun vs H r h => ?_) (fun _ _ _ _ _ _ us hl => match us, hl with | [_], _ => rfl) (fun cdv A outer s H E vs r hr h => ?_), M⟩
  · obtain ⟨_, _, rfl, _⟩ := h
    rfl
  · obtain ⟨a, D, rfl, ⟨o, dx, g, rl, cl, ps, h1, h2, h3, h4, h5⟩, rfl⟩ := h
    refine q_retV (Ex.refl H) (x_len (x_fld (x_v 0) h1 (T.cls _) (T.noat _ _) pu_rules) (.inl (SqL.of h3)) (T.free "len")) ?_
    rw [List.length_map, Paired.length h4]
def rRuleAt (K : PySem.W.Frag) : Rl := fun vs H r => ∃ (a : Addr) (D : PuD) (n : Nat) (R : Ru), vs = [.ref a, .int n] ∧ PuAt K H a D ∧ D.rules[n]? = some R ∧ r = .gen fun v H' => ∃ p, v = .ref p ∧ RuAt K D.F H' p R
theorem paired_at' {α β : Type} {F : α → β → Prop} : ∀ {l₁ : List α} {l₂ : List β} {i : Nat} {b : β}, Paired F l₁ l₂ → l₂[i]? = some b → ∃ a, l₁[i]? = some a ∧ F a b
  | _, _, _, _, .nil, e => by simp at e
  | _, _, 0, _, .cons r _, e => by simp at e; subst e; exact ⟨_, rfl, r⟩
  | _, _, i + 1, _, .cons _ t, e => by
    obtain ⟨b, h1, h2⟩ := paired_at' (i := i) t (by simpa using e)
    exact ⟨b, by simpa using h1, h2⟩
theorem at_map {α : Type} {f : α → V} {l : List α} {i : Nat} {x : α} (h : l[i]? = some x) : atI (l.map f) (i : Int) = some (f x) := by
  refine atI_of (by omega) ?_
  rw [Int.toNat_natCast, List.getElem?_map, h]
  rfl
theorem ok_ruleAt (T : Top w K mg base) : MF P w K mg base 1 (ga K "Puzzle") "rule_at" ["self", "number"] (rRuleAt K) := by
  obtain ⟨f, fd, M, F⟩ := T.defM "Puzzle" "rule_at" "Puzzle.rule_at" 83 6
  have S : FnScope ["self", "number"] ["self", "number"] (defScope (mth 83 6)) := ⟨rfl, rfl, rfl, by decide +kernel, rfl, by decide +kernel, by decide +kernel⟩
  refine ⟨f, fg_of F S (fun vs H r h => ?_) (fun _ _ _ _ _ _ us hl => match us, hl with | [_, _], _ => rfl) (fun cdv A outer s H E vs r hr h => ?_), M⟩
  · obtain ⟨_, _, _, _, rfl, _⟩ := h
    rfl
  · obtain ⟨a, D, n, R, rfl, ⟨o, dx, g, rl, cl, ps, h1, h2, h3, h4, h5⟩, hR, rfl⟩ := h
    obtain ⟨p, hp, RA⟩ := paired_at' h4 hR
    exact q_ret (r := .gen fun v H' => ∃ p, v = .ref p ∧ RuAt K D.F H' p R) (Ex.refl H) ((x_ixL (x_fld (x_v 0) h1 (T.cls _) (T.noat _ _) pu_rules) (x_v 1) (SqL.of h3) (at_map hp)).weak fun v H1 H2 k1 k2 gg => by
      cases gg
      exact ⟨p, rfl, RA.mono (k1.trans k2)⟩)
def rClueAt (K : PySem.W.Frag) : Rl := fun vs H r => ∃ (a : Addr) (D : PuD) (c : Int), vs = [.ref a, .int c] ∧ PuAt K H a D ∧ (0 ≤ c ∧ c < D.F.h * D.F.w) ∧ r = .val (.int (vF D.clues c))
theorem ok_clueAt (T : Top w K mg base) : MF P w K mg base 1 (ga K "Puzzle") "clue_at" ["self", "cell"] (rClueAt K) := by
  obtain ⟨f, fd, M, F⟩ := T.defM "Puzzle" "clue_at" "Puzzle.clue_at" 83 8
  have S : FnScope ["self", "cell"] ["self", "cell"] (defScope (mth 83 8)) := ⟨rfl, rfl, rfl, by decide +kernel, rfl, by decide +kernel, by decide +kernel⟩
  refine ⟨f, fg_of F S (fun vs H r h => ?_) (fun _ _ _ _ _ _ us hl => match us, hl with | [_, _], _ => rfl) (fun cdv A outer s H E vs r hr h => ?_), M⟩
  · obtain ⟨_, _, _, rfl, _⟩ := h
    rfl
  · obtain ⟨a, D, c, rfl, ⟨o, dx, g, rl, cl, ps, h1, h2, h3, h4, h5⟩, hc, rfl⟩ := h
    exact q_ret (Ex.refl H) (x_ixL (x_fld (x_v 0) h1 (T.cls _) (T.noat _ _) pu_clues) (x_v 1) (SqL.of h5) (fi_at2 (q := cl) ⟨h5, o.cl⟩ hc))
end
/-! ### where they are called -/
section
variable {X : Cx} {σ : L2.St} {H : Hp} {o e : Expr} {a : Addr} {D : PuD} {pos apos : Pos} {k : Nat}
theorem x_place (T : Top X.w X.K X.mg X.base) (hr : Room k X.A) (ho : XV X σ H o (.ref a)) (PA : PuAt X.K H a D) (hk : 1 ≤ k := by decide) {pl : Sem Bool}
    (ht : eval (.Call (.Attribute o "place" apos) [] [] pos) X.env = (do
      let ov ← eval o X.env
      standAt apos.atName
      let (f, first) ← holding [ov] (getMethod ov "place" pl)
      callWith pos f first (backTo pos (starEach [] X.env)) (backToKw pos (keywordEach [] X.env))) := by rfl) : XG X σ H (.Call (.Attribute o "place" apos) [] [] pos) (.gen fun v H => ∃ g, v = .ref g ∧ FlAt H g D.F) := by
  obtain ⟨ok, dx, g, rl, cl, ps, h1, _⟩ := id PA
  exact x_meth0 (ok_place T) (T.cls _) (hr.mono hk) ho h1 rfl (fun H1 e1 => ⟨a, D, rfl, PA.mono e1, rfl⟩) ht
theorem x_many (T : Top X.w X.K X.mg X.base) (hr : Room k X.A) (ho : XV X σ H o (.ref a)) (PA : PuAt X.K H a D) (hk : 2 ≤ k := by decide) {pl : Sem Bool}
    (ht : eval (.Call (.Attribute o "many" apos) [] [] pos) X.env = (do
      let ov ← eval o X.env
      standAt apos.atName
      let (f, first) ← holding [ov] (getMethod ov "many" pl)
      callWith pos f first (backTo pos (starEach [] X.env)) (backToKw pos (keywordEach [] X.env))) := by rfl) : XV X σ H (.Call (.Attribute o "many" apos) [] [] pos) (.int (D.F.h * D.F.w)) := by
  obtain ⟨ok, dx, g, rl, cl, ps, h1, _⟩ := id PA
  exact x_meth0 (ok_many2 T) (T.cls _) (hr.mono hk) ho h1 rfl (fun H1 e1 => ⟨a, D, rfl, PA.mono e1, rfl⟩) ht
theorem x_manyRules (T : Top X.w X.K X.mg X.base) (hr : Room k X.A) (ho : XV X σ H o (.ref a)) (PA : PuAt X.K H a D) (hk : 1 ≤ k := by decide) {pl : Sem Bool}
    (ht : eval (.Call (.Attribute o "many_rules" apos) [] [] pos) X.env = (do
      let ov ← eval o X.env
      standAt apos.atName
      let (f, first) ← holding [ov] (getMethod ov "many_rules" pl)
      callWith pos f first (backTo pos (starEach [] X.env)) (backToKw pos (keywordEach [] X.env))) := by rfl) : XV X σ H (.Call (.Attribute o "many_rules" apos) [] [] pos) (.int (D.rules.length : Nat)) := by
  obtain ⟨ok, dx, g, rl, cl, ps, h1, _⟩ := id PA
  exact x_meth0 (ok_manyRules T) (T.cls _) (hr.mono hk) ho h1 rfl (fun H1 e1 => ⟨a, D, rfl, PA.mono e1, rfl⟩) ht
theorem x_ruleAt {n : Nat} {R : Ru} (T : Top X.w X.K X.mg X.base) (hr : Room k X.A) (ho : XV X σ H o (.ref a)) (he : XV X σ H e (.int n)) (PA : PuAt X.K H a D) (hR : D.rules[n]? = some R) (hk : 1 ≤ k := by decide) {pl : Sem Bool}
    (hst : starEach [e] X.env = (false, eval e X.env) :: starEach [] X.env := by rfl) (hpl : (backTo pos (starEach [] X.env)).any (·.1) = false := by rfl)
    (ht : eval (.Call (.Attribute o "rule_at" apos) [e] [] pos) X.env = (do
      let ov ← eval o X.env
      standAt apos.atName
      let (f, first) ← holding [ov] (getMethod ov "rule_at" pl)
      callWith pos f first (backTo pos (starEach [e] X.env)) (backToKw pos (keywordEach [] X.env))) := by rfl) : XG X σ H (.Call (.Attribute o "rule_at" apos) [e] [] pos) (.gen fun v H' => ∃ p, v = .ref p ∧ RuAt X.K D.F H' p R) := by
  obtain ⟨ok, dx, g, rl, cl, ps, h1, _⟩ := id PA
  exact x_meth (ok_ruleAt T) (T.cls _) (hr.mono hk) ho h1 rfl (e_1 he hst) (fun H1 e1 => ⟨a, D, n, R, rfl, PA.mono e1, hR, rfl⟩) hst hpl ht
theorem x_clueAt {c : Int} (T : Top X.w X.K X.mg X.base) (hr : Room k X.A) (ho : XV X σ H o (.ref a)) (he : XV X σ H e (.int c)) (PA : PuAt X.K H a D) (hc : 0 ≤ c ∧ c < D.F.h * D.F.w) (hk : 1 ≤ k := by decide) {pl : Sem Bool}
    (hst : starEach [e] X.env = (false, eval e X.env) :: starEach [] X.env := by rfl) (hpl : (backTo pos (starEach [] X.env)).any (·.1) = false := by rfl)
    (ht : eval (.Call (.Attribute o "clue_at" apos) [e] [] pos) X.env = (do
      let ov ← eval o X.env
      standAt apos.atName
      let (f, first) ← holding [ov] (getMethod ov "clue_at" pl)
      callWith pos f first (backTo pos (starEach [e] X.env)) (backToKw pos (keywordEach [] X.env))) := by rfl) : XV X σ H (.Call (.Attribute o "clue_at" apos) [e] [] pos) (.int (vF D.clues c)) := by
  obtain ⟨ok, dx, g, rl, cl, ps, h1, _⟩ := id PA
  exact x_meth (ok_clueAt T) (T.cls _) (hr.mono hk) ho h1 rfl (e_1 he hst) (fun H1 e1 => ⟨a, D, c, rfl, PA.mono e1, hc, rfl⟩) hst hpl ht
end
end Ck

set_option maxRecDepth 100000
set_option maxHeartbeats 4000000
namespace Ck
open PySem PySem.Spec PyProof.Rows L2 Evl
/-! ### kinds of thoughts, thoughts, masks -/
inductive Kn where
  | clue | only | place | count | step | sum | square | reach | turn | pair | ways
  deriving DecidableEq
def Kn.cls : Kn → Str
  | .clue => "Clue"
  | .only => "Only"
  | .place => "Place"
  | .count => "Count"
  | .step => "Step"
  | .sum => "Sums"
  | .square => "Square"
  | .reach => "Reach"
  | .turn => "Turn"
  | .pair => "Pair"
  | .ways => "Ways"
def Kn.word : Kn → Str
  | .clue => "clue"
  | .only => "only"
  | .place => "place"
  | .count => "count"
  | .step => "step"
  | .sum => "sum"
  | .square => "square"
  | .reach => "reach"
  | .turn => "turn"
  | .pair => "pair"
  | .ways => "ways"
def KnAt (K : PySem.W.Frag) (H : Hp) (a : Addr) (κ : Kn) : Prop := ∃ dx, H a = some (.ins (ga K κ.cls) dx [])
theorem KnAt.mono {K : PySem.W.Frag} {H H' : Hp} {a : Addr} {κ : Kn} (h : KnAt K H a κ) (e : Ex H H') : KnAt K H' a κ := by
  obtain ⟨dx, h⟩ := h
  exact ⟨dx, e a _ h⟩
structure Th where
  n : Int
  c : Int
  s : Int
  more : List Int
structure ThOk (F : Fl) (t : Th) : Prop where
  c0 : 0 ≤ t.c
  c1 : t.c < F.h * F.w
  s1 : 1 ≤ t.s
  s6 : t.s ≤ 6
  m : t.more.length ≤ 2
/-- the thought t of the kind with this word, a tuple at a -/
def ThAt (H : Hp) (a m : Addr) (wd : Str) (t : Th) : Prop := H a = some (.tup [.str wd, .int t.n, .int t.c, .int t.s, .ref m]) ∧ H m = some (.lst (t.more.map V.int))
theorem ThAt.mono {H H' : Hp} {a m : Addr} {wd : Str} {t : Th} (h : ThAt H a m wd t) (e : Ex H H') : ThAt H' a m wd t := ⟨e a _ h.1, e m _ h.2⟩
/-- masks of the floor at q -/
def MaAt (F : Fl) (H : Hp) (q : Addr) (ms : List Int) : Prop := H q = some (.lst (ms.map V.int)) ∧ (ms.length : Int) = F.h * F.w ∧ ∀ m ∈ ms, 0 ≤ m ∧ m < 64
theorem MaAt.mono {F : Fl} {H H' : Hp} {q : Addr} {ms : List Int} (h : MaAt F H q ms) (e : Ex H H') : MaAt F H' q ms := ⟨e q _ h.1, h.2⟩
def squareAt (F : Fl) (k : Int) : List Int := if k ∈ cellsF (F.h * F.w) ∧ isCorner F k = true then squareF F k else []
/-- the thought has the form that is told of its kind -/
def fitsP (κ : Kn) (F : Fl) (R : Ru) (t : Th) : Prop := match κ with
  | .clue => True
  | .only => R.k = .unlike ∧ t.c ∈ R.cells ∧ ∃ d, t.more = [d] ∧ d ∈ othersF R t.c
  | .place => R.k = .unlike ∧ t.c ∈ R.cells ∧ (R.cells.length : Int) = F.s ∧ ∃ x, t.more = [x] ∧ 1 ≤ x ∧ x ≤ F.s ∧ x ≠ t.s
  | .count => R.k = .count ∧ t.c ∈ R.cells
  | .step => R.k = .rising ∧ t.c ∈ R.cells
  | .sum => R.k = .sum ∧ t.c ∈ R.cells
  | .square => R.k = .nosquare ∧ R.s = t.s ∧ ∃ k, t.more = [k] ∧ t.c ∈ squareAt F k
  | .reach => (R.k = .joined ∨ R.k = .ring) ∧ ((R.s = t.s ∧ ∃ d, t.more = [d]) ∨ (R.s ≠ t.s ∧ ∃ d e, t.more = [d, e])) ∧ ∀ x ∈ t.more, x ≠ t.c ∧ 0 ≤ x ∧ x < F.h * F.w
  | .turn => R.k = .ring ∧ ((t.more = [] ∧ R.s = t.s) ∨ ∃ d, t.more = [d] ∧ d ∈ besideF F t.c)
  | .pair => R.k = .unlike ∧ t.c ∈ R.cells ∧ ∃ d e, t.more = [d, e] ∧ d ≠ e ∧ d ∈ othersF R t.c ∧ e ∈ othersF R t.c
  | .ways => t.c ∈ R.cells
/-- a truth of which one side is told -/
def Yes (p : Prop) : Rt := .gen fun v _ => ∃ b, v = .bl b ∧ (b = true → p)
section
variable {X : Cx} {σ : L2.St} {H : Hp} {e a b c : Expr} {p pos : Pos} {k : Nat} {q l : Addr} {F : Fl} {R : Ru}
theorem XG.yes {p : Prop} {d : Bool} (h : XV X σ H e (.bl d)) (k : d = true → p) : XG X σ H e (Yes p) := h.weak fun v H1 H2 _ _ g => by
  cases g
  exact ⟨d, rfl, k⟩
theorem x_others {i : Int} (T : Top X.w X.K X.mg X.base) (hr : Room k X.A) (ha : XV X σ H a (.ref q)) (hb : XV X σ H b (.int i)) (RA : RuAt X.K F H q R) (fo : FlOk F) (hk : 2 ≤ k := by decide) (hg : Gl X "others_of" := by rfl) (he : starEach [a, b] X.env = (false, eval a X.env) :: starEach [b] X.env := by rfl) (he2 : starEach [b] X.env = (false, eval b X.env) :: starEach [] X.env := by rfl) (hpl : (backTo pos (starEach [b] X.env)).any (·.1) = false := by rfl) :
    XG X σ H (.Call (.Name "others_of" p) [a, b] [] pos) (.lst ((othersF R i).map V.int)) := x_call (ok_others T) (hr.mono hk) (e_cons ha (e_1 hb he2) he) (fun _ e1 => ⟨F, q, R, i, rfl, RA.mono e1, fo, rfl⟩) hg (by decide) he hpl
theorem x_isUnlike {i : Int} (T : Top X.w X.K X.mg X.base) (hr : Room k X.A) (ha : XV X σ H a (.ref q)) (hb : XV X σ H b (.int i)) (RA : RuAt X.K F H q R) (hk : 2 ≤ k := by decide) (hg : Gl X "is_unlike" := by rfl) (he : starEach [a, b] X.env = (false, eval a X.env) :: starEach [b] X.env := by rfl) (he2 : starEach [b] X.env = (false, eval b X.env) :: starEach [] X.env := by rfl) (hpl : (backTo pos (starEach [b] X.env)).any (·.1) = false := by rfl) :
    XV X σ H (.Call (.Name "is_unlike" p) [a, b] [] pos) (.bl (decide (R.k = .unlike) && decide (i ∈ R.cells))) := x_call (ok_isUnlike T) (hr.mono hk) (e_cons ha (e_1 hb he2) he) (fun _ e1 => ⟨F, q, R, i, rfl, RA.mono e1, rfl⟩) hg (by decide) he hpl
theorem x_isOf {i : Int} (j : Kd) (T : Top X.w X.K X.mg X.base) (hr : Room k X.A) (ha : XV X σ H a (.ref q)) (hc : XV X σ H c (.str j.word)) (hb : XV X σ H b (.int i)) (RA : RuAt X.K F H q R) (hk : 2 ≤ k := by decide) (hg : Gl X "is_of" := by rfl) (he : starEach [a, c, b] X.env = (false, eval a X.env) :: starEach [c, b] X.env := by rfl) (he3 : starEach [c, b] X.env = (false, eval c X.env) :: starEach [b] X.env := by rfl) (he2 : starEach [b] X.env = (false, eval b X.env) :: starEach [] X.env := by rfl) (hpl : (backTo pos (starEach [c, b] X.env)).any (·.1) = false := by rfl) :
    XV X σ H (.Call (.Name "is_of" p) [a, c, b] [] pos) (.bl (decide (R.k = j) && decide (i ∈ R.cells))) := x_call (ok_isOf T) (hr.mono hk) (e_cons ha (e_cons hc (e_1 hb he2) he3) he) (fun _ e1 => ⟨F, q, R, j, i, rfl, RA.mono e1, rfl⟩) hg (by decide) he hpl
theorem x_areOthers {i : Int} {sm : List Int} (T : Top X.w X.K X.mg X.base) (hr : Room k X.A) (ha : XV X σ H a (.ref q)) (hb : XV X σ H b (.int i)) (hc : XV X σ H c (.ref l)) (RA : RuAt X.K F H q R) (fo : FlOk F) (hl : H l = some (.lst (sm.map V.int))) (hz : sm.length ≤ 1000) (hk : 3 ≤ k := by decide) (hg : Gl X "are_others" := by rfl) (he : starEach [a, b, c] X.env = (false, eval a X.env) :: starEach [b, c] X.env := by rfl) (he3 : starEach [b, c] X.env = (false, eval b X.env) :: starEach [c] X.env := by rfl) (he2 : starEach [c] X.env = (false, eval c X.env) :: starEach [] X.env := by rfl) (hpl : (backTo pos (starEach [b, c] X.env)).any (·.1) = false := by rfl) :
    XV X σ H (.Call (.Name "are_others" p) [a, b, c] [] pos) (.bl (areOthersF R i sm)) := x_call (ok_areOthers T) (hr.mono hk) (e_cons ha (e_cons hb (e_1 hc he2) he3) he) (fun _ e1 => ⟨F, q, R, i, l, sm, rfl, RA.mono e1, fo, e1 l _ hl, hz, rfl⟩) hg (by decide) he hpl
end
/-- an item of a tuple that is known when it is made -/
theorem x_ixTG {X : Cx} {σ : L2.St} {H : Hp} {a b : Expr} {r : Rt} {v : V} {i : Int} {pos : Pos} (ha : XG X σ H a r) (hb : XV X σ H b (.int i)) (hr : ∀ u H1, Ex H H1 → r.go H u H1 → ∃ q xs, u = .ref q ∧ SqT X.K H1 q xs ∧ atI xs i = some v) (hs : PlainIx b := by exact fun _ _ => rfl) : XV X σ H (.Subscript a b pos) v := fun H1 e1 Q k =>
  to_e (pe_ix ix_tup pe_sem pe_sem hs) (ha H1 e1 _ fun u H2 e2 g2 => by
    obtain ⟨q, xs, rfl, hq, hi⟩ := hr u H2 (e1.trans e2) (go_back e1 g2)
    exact hb H2 (e1.trans e2) _ fun _ H3 e3 g3 => by
      cases g3
      exact ⟨q, xs, i, v, rfl, rfl, ex_t e3 hq, hi, k _ H3 (e2.trans e3) rfl⟩)
theorem pl_s {K : PySem.W.Frag} {F : Fl} {H : Hp} : ∀ u H1, Ex H H1 → (Rt.gen fun v H => ∃ g, v = V.ref g ∧ FlAt H g F).go H u H1 → ∃ q xs, u = .ref q ∧ SqT K H1 q xs ∧ atI xs 2 = some (V.int F.s) := fun u H1 _ g => by
  obtain ⟨q, rfl, hq⟩ := g
  exact ⟨q, F.vs, rfl, SqT.of hq, rfl⟩
theorem areOthers_yes {R : Ru} {c : Int} {sm : List Int} (h : areOthersF R c sm = true) : (∀ x ∈ sm, x ∈ othersF R c) ∧ sm.Nodup := by
  unfold areOthersF at h
  obtain ⟨h1, h2⟩ := Bool.and_eq_true_iff.mp h
  have h1 := of_decide_eq_true h1
  have h2 := of_decide_eq_true h2
  refine ⟨fun x hx => ?_, (unlikes_eq sm).mp (by omega)⟩
  refine Classical.byContradiction fun hn => ?_
  have : x ∈ sm.filter fun x => !decide (x ∈ othersF R c) := List.mem_filter.mpr ⟨hx, by rw [decide_eq_false hn]; rfl⟩
  have := List.length_pos_of_mem this
  omega
section
variable {P : Program} {w : World} {K : PySem.W.Frag} {mg : Str → Option Value} {base : Heap}
theorem Top.kcls (T : Top w K mg base) (k : Kn) : Cls K (ga K k.cls) := by cases k <;> exact T.cls _
/-- what fits is called with -/
def rFits (κ : Kn) (K : PySem.W.Frag) : Rl := fun vs H r => ∃ (x p q a m : Addr) (D : PuD) (R : Ru) (t : Th) (wd : Str), vs = [.ref x, .ref p, .ref q, .ref a] ∧ PuAt K H p D ∧ RuAt K D.F H q R ∧ ThAt H a m wd t ∧ ThOk D.F t ∧ r = Yes (fitsP κ D.F R t)
theorem fits_clue (T : Top w K mg base) : MF P w K mg base 4 (ga K Kn.clue.cls) "fits" ["self", "puzzle", "rule", "thought"] (rFits .clue K) := by
  obtain ⟨f, fd, M, F⟩ := T.defM "Clue" "fits" "Clue.fits" 28 1
  have S : FnScope ["self", "puzzle", "rule", "thought"] ["self", "puzzle", "rule", "thought"] (defScope (mth 28 1)) := ⟨rfl, rfl, rfl, by decide +kernel, rfl, by decide +kernel, by decide +kernel⟩
  refine ⟨f, fg_of F S (fun vs H r h => ?_) (fun _ _ _ _ _ _ us hl => match us, hl with | [_, _, _, _], _ => rfl) (fun cdv A outer s H E vs r hr h => ?_), M⟩
  · obtain ⟨_, _, _, _, _, _, _, _, _, rfl, _⟩ := h
    rfl
  · obtain ⟨x, p, q, a, m, D, R, t, wd, rfl, PA, RA, ⟨h1, h2⟩, ok, rfl⟩ := h
    exact q_ret (Ex.refl H) (XG.yes (x_and2 (x_c (c_eqI (x_ixT (x_v 3) x_int (SqT.of h1) rfl) x_int)) fun _ => x_c (c_eqNil hr.units (x_ixT (x_v 3) x_int (SqT.of h1) rfl) h2 (x_lst e_nil (by decide)))) fun _ => trivial)
theorem len1 {l : List Int} (h : decide ((((l.map V.int).length : Nat) : Int) = 1) = true) : ∃ d, l = [d] := by
  have := of_decide_eq_true h
  rw [List.length_map] at this
  match l, this with
  | [d], _ => exact ⟨d, rfl⟩
theorem len2 {l : List Int} (h : decide ((((l.map V.int).length : Nat) : Int) = 2) = true) : ∃ d e, l = [d, e] := by
  have := of_decide_eq_true h
  rw [List.length_map] at this
  match l, this with
  | [d, e], _ => exact ⟨d, e, rfl⟩
theorem fits_only (T : Top w K mg base) : MF P w K mg base 4 (ga K Kn.only.cls) "fits" ["self", "puzzle", "rule", "thought"] (rFits .only K) := by
  obtain ⟨f, fd, M, F⟩ := T.defM "Only" "fits" "Only.fits" 30 1
  have S : FnScope ["self", "puzzle", "rule", "thought", "more"] ["self", "puzzle", "rule", "thought"] (defScope (mth 30 1)) := ⟨rfl, rfl, rfl, by decide +kernel, rfl, by decide +kernel, by decide +kernel⟩
  refine ⟨f, fg_of F S (fun vs H r h => ?_) (fun _ _ _ _ _ _ us hl => match us, hl with | [_, _, _, _], _ => rfl) (fun cdv A outer s H E vs r hr h => ?_), M⟩
  · obtain ⟨_, _, _, _, _, _, _, _, _, rfl, _⟩ := h
    rfl
  · obtain ⟨x, p, q, a, m, D, R, t, wd, rfl, PA, RA, ⟨h1, h2⟩, ok, rfl⟩ := h
    have fo := PA.1.fo
    have ml := ok.m
    refine q_setV 4 S.nd (x_ixT (x_v 3) x_int (SqT.of h1) rfl) fun H1 k1 => ?_
    refine q_ret k1 (XG.yes (x_band (x_isUnlike T hr (x_v 2) (x_ixT (x_v 3) x_int (SqT.of (k1 a _ h1)) rfl) (RA.mono k1)) fun _ => x_band (x_c (c_eqI (x_len (x_v 4) (.inl (SqL.of (k1 m _ h2))) (T.free "len")) x_int)) fun _ => x_b1 (x_areOthers T hr (x_v 2) (x_ixT (x_v 3) x_int (SqT.of (k1 a _ h1)) rfl) (x_v 4) (RA.mono k1) fo (k1 m _ h2) (by omega))) fun hb => ?_)
    obtain ⟨b1, b2⟩ := Bool.and_eq_true_iff.mp hb
    obtain ⟨b3, b4⟩ := Bool.and_eq_true_iff.mp b1
    obtain ⟨b5, b6⟩ := Bool.and_eq_true_iff.mp b2
    obtain ⟨d, hd⟩ := len1 b5
    refine ⟨of_decide_eq_true b3, of_decide_eq_true b4, d, hd, (areOthers_yes b6).1 d (by rw [hd]; exact List.mem_cons_self)⟩
theorem fits_place (T : Top w K mg base) : MF P w K mg base 4 (ga K Kn.place.cls) "fits" ["self", "puzzle", "rule", "thought"] (rFits .place K) := by
  obtain ⟨f, fd, M, F⟩ := T.defM "Place" "fits" "Place.fits" 31 1
  have S : FnScope ["self", "puzzle", "rule", "thought", "more", "signs"] ["self", "puzzle", "rule", "thought"] (defScope (mth 31 1)) := ⟨rfl, rfl, rfl, by decide +kernel, rfl, by decide +kernel, by decide +kernel⟩
  refine ⟨f, fg_of F S (fun vs H r h => ?_) (fun _ _ _ _ _ _ us hl => match us, hl with | [_, _, _, _], _ => rfl) (fun cdv A outer s H E vs r hr h => ?_), M⟩
  · obtain ⟨_, _, _, _, _, _, _, _, _, rfl, _⟩ := h
    rfl
  · obtain ⟨x, p, q, a, m, D, R, t, wd, rfl, PA, RA, ⟨h1, h2⟩, ok, rfl⟩ := h
    have fo := PA.1.fo
    have ml := ok.m
    refine q_setV 4 S.nd (x_ixT (x_v 3) x_int (SqT.of h1) rfl) fun H1 k1 => ?_
    refine q_setV 5 S.nd (x_ixTG (x_place T hr (x_v 1) (PA.mono k1)) x_int pl_s) fun H2 k2 => ?_
    have K2 := k1.trans k2
    refine q_when (t_w (w_or (t_not (t_val (x_isUnlike T hr (x_v 2) (x_ixT (x_v 3) x_int (SqT.of (K2 a _ h1)) rfl) (RA.mono K2)))) fun b1 => w_or (t_c (c_neI (x_lenN (x_spots T hr (x_v 2) (RA.mono K2)) (T.free "len")) (x_v 5))) fun b2 => w_or1 (t_c (c_neI (x_len (x_v 4) (.inl (SqL.of (K2 m _ h2))) (T.free "len")) x_int)))) (fun hb H3 k3 => ?_) (fun hb H3 k3 => ?_)
    · exact s_one (r_ret (K2.trans k3) (XG.yes x_bl fun z => by cases z))
    · simp only [Bool.or_eq_false_iff, Bool.not_eq_false', Bool.and_eq_true, decide_eq_true_eq] at hb
      obtain ⟨⟨b1, b2⟩, b3, b4⟩ := hb
      obtain ⟨d, hd⟩ := len1 (decide_eq_true b4)
      have K3 := K2.trans k3
      have hm := K3 m _ h2
      rw [hd] at hm
      refine q_ret K3 (XG.yes (x_and2 (x_chainLe x_int (x_ixL (x_v 4) x_int (SqL.of hm) rfl) (x_v 5)) fun _ => x_c (c_neI (x_ixL (x_v 4) x_int (SqL.of hm) rfl) (x_ixT (x_v 3) x_int (SqT.of (K3 a _ h1)) rfl))) fun hc => ?_)
      simp only [Bool.and_eq_true, decide_eq_true_eq, Bool.not_eq_true', decide_eq_false_iff_not] at hc
      rw [List.length_map] at b3
      exact ⟨b1, b2, b3, d, hd, hc.1.1, hc.1.2, hc.2⟩
theorem fits_count (T : Top w K mg base) : MF P w K mg base 4 (ga K Kn.count.cls) "fits" ["self", "puzzle", "rule", "thought"] (rFits .count K) := by
  obtain ⟨f, fd, M, F⟩ := T.defM "Count" "fits" "Count.fits" 36 1
  have S : FnScope ["self", "puzzle", "rule", "thought"] ["self", "puzzle", "rule", "thought"] (defScope (mth 36 1)) := ⟨rfl, rfl, rfl, by decide +kernel, rfl, by decide +kernel, by decide +kernel⟩
  refine ⟨f, fg_of F S (fun vs H r h => ?_) (fun _ _ _ _ _ _ us hl => match us, hl with | [_, _, _, _], _ => rfl) (fun cdv A outer s H E vs r hr h => ?_), M⟩
  · obtain ⟨_, _, _, _, _, _, _, _, _, rfl, _⟩ := h
    rfl
  · obtain ⟨x, p, q, a, m, D, R, t, wd, rfl, PA, RA, ⟨h1, h2⟩, ok, rfl⟩ := h
    refine q_ret (Ex.refl H) (XG.yes (x_and2 (x_c (c_eqNil hr.units (x_ixT (x_v 3) x_int (SqT.of h1) rfl) h2 (x_lst e_nil (by decide)))) fun _ => x_isOf .count T hr (x_v 2) x_str (x_ixT (x_v 3) x_int (SqT.of h1) rfl) RA) fun hb => ?_)
    simp only [Bool.and_eq_true, decide_eq_true_eq] at hb
    exact hb.2
theorem fits_step (T : Top w K mg base) : MF P w K mg base 4 (ga K Kn.step.cls) "fits" ["self", "puzzle", "rule", "thought"] (rFits .step K) := by
  obtain ⟨f, fd, M, F⟩ := T.defM "Step" "fits" "Step.fits" 38 1
  have S : FnScope ["self", "puzzle", "rule", "thought"] ["self", "puzzle", "rule", "thought"] (defScope (mth 38 1)) := ⟨rfl, rfl, rfl, by decide +kernel, rfl, by decide +kernel, by decide +kernel⟩
  refine ⟨f, fg_of F S (fun vs H r h => ?_) (fun _ _ _ _ _ _ us hl => match us, hl with | [_, _, _, _], _ => rfl) (fun cdv A outer s H E vs r hr h => ?_), M⟩
  · obtain ⟨_, _, _, _, _, _, _, _, _, rfl, _⟩ := h
    rfl
  · obtain ⟨x, p, q, a, m, D, R, t, wd, rfl, PA, RA, ⟨h1, h2⟩, ok, rfl⟩ := h
    refine q_ret (Ex.refl H) (XG.yes (x_and2 (x_c (c_eqNil hr.units (x_ixT (x_v 3) x_int (SqT.of h1) rfl) h2 (x_lst e_nil (by decide)))) fun _ => x_isOf .rising T hr (x_v 2) x_str (x_ixT (x_v 3) x_int (SqT.of h1) rfl) RA) fun hb => ?_)
    simp only [Bool.and_eq_true, decide_eq_true_eq] at hb
    exact hb.2
theorem fits_sum (T : Top w K mg base) : MF P w K mg base 4 (ga K Kn.sum.cls) "fits" ["self", "puzzle", "rule", "thought"] (rFits .sum K) := by
  obtain ⟨f, fd, M, F⟩ := T.defM "Sums" "fits" "Sums.fits" 39 1
  have S : FnScope ["self", "puzzle", "rule", "thought"] ["self", "puzzle", "rule", "thought"] (defScope (mth 39 1)) := ⟨rfl, rfl, rfl, by decide +kernel, rfl, by decide +kernel, by decide +kernel⟩
  refine ⟨f, fg_of F S (fun vs H r h => ?_) (fun _ _ _ _ _ _ us hl => match us, hl with | [_, _, _, _], _ => rfl) (fun cdv A outer s H E vs r hr h => ?_), M⟩
  · obtain ⟨_, _, _, _, _, _, _, _, _, rfl, _⟩ := h
    rfl
  · obtain ⟨x, p, q, a, m, D, R, t, wd, rfl, PA, RA, ⟨h1, h2⟩, ok, rfl⟩ := h
    refine q_ret (Ex.refl H) (XG.yes (x_and2 (x_c (c_eqNil hr.units (x_ixT (x_v 3) x_int (SqT.of h1) rfl) h2 (x_lst e_nil (by decide)))) fun _ => x_isOf .sum T hr (x_v 2) x_str (x_ixT (x_v 3) x_int (SqT.of h1) rfl) RA) fun hb => ?_)
    simp only [Bool.and_eq_true, decide_eq_true_eq] at hb
    exact hb.2
theorem fits_ways (T : Top w K mg base) : MF P w K mg base 4 (ga K Kn.ways.cls) "fits" ["self", "puzzle", "rule", "thought"] (rFits .ways K) := by
  obtain ⟨f, fd, M, F⟩ := T.defM "Ways" "fits" "Ways.fits" 40 1
  have S : FnScope ["self", "puzzle", "rule", "thought"] ["self", "puzzle", "rule", "thought"] (defScope (mth 40 1)) := ⟨rfl, rfl, rfl, by decide +kernel, rfl, by decide +kernel, by decide +kernel⟩
  refine ⟨f, fg_of F S (fun vs H r h => ?_) (fun _ _ _ _ _ _ us hl => match us, hl with | [_, _, _, _], _ => rfl) (fun cdv A outer s H E vs r hr h => ?_), M⟩
  · obtain ⟨_, _, _, _, _, _, _, _, _, rfl, _⟩ := h
    rfl
  · obtain ⟨x, p, q, a, m, D, R, t, wd, rfl, PA, RA, ⟨h1, h2⟩, ok, rfl⟩ := h
    refine q_ret (Ex.refl H) (XG.yes (x_band (x_c (c_eqNil hr.units (x_ixT (x_v 3) x_int (SqT.of h1) rfl) h2 (x_lst e_nil (by decide)))) fun _ => x_band (x_c (c_notN (x_v 2))) fun _ => x_b1 (x_c (c_inIN (x_ixT (x_v 3) x_int (SqT.of h1) rfl) (x_spots T hr (x_v 2) RA)))) fun hb => ?_)
    simp only [Bool.and_eq_true, decide_eq_true_eq] at hb
    exact hb.2.2
theorem fits_pair (T : Top w K mg base) : MF P w K mg base 4 (ga K Kn.pair.cls) "fits" ["self", "puzzle", "rule", "thought"] (rFits .pair K) := by
  obtain ⟨f, fd, M, F⟩ := T.defM "Pair" "fits" "Pair.fits" 32 1
  have S : FnScope ["self", "puzzle", "rule", "thought", "more", "spots"] ["self", "puzzle", "rule", "thought"] (defScope (mth 32 1)) := ⟨rfl, rfl, rfl, by decide +kernel, rfl, by decide +kernel, by decide +kernel⟩
  refine ⟨f, fg_of F S (fun vs H r h => ?_) (fun _ _ _ _ _ _ us hl => match us, hl with | [_, _, _, _], _ => rfl) (fun cdv A outer s H E vs r hr h => ?_), M⟩
  · obtain ⟨_, _, _, _, _, _, _, _, _, rfl, _⟩ := h
    rfl
  · obtain ⟨x, p, q, a, m, D, R, t, wd, rfl, PA, RA, ⟨h1, h2⟩, ok, rfl⟩ := h
    have fo := PA.1.fo
    have ml := ok.m
    refine q_setV 4 S.nd (x_ixT (x_v 3) x_int (SqT.of h1) rfl) fun H1 k1 => ?_
    refine q_when (t_w (w_or (t_not (t_val (x_isUnlike T hr (x_v 2) (x_ixT (x_v 3) x_int (SqT.of (k1 a _ h1)) rfl) (RA.mono k1)))) fun b1 => w_or (t_c (c_neI (x_len (x_v 4) (.inl (SqL.of (k1 m _ h2))) (T.free "len")) x_int)) fun b2 => w_or1 (t_not (t_val (x_areOthers T hr (x_v 2) (x_ixT (x_v 3) x_int (SqT.of (k1 a _ h1)) rfl) (x_v 4) (RA.mono k1) fo (k1 m _ h2) (by omega)))))) (fun hb H3 k3 => ?_) (fun hb H3 k3 => ?_)
    · exact s_one (r_ret (k1.trans k3) (XG.yes x_bl fun z => by cases z))
    · simp only [Bool.or_eq_false_iff, Bool.not_eq_false', Bool.and_eq_true, decide_eq_true_eq] at hb
      obtain ⟨⟨b1, b2⟩, b3, b4⟩ := hb
      obtain ⟨d, e, hd⟩ := len2 (decide_eq_true b3)
      obtain ⟨o1, o2⟩ := areOthers_yes b4
      rw [hd] at o1 o2
      have K3 := k1.trans k3
      have hm := K3 m _ h2
      rw [hd] at hm
      have hde : d ≠ e := fun z => by rw [z] at o2; simp at o2
      have od := o1 d List.mem_cons_self
      have oe := o1 e (List.mem_cons_of_mem _ List.mem_cons_self)
      refine q_set 5 S.nd (x_spots T hr (x_v 2) (RA.mono K3)) fun v H4 k4 gg => ?_
      obtain ⟨l, rfl, _, hl⟩ := gg
      have hm4 := k4 m _ hm
      refine q_ret (K3.trans k4) (XG.yes (x_c (c_lt (x_index (x_v 5) (x_ixL (x_v 4) x_int (SqL.of hm4) at0) hl (List.mem_filter.mp od).1) (x_index (x_v 5) (x_ixL (x_v 4) x_int (SqL.of hm4) at1) hl (List.mem_filter.mp oe).1))) fun _ => show fitsP .pair D.F R t from ⟨b1, b2, d, e, hd, hde, od, oe⟩)
/-! squares and neighbours on a puzzle's floor -/
def rSquareAt (K : PySem.W.Frag) : Rl := fun vs H r => ∃ (p : Addr) (D : PuD) (k : Int), vs = [.ref p, .int k] ∧ PuAt K H p D ∧ r = .gen fun v H' => ∃ (l : Addr) (ns : List Int), v = .ref l ∧ H' l = some (.lst (ns.map V.int)) ∧ ns = squareAt D.F k
theorem sc_squareAt : FnScope ["puzzle", "corner", "square"] ["puzzle", "corner"] (defScope (top 44)) := ⟨rfl, rfl, rfl, by decide +kernel, rfl, by decide +kernel, by decide +kernel⟩
theorem mem_squares {F : Fl} {q : List Int} (h : q ∈ squaresF F) : ∃ c, c ∈ cellsF (F.h * F.w) ∧ isCorner F c = true ∧ q = squareF F c := by
  unfold squaresF at h
  obtain ⟨c, hc, rfl⟩ := List.mem_map.mp h
  obtain ⟨h1, h2⟩ := List.mem_filter.mp hc
  exact ⟨c, h1, h2, rfl⟩
theorem ok_squareAt (T : Top w K mg base) : DF P w K mg base 3 "square_at" ["puzzle", "corner"] (rSquareAt K) := by
  obtain ⟨f, fd, hm, F⟩ := T.defG "square_at" 44
  refine ⟨f, fg_of F sc_squareAt (fun vs H r h => ?_) (fun _ _ _ _ _ _ us hl => match us, hl with | [_, _], _ => rfl) (fun cdv A outer s H E vs r hr h => ?_), hm, F.kp⟩
  · obtain ⟨_, _, _, rfl, _⟩ := h
    rfl
  · obtain ⟨p, D, k, rfl, PA, rfl⟩ := h
    refine s_seq (s_forG 2 sc_squareAt.nd (x_callA (r := .gen fun v H' => ∃ l, v = .ref l ∧ IsLL H' l (squaresF D.F)) (ok_squares T) hr (a_cons (x_place T hr (x_v 0) PA) fun v H1 k1 gg => a_nil fun H2 k2 => ?_)) fun v H1 k1 gg => ?_)
    · obtain ⟨g, rfl, hg⟩ := gg
      exact ⟨_, ⟨g, D.F, rfl, k2 g _ hg, PA.1.fo, rfl⟩, fun _ _ _ z => z⟩
    · obtain ⟨l, rfl, ps, hl, hp⟩ := gg
      refine ⟨l, ps.map V.ref, fun i σ' H' => (∃ x, σ' = [some (.ref p), some (.int k), x]) ∧ Ex H1 H' ∧ ∀ j sq, j < i → (squaresF D.F)[j]? = some sq → sq ≠ squareF D.F k, rfl, SqL.of hl, ⟨⟨none, rfl⟩, Ex.refl H1, fun j _ hj => by omega⟩, fun i σ' H' z => SqL.of (z.2.1 l _ hl), ?_, ?_⟩
      · rintro i x σ' H' hx ⟨⟨x0, rfl⟩, hE, hno⟩
        obtain ⟨p2, hpi, rfl⟩ := at_refs hx
        obtain ⟨sq, hsq, hps⟩ := paired_at hp hpi
        obtain ⟨c, hc1, hc2, rfl⟩ := mem_squares (List.mem_of_getElem? hsq)
        refine s_one (s_when (t_c (c_eqI (x_ixL (x_v 2) x_int (SqL.of (hE p2 _ hps)) at0) (x_v 1))) (fun hb H2 k2 => ?_) (fun hb H2 k2 => ?_))
        · have ec : c = k := of_decide_eq_true hb
          subst ec
          refine s_one (s_ret (x_v 2) fun v H3 k3 g3 => ?_)
          cases g3
          refine ⟨((k1.trans hE).trans k2).trans k3, p2, _, rfl, k3 p2 _ (k2 p2 _ (hE p2 _ hps)), ?_⟩
          unfold squareAt
          rw [if_pos ⟨hc1, hc2⟩]
        · have ec : c ≠ k := of_decide_eq_false hb
          refine ⟨⟨_, rfl⟩, hE.trans k2, fun j sq' hj hsj => ?_⟩
          by_cases hji : j < i
          · exact hno j sq' hji hsj
          · have ej : j = i := by omega
            have es : sq' = squareF D.F c := Option.some.inj (hsj.symm.trans (by rw [ej]; exact hsq))
            rw [es]
            intro z
            exact ec (List.cons.inj z).1
      · rintro σ' H' ⟨⟨x0, rfl⟩, hE, hno⟩
        refine s_one (s_ret (x_lst (vs := []) e_nil (by decide)) fun v H3 k3 g3 => ?_)
        obtain ⟨l3, rfl, _, h3⟩ := g3
        refine ⟨(k1.trans hE).trans k3, l3, [], rfl, h3, ?_⟩
        unfold squareAt
        rw [if_neg]
        rintro ⟨a1, a2⟩
        have : squareF D.F k ∈ squaresF D.F := List.mem_map.mpr ⟨k, List.mem_filter.mpr ⟨a1, a2⟩, rfl⟩
        obtain ⟨j, hj⟩ := List.mem_iff_getElem?.mp this
        exact hno j _ (by rw [List.length_map, Paired.length hp]; exact (List.getElem?_eq_some_iff.mp hj).1) hj rfl
end
section
variable {X : Cx} {σ : L2.St} {H : Hp} {o e a b c : Expr} {p pos p2 apos : Pos} {k : Nat} {q l : Addr} {D : PuD}
/-- square_at(puzzle, k) -/
theorem x_squareAt {i : Int} (T : Top X.w X.K X.mg X.base) (hr : Room k X.A) (ha : XV X σ H a (.ref q)) (hb : XV X σ H b (.int i)) (PA : PuAt X.K H q D) (hk : 3 ≤ k := by decide) (hg : Gl X "square_at" := by rfl) (he : starEach [a, b] X.env = (false, eval a X.env) :: starEach [b] X.env := by rfl) (he2 : starEach [b] X.env = (false, eval b X.env) :: starEach [] X.env := by rfl) (hpl : (backTo pos (starEach [b] X.env)).any (·.1) = false := by rfl) :
    XG X σ H (.Call (.Name "square_at" p) [a, b] [] pos) (.gen fun v H' => ∃ (l : Addr) (ns : List Int), v = .ref l ∧ H' l = some (.lst (ns.map V.int)) ∧ ns = squareAt D.F i) := x_call (ok_squareAt T) (hr.mono hk) (e_cons ha (e_1 hb he2) he) (fun _ e1 => ⟨q, D, i, rfl, PA.mono e1, rfl⟩) hg (by decide) he hpl
/-- beside(puzzle.place(), c) -/
theorem x_besideP {i : Int} (T : Top X.w X.K X.mg X.base) (hr : Room k X.A) (ha : XV X σ H o (.ref q)) (hb : XV X σ H b (.int i)) (PA : PuAt X.K H q D) (hk : 2 ≤ k := by decide) (hg : Gl X "beside" := by rfl) {pl : Sem Bool}
    (ht : eval (.Call (.Attribute o "place" apos) [] [] p2) X.env = (do
      let ov ← eval o X.env
      standAt apos.atName
      let (f, first) ← holding [ov] (getMethod ov "place" pl)
      callWith p2 f first (backTo p2 (starEach [] X.env)) (backToKw p2 (keywordEach [] X.env))) := by rfl)
    (he : starEach [.Call (.Attribute o "place" apos) [] [] p2, b] X.env = (false, eval (.Call (.Attribute o "place" apos) [] [] p2) X.env) :: starEach [b] X.env := by rfl) (he2 : starEach [b] X.env = (false, eval b X.env) :: starEach [] X.env := by rfl) (hpl : (backTo pos (starEach [b] X.env)).any (·.1) = false := by rfl) :
    XG X σ H (.Call (.Name "beside" p) [.Call (.Attribute o "place" apos) [] [] p2, b] [] pos) (.lst ((besideF D.F i).map V.int)) :=
  x_callA (ok_beside T) (hr.mono hk) (a_cons (x_place T hr ha PA (Nat.le_trans (by decide) hk) ht) (fun v H1 k1 gg => a_v (hb.mono k1) (a_nil fun H2 k2 => by
    obtain ⟨g, rfl, hgg⟩ := gg
    exact ⟨_, ⟨g, D.F, i, rfl, k2 g _ hgg, PA.1.fo, rfl⟩, fun _ _ _ z => z⟩) he2) he) hg (by decide) he hpl
end
section
variable {P : Program} {w : World} {K : PySem.W.Frag} {mg : Str → Option Value} {base : Heap}
theorem fits_square (T : Top w K mg base) : MF P w K mg base 4 (ga K Kn.square.cls) "fits" ["self", "puzzle", "rule", "thought"] (rFits .square K) := by
  obtain ⟨f, fd, M, F⟩ := T.defM "Square" "fits" "Square.fits" 45 1
  have S : FnScope ["self", "puzzle", "rule", "thought"] ["self", "puzzle", "rule", "thought"] (defScope (mth 45 1)) := ⟨rfl, rfl, rfl, by decide +kernel, rfl, by decide +kernel, by decide +kernel⟩
  refine ⟨f, fg_of F S (fun vs H r h => ?_) (fun _ _ _ _ _ _ us hl => match us, hl with | [_, _, _, _], _ => rfl) (fun cdv A outer s H E vs r hr h => ?_), M⟩
  · obtain ⟨_, _, _, _, _, _, _, _, _, rfl, _⟩ := h
    rfl
  · obtain ⟨x, p, q, a, m, D, R, t, wd, rfl, PA, RA, ⟨h1, h2⟩, ok, rfl⟩ := h
    refine q_when (t_w (w_or (t_c (c_isN (x_v 2))) fun _ => w_or (t_c (c_neS (x_name T hr (x_v 2) RA) x_str)) fun b1 => w_or (t_c (c_neI (x_sign T hr (x_v 2) RA) (x_ixT (x_v 3) x_int (SqT.of h1) rfl))) fun b2 => w_or1 (t_c (c_neI (x_len (x_ixT (x_v 3) x_int (SqT.of h1) rfl) (.inl (SqL.of h2)) (T.free "len")) x_int)))) (fun hb H3 k3 => ?_) (fun hb H3 k3 => ?_)
    · exact s_one (r_ret k3 (XG.yes x_bl fun z => by cases z))
    · simp only [Bool.or_eq_false_iff, Bool.not_eq_false', decide_eq_true_eq] at hb
      obtain ⟨_, b1, b2, b3⟩ := hb
      obtain ⟨d, hd⟩ := len1 (decide_eq_true b3)
      have hm := k3 m _ h2
      rw [hd] at hm
      refine q_ret k3 (XG.yes (x_c (c_inG (x_ixT (x_v 3) x_int (SqT.of (k3 a _ h1)) rfl) (x_squareAt T hr (x_v 1) (x_ixL (x_ixT (x_v 3) x_int (SqT.of (k3 a _ h1)) rfl) x_int (SqL.of hm) at0) (PA.mono k3)) (c := decide (t.c ∈ squareAt D.F d)) fun ns e => by rw [e])) fun hc => ?_)
      have e1 : R.k = .nosquare := by
        have z := word_eq R.k .nosquare
        rw [show (decide (R.k.word = Kd.nosquare.word)) = true from decide_eq_true b1] at z
        exact of_decide_eq_true z.symm
      exact ⟨e1, b2, d, hd, of_decide_eq_true hc⟩
theorem word_yes {k j : Kd} (h : k.word = j.word) : k = j := by
  have z := word_eq k j
  rw [decide_eq_true h] at z
  exact of_decide_eq_true z.symm
theorem fits_turn (T : Top w K mg base) : MF P w K mg base 4 (ga K Kn.turn.cls) "fits" ["self", "puzzle", "rule", "thought"] (rFits .turn K) := by
  obtain ⟨f, fd, M, F⟩ := T.defM "Turn" "fits" "Turn.fits" 47 1
  have S : FnScope ["self", "puzzle", "rule", "thought"] ["self", "puzzle", "rule", "thought"] (defScope (mth 47 1)) := ⟨rfl, rfl, rfl, by decide +kernel, rfl, by decide +kernel, by decide +kernel⟩
  refine ⟨f, fg_of F S (fun vs H r h => ?_) (fun _ _ _ _ _ _ us hl => match us, hl with | [_, _, _, _], _ => rfl) (fun cdv A outer s H E vs r hr h => ?_), M⟩
  · obtain ⟨_, _, _, _, _, _, _, _, _, rfl, _⟩ := h
    rfl
  · obtain ⟨x, p, q, a, m, D, R, t, wd, rfl, PA, RA, ⟨h1, h2⟩, ok, rfl⟩ := h
    refine q_when (t_or (t_c (c_isN (x_v 2))) fun _ => t_c (c_neS (x_name T hr (x_v 2) RA) x_str)) (fun hb H3 k3 => ?_) (fun hb H3 k3 => ?_)
    · exact s_one (r_ret k3 (XG.yes x_bl fun z => by cases z))
    · simp only [Bool.or_eq_false_iff, Bool.not_eq_false', decide_eq_true_eq] at hb
      have ek : R.k = .ring := word_yes (j := .ring) hb.2
      refine q_when (t_c (c_eqNil hr.units (x_ixT (x_v 3) x_int (SqT.of (k3 a _ h1)) rfl) (k3 m _ h2) (x_lst e_nil (by decide)))) (fun hb2 H4 k4 => ?_) (fun hb2 H4 k4 => ?_)
      · refine s_one (r_ret (k3.trans k4) (XG.yes (x_c (c_eqI (x_sign T hr (x_v 2) (RA.mono (k3.trans k4))) (x_ixT (x_v 3) x_int (SqT.of ((k3.trans k4) a _ h1)) rfl))) fun hc => ?_))
        exact ⟨ek, .inl ⟨List.isEmpty_iff.mp hb2, of_decide_eq_true hc⟩⟩
      · have k34 := k3.trans k4
        by_cases hl : ∃ d, t.more = [d]
        · obtain ⟨d, hd⟩ := hl
          have hm := k34 m _ h2
          rw [hd] at hm
          refine q_ret k34 (XG.yes (x_and2 (x_c (c_eqI (x_len (x_ixT (x_v 3) x_int (SqT.of (k34 a _ h1)) rfl) (.inl (SqL.of hm)) (T.free "len")) x_int)) fun _ => x_c (c_inIN (x_ixL (x_ixT (x_v 3) x_int (SqT.of (k34 a _ h1)) rfl) x_int (SqL.of hm) at0) (x_besideP T hr (x_v 1) (x_ixT (x_v 3) x_int (SqT.of (k34 a _ h1)) rfl) (PA.mono k34)))) fun hc => ?_)
          exact ⟨ek, .inr ⟨d, hd, of_decide_eq_true (Bool.and_eq_true_iff.mp hc).2⟩⟩
        · refine q_ret k34 (XG.yes (x_and2 (d := false) (x_c (c_eqI (x_len (x_ixT (x_v 3) x_int (SqT.of (k34 a _ h1)) rfl) (.inl (SqL.of (k34 m _ h2))) (T.free "len")) x_int)) fun z => absurd (len1 z) hl) fun hc => ?_)
          rw [Bool.and_false] at hc
          cases hc
theorem fits_reach (T : Top w K mg base) : MF P w K mg base 4 (ga K Kn.reach.cls) "fits" ["self", "puzzle", "rule", "thought"] (rFits .reach K) := by
  obtain ⟨f, fd, M, F⟩ := T.defM "Reach" "fits" "Reach.fits" 46 1
  have S : FnScope ["self", "puzzle", "rule", "thought", "more", "wanted", "one"] ["self", "puzzle", "rule", "thought"] (defScope (mth 46 1)) := ⟨rfl, rfl, rfl, by decide +kernel, rfl, by decide +kernel, by decide +kernel⟩
  refine ⟨f, fg_of F S (fun vs H r h => ?_) (fun _ _ _ _ _ _ us hl => match us, hl with | [_, _, _, _], _ => rfl) (fun cdv A outer s H E vs r hr h => ?_), M⟩
  · obtain ⟨_, _, _, _, _, _, _, _, _, rfl, _⟩ := h
    rfl
  · obtain ⟨x, p, q, a, m, D, R, t, wd, rfl, PA, RA, ⟨h1, h2⟩, ok, rfl⟩ := h
    have ml := ok.m
    refine q_when (t_or (t_c (c_isN (x_v 2))) fun _ => t_and (t_c (c_neS (x_name T hr (x_v 2) RA) x_str)) fun _ => t_c (c_neS (x_name T hr (x_v 2) RA) x_str)) (fun hb H3 k3 => ?_) (fun hb H3 k3 => ?_)
    · exact s_one (r_ret k3 (XG.yes x_bl fun z => by cases z))
    · simp only [Bool.or_eq_false_iff, Bool.and_eq_false_iff, Bool.not_eq_false', decide_eq_true_eq] at hb
      have ek : R.k = .joined ∨ R.k = .ring := hb.2.imp (fun z => word_yes (j := .joined) z) (fun z => word_yes (j := .ring) z)
      refine q_setV 4 S.nd (x_ixT (x_v 3) x_int (SqT.of (k3 a _ h1)) rfl) fun H4 k4 => ?_
      have k34 := k3.trans k4
      refine q_setV 5 S.nd (x_sub x_int (x_intB (x_c (c_eqI (x_sign T hr (x_v 2) (RA.mono k34)) (x_ixT (x_v 3) x_int (SqT.of (k34 a _ h1)) rfl))) (T.free "int"))) fun H5 k5 => ?_
      have k35 := k34.trans k5
      refine q_when (t_or (t_c (c_neI (x_len (x_v 4) (.inl (SqL.of (k35 m _ h2))) (T.free "len")) (x_v 5))) fun _ => t_c (c_neI (x_lenSet (ns := t.more) (x_v 4) (hrL (k35 m _ h2)) (by omega) (T.free "len") (T.free "set")) (x_v 5))) (fun hb H6 k6 => ?_) (fun hb H6 k6 => ?_)
      · exact s_one (r_ret (k35.trans k6) (XG.yes x_bl fun z => by cases z))
      · simp only [Bool.or_eq_false_iff, Bool.not_eq_false', decide_eq_true_eq, List.length_map] at hb
        have k36 := k35.trans k6
        refine q_ret k36 (XG.yes (x_c (c_eqI (x_lenN (x_l (l_I 6 (fun x => decide (x = t.c) || (decide (x < 0) || decide (D.F.h * D.F.w ≤ x))) V.int S.nd (@blkOk_by ["self", "puzzle", "rule", "thought", "more", "wanted", "one"] (defScope (mth 46 1)) _ _ (by decide +kernel)) (x_v 4) (hrL (k36 m _ h2)) (by omega)
          (fun s' H0 cl C fp x H7 hx k7 => ts_one (t_w (w_or (t_c (c_eqI (x_v 6) (x_ixT (x_v 3) x_int (SqT.of ((k36.trans k7) a _ h1)) rfl))) fun _ => w_or (t_c (c_lt (x_v 6) x_int)) fun _ => w_or1 (t_c (c_ge (x_v 6) (x_many T hr (x_v 1) (PA.mono (k36.trans k7)))))))) (fun s' H0 cl C fp x H1 hx hp k => x_v 6))) (T.free "len")) x_int)) fun hc => ?_)
        have hc := of_decide_eq_true hc
        rw [List.length_map] at hc
        refine ⟨ek, ?_, fun x hx => ?_⟩
        · by_cases hs : R.s = t.s
          · rw [if_pos hs] at hb
            exact .inl ⟨hs, len1 (decide_eq_true (by rw [List.length_map]; omega))⟩
          · rw [if_neg hs] at hb
            exact .inr ⟨hs, len2 (decide_eq_true (by rw [List.length_map]; omega))⟩
        · have hn : ¬ x ∈ t.more.filter fun x => decide (x = t.c) || (decide (x < 0) || decide (D.F.h * D.F.w ≤ x)) := fun z => by
            have := List.length_pos_of_mem z
            omega
          rw [List.mem_filter] at hn
          have hn2 : ¬ (decide (x = t.c) || (decide (x < 0) || decide (D.F.h * D.F.w ≤ x))) = true := fun z => hn ⟨hx, z⟩
          simp only [Bool.or_eq_true, decide_eq_true_eq, not_or] at hn2
          exact ⟨hn2.1, by omega, by omega⟩
theorem ok_fits (T : Top w K mg base) (κ : Kn) : MF P w K mg base 4 (ga K κ.cls) "fits" ["self", "puzzle", "rule", "thought"] (rFits κ K) := by
  cases κ
  · exact fits_clue T
  · exact fits_only T
  · exact fits_place T
  · exact fits_count T
  · exact fits_step T
  · exact fits_sum T
  · exact fits_square T
  · exact fits_reach T
  · exact fits_turn T
  · exact fits_pair T
  · exact fits_ways T
end
end Ck

set_option maxRecDepth 100000
set_option maxHeartbeats 4000000
namespace Ck
open PySem PySem.Spec PyProof.Rows L2 Evl
/-! ### what each kind of thought strikes -/
theorem bits_le : ∀ m : Fin 64, Builtin.Int.intBits (m.val : Int) ≤ 6 := by decide +kernel
theorem or_lt : ∀ m n : Fin 64, 0 ≤ Builtin.bitOr (m.val : Int) (n.val : Int) ∧ Builtin.bitOr (m.val : Int) (n.val : Int) < 64 := by decide +kernel
theorem bits_of {m : Int} (h0 : 0 ≤ m) (h1 : m < 64) : Builtin.Int.intBits m ≤ 6 := by
  have := bits_le ⟨m.toNat, by omega⟩
  rwa [show ((⟨m.toNat, by omega⟩ : Fin 64).val : Int) = m from Int.toNat_of_nonneg h0] at this
theorem or_of {m n : Int} (h0 : 0 ≤ m) (h1 : m < 64) (g0 : 0 ≤ n) (g1 : n < 64) : 0 ≤ Builtin.bitOr m n ∧ Builtin.bitOr m n < 64 := by
  have := or_lt ⟨m.toNat, by omega⟩ ⟨n.toNat, by omega⟩
  rwa [show ((⟨m.toNat, by omega⟩ : Fin 64).val : Int) = m from Int.toNat_of_nonneg h0, show ((⟨n.toNat, by omega⟩ : Fin 64).val : Int) = n from Int.toNat_of_nonneg g0] at this
theorem vF_mem {l : List Int} {c : Int} (h0 : 0 ≤ c) (h1 : c < l.length) : vF l c ∈ l := by
  unfold vF
  rw [List.getD_eq_getElem?_getD, List.getElem?_eq_getElem (by omega)]
  exact List.getElem_mem _
theorem ma_in {F : Fl} {H : Hp} {q : Addr} {ms : List Int} (M : MaAt F H q ms) {c : Int} (hc : 0 ≤ c ∧ c < F.h * F.w) : 0 ≤ vF ms c ∧ vF ms c < 64 := M.2.2 _ (vF_mem hc.1 (by rw [M.2.1]; exact hc.2))
theorem ma_bits {F : Fl} {H : Hp} {q : Addr} {ms : List Int} (M : MaAt F H q ms) {c : Int} (hc : 0 ≤ c ∧ c < F.h * F.w) : Builtin.Int.intBits (vF ms c) ≤ 50 := Nat.le_trans (bits_of (ma_in M hc).1 (ma_in M hc).2) (by decide)
theorem beside_in {F : Fl} (fo : FlOk F) {c x : Int} (h0 : 0 ≤ c) (h1 : c < F.h * F.w) (h : x ∈ besideF F c) : 0 ≤ x ∧ x < F.h * F.w := by
  have w1 := fo.w1
  have d := Int.emod_add_mul_ediv c F.w
  have m0 := Int.emod_nonneg c (by omega : F.w ≠ 0)
  have m1 := Int.emod_lt_of_pos c (by omega : 0 < F.w)
  have q0 : 0 ≤ c / F.w := Int.ediv_nonneg (by omega) (by omega)
  have ql : c / F.w < F.h := Int.ediv_lt_of_lt_mul (by omega) h1
  have e : c / F.w * F.w = F.w * (c / F.w) := Int.mul_comm _ _
  have k1 : (c / F.w + 1) * F.w ≤ F.h * F.w := Int.mul_le_mul_of_nonneg_right (by omega) (by omega)
  rw [Int.add_mul] at k1
  unfold besideF at h
  rcases List.mem_append.mp h with h | h
  · split at h
    · next hp =>
      rw [List.mem_singleton.mp h]
      have : 1 * F.w ≤ c / F.w * F.w := Int.mul_le_mul_of_nonneg_right (by omega) (by omega)
      omega
    · cases h
  · rcases List.mem_append.mp h with h | h
    · split at h
      · next hp =>
        rw [List.mem_singleton.mp h]
        have : 0 ≤ F.w * (c / F.w) := Int.mul_nonneg (by omega) q0
        omega
      · cases h
    · rcases List.mem_append.mp h with h | h
      · split at h
        · next hp =>
          rw [List.mem_singleton.mp h]
          omega
        · cases h
      · split at h
        · next hp =>
          rw [List.mem_singleton.mp h]
          have : (c / F.w + 2) * F.w ≤ F.h * F.w := Int.mul_le_mul_of_nonneg_right (by omega) (by omega)
          rw [Int.add_mul] at this
          omega
        · cases h
def rawC (n : Nat) : List Int := (List.range n).map fun i : Nat => (0 : Int) + (i : Int)
def mayF (ms : List Int) (s : Int) : List Int := (rawC ms.length).filter fun c => standsF (vF ms c) s
def mustF (ms : List Int) (s : Int) : List Int := (rawC ms.length).filter fun c => onlyF (vF ms c) s
def loF (ms : List Int) (os : List Int) : Int := (os.map fun o => (signsF (vF ms o)).headD 0).sum
def hiF (ms : List Int) (os : List Int) : Int := (os.map fun o => (signsF (vF ms o)).getLastD 0).sum
def fillF (ms : List Int) : List Int → Int → List Int → List Int
  | [], _, fl => fl
  | o :: os, n, fl => fillF ms os (n / (signsF (vF ms o)).length) (fl.set o.toNat (vF (signsF (vF ms o)) (n % (signsF (vF ms o)).length)))
def manyF (ms : List Int) (os : List Int) : Nat := (os.map fun o => (signsF (vF ms o)).length).foldl (· * ·) 1
def nearF (F : Fl) (a c : Int) : List Int := (besideF F a).filter fun x => !decide (x = c)
/-- what is told of the kind holds -/
def strikesP (κ : Kn) (F : Fl) (cl ms : List Int) (R : Ru) (t : Th) : Prop := match κ with
  | .clue => vF cl t.c ≠ 0 ∧ vF cl t.c ≠ t.s
  | .only => ∀ d, t.more = [d] → onlyF (vF ms d) t.s = true
  | .place => ∀ x, t.more = [x] → ∀ o ∈ othersF R t.c, standsF (vF ms o) x = false
  | .count => (t.s = R.s ∧ R.n ≤ (((othersF R t.c).filter fun o => onlyF (vF ms o) R.s).length : Int)) ∨ (t.s ≠ R.s ∧ (((othersF R t.c).filter fun o => standsF (vF ms o) R.s).length : Int) < R.n)
  | .step => ∃ i : Nat, (R.cells[i + 1]? = some t.c ∧ ∃ a, R.cells[i]? = some a ∧ ∀ x ∈ signsF (vF ms a), t.s ≤ x) ∨ (R.cells[i]? = some t.c ∧ ∃ b, R.cells[i + 1]? = some b ∧ ∀ x ∈ signsF (vF ms b), x ≤ t.s)
  | .sum => (∃ o ∈ othersF R t.c, signsF (vF ms o) = []) ∨ R.n < t.s + loF ms (othersF R t.c) ∨ t.s + hiF ms (othersF R t.c) < R.n
  | .square => ∀ k, t.more = [k] → ∀ x ∈ squareAt F k, x ≠ t.c → onlyF (vF ms x) t.s = true
  | .reach => (∀ x ∈ t.more, onlyF (vF ms x) R.s = true) ∧ (R.s = t.s → ∀ d, t.more = [d] → ¬ Reach F (((mayF ms R.s).filter fun x => !decide (x = t.c)) ++ [t.c]) t.c d) ∧
      (R.s ≠ t.s → ∀ d e, t.more = [d, e] → ¬ Reach F ((mayF ms R.s).filter fun x => !decide (x = t.c)) d e)
  | .turn => (t.more = [] → ((nearF F t.c t.c).filter fun x => standsF (vF ms x) R.s).length < 2 ∨ 2 < ((nearF F t.c t.c).filter fun x => onlyF (vF ms x) R.s).length) ∧
      ∀ d, t.more = [d] → onlyF (vF ms d) R.s = true ∧ (R.s = t.s → 2 ≤ ((nearF F d t.c).filter fun x => onlyF (vF ms x) R.s).length) ∧ (R.s ≠ t.s → ((nearF F d t.c).filter fun x => standsF (vF ms x) R.s).length < 2)
  | .pair => ∀ d e, t.more = [d, e] → ((signsF (Builtin.bitOr (vF ms d) (vF ms e))).filter fun x => !decide (x = t.s)).length ≤ 1
  | .ways => ∀ n : Nat, n < manyF ms (othersF R t.c) → ∃ fl0 : List Int, (fl0.length : Int) = F.h * F.w ∧ vF fl0 t.c = t.s ∧ ¬ holdsP F R (fillF ms (othersF R t.c) n fl0)
theorem sub_others {F : Fl} {R : Ru} (o : RuOk F R) {c x : Int} (h : x ∈ othersF R c) : 0 ≤ x ∧ x < F.h * F.w := o.inn x (List.mem_filter.mp h).1
theorem others_len {F : Fl} {R : Ru} (fo : FlOk F) (o : RuOk F R) (c : Int) : (othersF R c).length ≤ 16 := Nat.le_trans (List.length_filter_le _ _) (o.len fo)
section
variable {P : Program} {w : World} {K : PySem.W.Frag} {mg : Str → Option Value} {base : Heap}
def rStrikes (κ : Kn) (K : PySem.W.Frag) : Rl := fun vs H r => ∃ (x p q a th m : Addr) (D : PuD) (R : Ru) (t : Th) (wd : Str) (ms : List Int), vs = [.ref x, .ref p, .ref q, .ref a, .ref th] ∧ PuAt K H p D ∧ MaAt D.F H q ms ∧ RuAt K D.F H a R ∧ ThAt H th m wd t ∧ ThOk D.F t ∧ fitsP κ D.F R t ∧ r = Yes (strikesP κ D.F D.clues ms R t)
/-- a mask at a cell -/
theorem x_mask {X : Cx} {σ : L2.St} {H : Hp} {a e : Expr} {q : Addr} {F : Fl} {ms : List Int} {c : Int} {pos : Pos} (M : MaAt F H q ms) (ha : XV X σ H a (.ref q)) (he : XV X σ H e (.int c)) (hc : 0 ≤ c ∧ c < F.h * F.w) (hs : PlainIx e := by exact fun _ _ => rfl) : XV X σ H (.Subscript a e pos) (.int (vF ms c)) :=
  x_ixL ha he (SqL.of M.1) (fi_at2 (q := q) ⟨M.1, M.2.1⟩ hc) hs
theorem strikes_clue (T : Top w K mg base) : MF P w K mg base 7 (ga K Kn.clue.cls) "strikes" ["self", "puzzle", "masks", "rule", "thought"] (rStrikes .clue K) := by
  obtain ⟨f, fd, M, F⟩ := T.defM "Clue" "strikes" "Clue.strikes" 28 2
  have S : FnScope ["self", "puzzle", "masks", "rule", "thought", "clue"] ["self", "puzzle", "masks", "rule", "thought"] (defScope (mth 28 2)) := ⟨rfl, rfl, rfl, by decide +kernel, rfl, by decide +kernel, by decide +kernel⟩
  refine ⟨f, fg_of F S (fun vs H r h => ?_) (fun _ _ _ _ _ _ us hl => match us, hl with | [_, _, _, _, _], _ => rfl) (fun cdv A outer s H E vs r hr h => ?_), M⟩
  · obtain ⟨_, _, _, _, _, _, _, _, _, _, _, rfl, _⟩ := h
    rfl
  · obtain ⟨x, p, q, a, th, m, D, R, t, wd, ms, rfl, PA, MA, RA, ⟨h1, h2⟩, ok, fit, rfl⟩ := h
    refine q_setV 5 S.nd (x_clueAt T hr (x_v 1) (x_ixT (x_v 4) x_int (SqT.of h1) rfl) PA ⟨ok.c0, ok.c1⟩) fun H1 k1 => ?_
    refine q_ret k1 (XG.yes (x_and2 (x_c (c_neI (x_v 5) x_int)) fun _ => x_c (c_neI (x_v 5) (x_ixT (x_v 4) x_int (SqT.of (k1 th _ h1)) rfl))) fun hb => ?_)
    simp only [Bool.and_eq_true, Bool.not_eq_true', decide_eq_false_iff_not] at hb
    exact hb
theorem strikes_only (T : Top w K mg base) : MF P w K mg base 7 (ga K Kn.only.cls) "strikes" ["self", "puzzle", "masks", "rule", "thought"] (rStrikes .only K) := by
  obtain ⟨f, fd, M, F⟩ := T.defM "Only" "strikes" "Only.strikes" 30 2
  have S : FnScope ["self", "puzzle", "masks", "rule", "thought"] ["self", "puzzle", "masks", "rule", "thought"] (defScope (mth 30 2)) := ⟨rfl, rfl, rfl, by decide +kernel, rfl, by decide +kernel, by decide +kernel⟩
  refine ⟨f, fg_of F S (fun vs H r h => ?_) (fun _ _ _ _ _ _ us hl => match us, hl with | [_, _, _, _, _], _ => rfl) (fun cdv A outer s H E vs r hr h => ?_), M⟩
  · obtain ⟨_, _, _, _, _, _, _, _, _, _, _, rfl, _⟩ := h
    rfl
  · obtain ⟨x, p, q, a, th, m, D, R, t, wd, ms, rfl, PA, MA, RA, ⟨h1, h2⟩, ok, fit, rfl⟩ := h
    obtain ⟨_, _, d, hd, ho⟩ := fit
    have fo := PA.1.fo
    have s6 := ok.s6
    have f6 := fo.s6
    rw [hd] at h2
    refine q_ret (Ex.refl H) (XG.yes (x_only T hr (x_mask MA (x_v 2) (x_ixL (x_ixT (x_v 4) x_int (SqT.of h1) rfl) x_int (SqL.of h2) at0) (sub_others RA.1 ho)) (x_ixT (x_v 4) x_int (SqT.of h1) rfl) ⟨ok.s1, by omega⟩) fun hb => ?_)
    intro d' hd'
    rw [hd] at hd'
    cases hd'
    exact hb
theorem strikes_place (T : Top w K mg base) : MF P w K mg base 7 (ga K Kn.place.cls) "strikes" ["self", "puzzle", "masks", "rule", "thought"] (rStrikes .place K) := by
  obtain ⟨f, fd, M, F⟩ := T.defM "Place" "strikes" "Place.strikes" 31 2
  have S : FnScope ["self", "puzzle", "masks", "rule", "thought", "other"] ["self", "puzzle", "masks", "rule", "thought"] (defScope (mth 31 2)) := ⟨rfl, rfl, rfl, by decide +kernel, rfl, by decide +kernel, by decide +kernel⟩
  refine ⟨f, fg_of F S (fun vs H r h => ?_) (fun _ _ _ _ _ _ us hl => match us, hl with | [_, _, _, _, _], _ => rfl) (fun cdv A outer s H E vs r hr h => ?_), M⟩
  · obtain ⟨_, _, _, _, _, _, _, _, _, _, _, rfl, _⟩ := h
    rfl
  · obtain ⟨x, p, q, a, th, m, D, R, t, wd, ms, rfl, PA, MA, RA, ⟨h1, h2⟩, ok, fit, rfl⟩ := h
    obtain ⟨_, _, _, d, hd, d1, d2, _⟩ := fit
    have fo := PA.1.fo
    have f6 := fo.s6
    rw [hd] at h2
    refine s_seq (s_forN 5 S.nd (x_others T hr (x_v 3) (x_ixT (x_v 4) x_int (SqT.of h1) rfl) RA fo) (fun l i σ' H' => (∃ x0, σ' = [some (.ref x), some (.ref p), some (.ref q), some (.ref a), some (.ref th), x0]) ∧ Ex H H' ∧ H' l = some (.lst ((othersF R t.c).map V.int)) ∧ ∀ j o, j < i → (othersF R t.c)[j]? = some o → standsF (vF ms o) d = false)
      (fun l H1 k1 nl hl => ⟨⟨none, rfl⟩, k1, hl, fun j _ hj => by omega⟩) (fun l i σ' H' _ z => SqL.of z.2.2.1) ?_ ?_)
    · rintro l i y σ' H' hy ⟨⟨x0, rfl⟩, hE, hl, hno⟩
      obtain ⟨o, ho, rfl⟩ := at_intsI hy
      have om := List.mem_of_getElem? ho
      refine s_one (s_when (t_val (x_stands T hr (x_mask (MA.mono hE) (x_v 2) (x_v 5) (sub_others RA.1 om)) (x_ixL (x_ixT (x_v 4) x_int (SqT.of (hE th _ h1)) rfl) x_int (SqL.of (hE m _ h2)) at0) ⟨d1, by omega⟩)) (fun hb H2 k2 => ?_) (fun hb H2 k2 => ?_))
      · exact s_one (r_ret (hE.trans k2) (XG.yes x_bl fun z => by cases z))
      · refine ⟨⟨_, rfl⟩, hE.trans k2, k2 l _ hl, fun j o' hj hoj => ?_⟩
        by_cases hji : j < i
        · exact hno j o' hji hoj
        · have ej : j = i := by omega
          have eo : o' = o := Option.some.inj (hoj.symm.trans (by rw [ej]; exact ho))
          rw [eo]
          exact hb
    · rintro l σ' H' ⟨⟨x0, rfl⟩, hE, hl, hno⟩
      refine s_one (r_ret hE (XG.yes x_bl fun _ => ?_))
      intro d' hd' o ho
      rw [hd] at hd'
      cases hd'
      obtain ⟨j, hj⟩ := List.mem_iff_getElem?.mp ho
      exact hno j o (by rw [List.length_map]; exact (List.getElem?_eq_some_iff.mp hj).1) hj
theorem strikes_count (T : Top w K mg base) : MF P w K mg base 7 (ga K Kn.count.cls) "strikes" ["self", "puzzle", "masks", "rule", "thought"] (rStrikes .count K) := by
  obtain ⟨f, fd, M, F⟩ := T.defM "Count" "strikes" "Count.strikes" 36 2
  have S : FnScope ["self", "puzzle", "masks", "rule", "thought", "sign", "others", "other"] ["self", "puzzle", "masks", "rule", "thought"] (defScope (mth 36 2)) := ⟨rfl, rfl, rfl, by decide +kernel, rfl, by decide +kernel, by decide +kernel⟩
  refine ⟨f, fg_of F S (fun vs H r h => ?_) (fun _ _ _ _ _ _ us hl => match us, hl with | [_, _, _, _, _], _ => rfl) (fun cdv A outer s H E vs r hr h => ?_), M⟩
  · obtain ⟨_, _, _, _, _, _, _, _, _, _, _, rfl, _⟩ := h
    rfl
  · obtain ⟨x, p, q, a, th, m, D, R, t, wd, ms, rfl, PA, MA, RA, ⟨h1, h2⟩, ok, fit, rfl⟩ := h
    obtain ⟨ek, _⟩ := fit
    have fo := PA.1.fo
    have f6 := fo.s6
    have r6 := RA.1.s0.2
    have r1 := RA.1.s1 (.inl ek)
    have ol := others_len fo RA.1 t.c
    refine q_setV 5 S.nd (x_sign T hr (x_v 3) RA) fun H1 k1 => ?_
    refine q_set 6 S.nd (x_others T hr (x_v 3) (x_ixT (x_v 4) x_int (SqT.of (k1 th _ h1)) rfl) (RA.mono k1) fo) fun v H2 k2 gg => ?_
    obtain ⟨l, rfl, _, hl⟩ := gg
    have K2 := k1.trans k2
    refine q_when (t_c (c_eqI (x_ixT (x_v 4) x_int (SqT.of (K2 th _ h1)) rfl) (x_v 5))) (fun hb H3 k3 => ?_) (fun hb H3 k3 => ?_)
    · have K3 := K2.trans k3
      refine s_one (r_ret K3 (XG.yes (x_c (c_ge (x_lenN (x_l (l_I 7 (fun y => onlyF (vF ms y) R.s) V.int S.nd (@blkOk_by ["self", "puzzle", "masks", "rule", "thought", "sign", "others", "other"] (defScope (mth 36 2)) _ _ (by decide +kernel)) (x_v 6) (hrL (k3 l _ hl)) (by omega)
        (fun s' H0 cl C fp y H2 hy k => ts_one (t_val (x_only T hr (x_mask (MA.mono (K3.trans k)) (x_v 2) (x_v 7) (sub_others RA.1 hy)) (x_v 5) ⟨r1, by omega⟩))) (fun s' H0 cl C fp y H2 hy hp k => x_v 7))) (T.free "len")) (x_number T hr (x_v 3) (RA.mono K3)))) fun hc => show strikesP .count D.F D.clues ms R t from Or.inl ⟨of_decide_eq_true hb, ?_⟩))
      have hc := of_decide_eq_true hc
      rwa [List.length_map] at hc
    · have K3 := K2.trans k3
      refine q_ret K3 (XG.yes (x_c (c_lt (x_lenN (x_l (l_I 7 (fun y => standsF (vF ms y) R.s) V.int S.nd (@blkOk_by ["self", "puzzle", "masks", "rule", "thought", "sign", "others", "other"] (defScope (mth 36 2)) _ _ (by decide +kernel)) (x_v 6) (hrL (k3 l _ hl)) (by omega)
        (fun s' H0 cl C fp y H2 hy k => ts_one (t_val (x_stands T hr (x_mask (MA.mono (K3.trans k)) (x_v 2) (x_v 7) (sub_others RA.1 hy)) (x_v 5) ⟨r1, by omega⟩))) (fun s' H0 cl C fp y H2 hy hp k => x_v 7))) (T.free "len")) (x_number T hr (x_v 3) (RA.mono K3)))) fun hc => show strikesP .count D.F D.clues ms R t from Or.inr ⟨of_decide_eq_false hb, ?_⟩)
      have hc := of_decide_eq_true hc
      rwa [List.length_map] at hc
end
end Ck

set_option maxRecDepth 100000
set_option maxHeartbeats 4000000
namespace Ck
open PySem PySem.Spec PyProof.Rows L2 Evl
/-! ### min, max with default=, minus one -/
theorem minOf_le (x : Int) : ∀ xs : List Int, PySem.W.minOf x xs ≤ x ∧ ∀ y ∈ xs, PySem.W.minOf x xs ≤ y := fun xs => by
  unfold PySem.W.minOf
  induction xs generalizing x with
  | nil => exact ⟨Int.le_refl _, fun y h => nomatch h⟩
  | cons z zs ih =>
    rw [List.foldl_cons]
    obtain ⟨a, b⟩ := ih (if PySem.W.DatumOrd.lt z x = true then z else x)
    have e : PySem.W.DatumOrd.lt z x = decide (z < x) := rfl
    rw [e] at a b ⊢
    by_cases h : z < x
    · rw [decide_eq_true h, if_pos rfl] at a b ⊢
      exact ⟨by omega, fun y hy => by rcases List.mem_cons.mp hy with rfl | hy; exact a; exact b y hy⟩
    · rw [decide_eq_false h, if_neg Bool.false_ne_true] at a b ⊢
      exact ⟨a, fun y hy => by rcases List.mem_cons.mp hy with rfl | hy; omega; exact b y hy⟩
theorem maxOf_le (x : Int) : ∀ xs : List Int, x ≤ PySem.W.maxOf x xs ∧ ∀ y ∈ xs, y ≤ PySem.W.maxOf x xs := fun xs => by
  unfold PySem.W.maxOf
  induction xs generalizing x with
  | nil => exact ⟨Int.le_refl _, fun y h => nomatch h⟩
  | cons z zs ih =>
    rw [List.foldl_cons]
    obtain ⟨a, b⟩ := ih (if PySem.W.DatumOrd.lt x z = true then z else x)
    have e : PySem.W.DatumOrd.lt x z = decide (x < z) := rfl
    rw [e] at a b ⊢
    by_cases h : x < z
    · rw [decide_eq_true h, if_pos rfl] at a b ⊢
      exact ⟨by omega, fun y hy => by rcases List.mem_cons.mp hy with rfl | hy; exact a; exact b y hy⟩
    · rw [decide_eq_false h, if_neg Bool.false_ne_true] at a b ⊢
      exact ⟨a, fun y hy => by rcases List.mem_cons.mp hy with rfl | hy; omega; exact b y hy⟩
theorem holds_intD {h : Heap} {v : Value} {m : Int} (H : PySem.W.Holds h v m) : ∃ t, v = .int m t := by
  have := (PySem.W.HoldAll.cons H PySem.W.HoldAll.nil).toInts
  cases this with
  | cons n t _ => exact ⟨t, rfl⟩
def minDF (ns : List Int) (d : Int) : Int := match ns with
  | [] => d
  | y :: ys => PySem.W.minOf y ys
def maxDF (ns : List Int) (d : Int) : Int := match ns with
  | [] => d
  | y :: ys => PySem.W.maxOf y ys
theorem minDF_le {ns : List Int} {d s : Int} (h : s ≤ minDF ns d) : ∀ x ∈ ns, s ≤ x := fun x hx => by
  cases ns with
  | nil => cases hx
  | cons y ys =>
    obtain ⟨b1, b2⟩ := minOf_le y ys
    have h : s ≤ PySem.W.minOf y ys := h
    rcases List.mem_cons.mp hx with rfl | hz
    · omega
    · have := b2 x hz
      omega
theorem maxDF_le {ns : List Int} {d s : Int} (h : maxDF ns d ≤ s) : ∀ x ∈ ns, x ≤ s := fun x hx => by
  cases ns with
  | nil => cases hx
  | cons y ys =>
    obtain ⟨b1, b2⟩ := maxOf_le y ys
    have h : PySem.W.maxOf y ys ≤ s := h
    rcases List.mem_cons.mp hx with rfl | hz
    · omega
    · have := b2 x hz
      omega
def rMinD (K : PySem.W.Frag) : List V → List V → Hp → VK → Prop := fun vs zs H Q => ∃ (a : Addr) (ns : List Int) (d : Int), vs = [V.ref a] ∧ zs = [.int d] ∧ SqL K H a (ns.map V.int) ∧ Q (.int (minDF ns d)) H
theorem cr_minD {X : Cx} (hc : X.calm = true) (hu : X.A.units + 64 < cLine) : CallRK X (.builtin "min") [Str.ofString "default"] (rMinD X.K) := by
  intro pins s σ H xs zs us ws Q I r1 r2 h
  obtain ⟨a, ns, d, rfl, rfl, hs, q⟩ := h
  obtain ⟨its, rv, hl, _⟩ := I.list hs
  rw [Vals.ref1 r1]
  obtain ⟨w1, rfl, e1⟩ := vals1 r2
  obtain ⟨t, rfl⟩ := e1
  refine PySem.W.min_list_datum_default (I.ok.hd hc) hl.isList (PySem.W.HoldAll.of_ints rv.ints) (by show X.A.units + 1 + 0 < cLine; omega) (fun e h' tk hk => ?_) fun y ys i v h' tk e hi hv hk => ?_
  · subst e
    exact ⟨.int d, H, I.kept hk, ⟨t, rfl⟩, q⟩
  · obtain ⟨t', rfl⟩ := holds_intD hv
    subst e
    exact ⟨.int _, H, I.kept hk, ⟨t', rfl⟩, q⟩
theorem x_minD {X : Cx} {σ : L2.St} {H : Hp} {e a : Expr} {p kp pos : Pos} {r : Rt} {ns : List Int} {d : Int} (hu : X.A.units + 64 < cLine) (ha : XG X σ H e r) (hr : ∀ v H1, Ex H H1 → r.go H v H1 → ∃ l, v = .ref l ∧ SqL X.K H1 l (ns.map V.int)) (hd : XV X σ H a (.int d)) (hm : X.mg "min" = none) (hg : Gl X "min" := by rfl) (hc : X.calm = true := by rfl)
    (hst : starEach [e] X.env = (false, eval e X.env) :: starEach [] X.env := by rfl)
    (he : backTo pos (starEach [e] X.env) = (false, eval e X.env) :: backTo pos (starEach [] X.env) := by rfl) (hpl : (backTo pos (starEach [e] X.env)).any (·.1) = false := by rfl)
    (hall : (backToKw pos (keywordEach [⟨some "default", a, kp⟩] X.env)).all (·.1.isSome) = true := by rfl) (hnone : (backToKw pos (keywordEach [⟨some "default", a, kp⟩] X.env)).any (·.1.isNone) = false := by rfl) (hks : (backToKw pos (keywordEach [⟨some "default", a, kp⟩] X.env)).filterMap (·.1) = [Str.ofString "default"] := by rfl) :
    XV X σ H (.Call (.Name "min" p) [e] [⟨some "default", a, kp⟩] pos) (.int (minDF ns d)) := fun H1 e1 Q k =>
  to_e (pe_callBK (cr_minD hc hu) hg hm (by decide +kernel) (pa_cons pe_sem pa_nil hst) (pk_cons pe_sem pk_nil) (by decide) (by decide) he hpl hall hnone hks) (ha H1 e1 _ fun v H2 e2 g => by
    obtain ⟨l, rfl, hl⟩ := hr v H2 (e1.trans e2) (go_back e1 g)
    exact hd H2 (e1.trans e2) _ fun _ H3 e3 g3 => by
      cases g3
      exact ⟨l, ns, d, rfl, rfl, ex_l e3 hl, k _ H3 (e2.trans e3) rfl⟩)
def rMaxD (K : PySem.W.Frag) : List V → List V → Hp → VK → Prop := fun vs zs H Q => ∃ (a : Addr) (ns : List Int) (d : Int), vs = [V.ref a] ∧ zs = [.int d] ∧ SqL K H a (ns.map V.int) ∧ Q (.int (maxDF ns d)) H
theorem cr_maxD {X : Cx} (hc : X.calm = true) (hu : X.A.units + 64 < cLine) : CallRK X (.builtin "max") [Str.ofString "default"] (rMaxD X.K) := by
  intro pins s σ H xs zs us ws Q I r1 r2 h
  obtain ⟨a, ns, d, rfl, rfl, hs, q⟩ := h
  obtain ⟨its, rv, hl, _⟩ := I.list hs
  rw [Vals.ref1 r1]
  obtain ⟨w1, rfl, e1⟩ := vals1 r2
  obtain ⟨t, rfl⟩ := e1
  refine PySem.W.max_list_datum_default (I.ok.hd hc) hl.isList (PySem.W.HoldAll.of_ints rv.ints) (by show X.A.units + 1 + 0 < cLine; omega) (fun e h' tk hk => ?_) fun y ys i v h' tk e hi hv hk => ?_
  · subst e
    exact ⟨.int d, H, I.kept hk, ⟨t, rfl⟩, q⟩
  · obtain ⟨t', rfl⟩ := holds_intD hv
    subst e
    exact ⟨.int _, H, I.kept hk, ⟨t', rfl⟩, q⟩
theorem x_maxD {X : Cx} {σ : L2.St} {H : Hp} {e a : Expr} {p kp pos : Pos} {r : Rt} {ns : List Int} {d : Int} (hu : X.A.units + 64 < cLine) (ha : XG X σ H e r) (hr : ∀ v H1, Ex H H1 → r.go H v H1 → ∃ l, v = .ref l ∧ SqL X.K H1 l (ns.map V.int)) (hd : XV X σ H a (.int d)) (hm : X.mg "max" = none) (hg : Gl X "max" := by rfl) (hc : X.calm = true := by rfl)
    (hst : starEach [e] X.env = (false, eval e X.env) :: starEach [] X.env := by rfl)
    (he : backTo pos (starEach [e] X.env) = (false, eval e X.env) :: backTo pos (starEach [] X.env) := by rfl) (hpl : (backTo pos (starEach [e] X.env)).any (·.1) = false := by rfl)
    (hall : (backToKw pos (keywordEach [⟨some "default", a, kp⟩] X.env)).all (·.1.isSome) = true := by rfl) (hnone : (backToKw pos (keywordEach [⟨some "default", a, kp⟩] X.env)).any (·.1.isNone) = false := by rfl) (hks : (backToKw pos (keywordEach [⟨some "default", a, kp⟩] X.env)).filterMap (·.1) = [Str.ofString "default"] := by rfl) :
    XV X σ H (.Call (.Name "max" p) [e] [⟨some "default", a, kp⟩] pos) (.int (maxDF ns d)) := fun H1 e1 Q k =>
  to_e (pe_callBK (cr_maxD hc hu) hg hm (by decide +kernel) (pa_cons pe_sem pa_nil hst) (pk_cons pe_sem pk_nil) (by decide) (by decide) he hpl hall hnone hks) (ha H1 e1 _ fun v H2 e2 g => by
    obtain ⟨l, rfl, hl⟩ := hr v H2 (e1.trans e2) (go_back e1 g)
    exact hd H2 (e1.trans e2) _ fun _ H3 e3 g3 => by
      cases g3
      exact ⟨l, ns, d, rfl, rfl, ex_l e3 hl, k _ H3 (e2.trans e3) rfl⟩)
theorem atLast {α : Type} {xs : List α} {x : α} (h : xs.getLast? = some x) : atI xs (-1) = some x := by
  unfold atI ixN
  rw [List.getLast?_eq_getElem?] at h
  have hl : xs.length - 1 < xs.length := (List.getElem?_eq_some_iff.mp h).1
  rw [if_neg (by decide), if_pos (by omega)]
  show xs[(-1 + (xs.length : Int)).toNat]? = some x
  rw [show (-1 + (xs.length : Int)).toNat = xs.length - 1 by omega]
  exact h
theorem x_neg1 {X : Cx} {σ : L2.St} {H : Hp} {k : Nat} {p1 p2 : Pos} : XV X σ H (.UnaryOp .USub (.Constant (.int 1) k p1) p2) (.int (-1)) := fun H1 e1 Q q =>
  to_e (pe_un un_neg pe_int) ⟨1, rfl, q _ H1 (Ex.refl H1) rfl⟩
end Ck

set_option maxRecDepth 100000
set_option maxHeartbeats 4000000
namespace Ck
open PySem PySem.Spec PyProof.Rows L2 Evl
theorem sum_snoc (l : List Int) (x : Int) : (l ++ [x]).sum = l.sum + x := by
  induction l with
  | nil => simp
  | cons a l ih => simp only [List.cons_append, List.sum_cons, ih]; omega
theorem take_snoc {α : Type} {l : List α} {i : Nat} {x : α} (h : l[i]? = some x) : l.take (i + 1) = l.take i ++ [x] := by rw [List.take_add_one, h]; rfl
section
variable {P : Program} {w : World} {K : PySem.W.Frag} {mg : Str → Option Value} {base : Heap}
theorem strikes_sum (T : Top w K mg base) : MF P w K mg base 7 (ga K Kn.sum.cls) "strikes" ["self", "puzzle", "masks", "rule", "thought"] (rStrikes .sum K) := by
  obtain ⟨f, fd, M, F⟩ := T.defM "Sums" "strikes" "Sums.strikes" 39 2
  have S : FnScope ["self", "puzzle", "masks", "rule", "thought", "low", "high", "other", "signs"] ["self", "puzzle", "masks", "rule", "thought"] (defScope (mth 39 2)) := ⟨rfl, rfl, rfl, by decide +kernel, rfl, by decide +kernel, by decide +kernel⟩
  refine ⟨f, fg_of F S (fun vs H r h => ?_) (fun _ _ _ _ _ _ us hl => match us, hl with | [_, _, _, _, _], _ => rfl) (fun cdv A outer s H E vs r hr h => ?_), M⟩
  · obtain ⟨_, _, _, _, _, _, _, _, _, _, _, rfl, _⟩ := h
    rfl
  · obtain ⟨x, p, q, a, th, m, D, R, t, wd, ms, rfl, PA, MA, RA, ⟨h1, h2⟩, ok, fit, rfl⟩ := h
    have fo := PA.1.fo
    have f6 := fo.s6
    have s1 := ok.s1
    have s6 := ok.s6
    have hw := fo.hw
    have r6 := RA.1.s0.2
    have ol := others_len fo RA.1 t.c
    refine q_setV 5 S.nd (x_ixT (x_v 4) x_int (SqT.of h1) rfl) fun H1 k1 => ?_
    refine q_setV 6 S.nd (x_ixT (x_v 4) x_int (SqT.of (k1 th _ h1)) rfl) fun H2 k2 => ?_
    have K2 := k1.trans k2
    refine s_seq (s_forN 7 S.nd (x_others T hr (x_v 3) (x_ixT (x_v 4) x_int (SqT.of (K2 th _ h1)) rfl) (RA.mono K2) fo) (fun l i σ' H' => (∃ x0 x1, σ' = [some (.ref x), some (.ref p), some (.ref q), some (.ref a), some (.ref th), some (.int (t.s + loF ms ((othersF R t.c).take i))), some (.int (t.s + hiF ms ((othersF R t.c).take i))), x0, x1]) ∧ Ex H H' ∧ H' l = some (.lst ((othersF R t.c).map V.int)))
      (fun l H1 k1 nl hl => ⟨⟨none, none, by simp [loF, hiF]; rfl⟩, K2.trans k1, hl⟩) (fun l i σ' H' _ z => SqL.of z.2.2) ?_ ?_)
    · rintro l i y σ' H' hy ⟨⟨x0, x1, rfl⟩, hE, hl⟩
      obtain ⟨o, ho, rfl⟩ := at_intsI hy
      have om := List.mem_of_getElem? ho
      have sb := sub_others RA.1 om
      refine q_set 8 S.nd (x_signs T hr (x_mask (MA.mono hE) (x_v 2) (x_v 7) sb) (ma_bits MA sb)) fun v H2 k2 gg => ?_
      obtain ⟨sl, rfl, _, hs⟩ := gg
      have E2 := hE.trans k2
      refine q_when (t_c (c_eqNil hr.units (x_v 8) hs (x_lst e_nil (by decide)))) (fun hb H3 k3 => ?_) (fun hb H3 k3 => ?_)
      · refine s_one (r_ret (E2.trans k3) (XG.yes (p := strikesP .sum D.F D.clues ms R t) x_bl fun _ => .inl ⟨o, om, ?_⟩))
        exact List.isEmpty_iff.mp hb
      · have hs3 := k3 sl _ hs
        obtain ⟨z0, zs, ez⟩ : ∃ z0 zs, signsF (vF ms o) = z0 :: zs := by
          cases e : signsF (vF ms o) with
          | nil => rw [e] at hb; cases hb
          | cons z0 zs => exact ⟨z0, zs, rfl⟩
        obtain ⟨zl, hzl⟩ : ∃ zl, (signsF (vF ms o)).getLast? = some zl := by rw [ez]; exact ⟨_, List.getLast?_cons⟩
        have et := take_snoc ho
        have el : loF ms ((othersF R t.c).take (i + 1)) = loF ms ((othersF R t.c).take i) + z0 := by
          unfold loF
          rw [et, List.map_append, List.map_singleton, sum_snoc, ez]
          rfl
        have eh : hiF ms ((othersF R t.c).take (i + 1)) = hiF ms ((othersF R t.c).take i) + zl := by
          unfold hiF
          rw [et, List.map_append, List.map_singleton, sum_snoc, List.getLastD_eq_getLast?, hzl]
          rfl
        refine q_setV 5 S.nd (x_add (x_v 5) (x_ixL (v := .int z0) (x_v 8) x_int (SqL.of hs3) (by rw [ez]; exact at0))) fun H4 k4 => ?_
        refine s_one (s_set 6 S.nd (x_add (x_v 6) (x_ixL (v := .int zl) (x_v 8) x_neg1 (SqL.of (k4 sl _ hs3)) (atLast (by rw [List.getLast?_map, hzl]; rfl)))) fun v H5 k5 g5 => ?_)
        cases g5
        refine ⟨⟨_, _, by rw [el, eh, ← Int.add_assoc, ← Int.add_assoc]; rfl⟩, ((E2.trans k3).trans k4).trans k5, k5 l _ (k4 l _ (k3 l _ (k2 l _ hl)))⟩
    · rintro l σ' H' ⟨⟨x0, x1, rfl⟩, hE, hl⟩
      rw [List.length_map, List.take_length]
      refine s_one (r_ret hE (XG.yes (p := strikesP .sum D.F D.clues ms R t) (x_or2 (x_c (c_gt (x_v 5) (x_number T hr (x_v 3) (RA.mono hE)))) fun _ => x_c (c_lt (x_v 6) (x_number T hr (x_v 3) (RA.mono hE)))) fun hb => .inr ?_))
      simpa only [Bool.or_eq_true, decide_eq_true_eq] using hb
theorem strikes_square (T : Top w K mg base) : MF P w K mg base 7 (ga K Kn.square.cls) "strikes" ["self", "puzzle", "masks", "rule", "thought"] (rStrikes .square K) := by
  obtain ⟨f, fd, M, F⟩ := T.defM "Square" "strikes" "Square.strikes" 45 2
  have S : FnScope ["self", "puzzle", "masks", "rule", "thought", "cell"] ["self", "puzzle", "masks", "rule", "thought"] (defScope (mth 45 2)) := ⟨rfl, rfl, rfl, by decide +kernel, rfl, by decide +kernel, by decide +kernel⟩
  refine ⟨f, fg_of F S (fun vs H r h => ?_) (fun _ _ _ _ _ _ us hl => match us, hl with | [_, _, _, _, _], _ => rfl) (fun cdv A outer s H E vs r hr h => ?_), M⟩
  · obtain ⟨_, _, _, _, _, _, _, _, _, _, _, rfl, _⟩ := h
    rfl
  · obtain ⟨x, p, q, a, th, m, D, R, t, wd, ms, rfl, PA, MA, RA, ⟨h1, h2⟩, ok, fit, rfl⟩ := h
    have fo := PA.1.fo
    have f6 := fo.s6
    have s1 := ok.s1
    have s6 := ok.s6
    have hw := fo.hw
    obtain ⟨ek, es, k0, hd, hin⟩ := fit
    rw [hd] at h2
    refine s_seq (s_forG 5 S.nd (x_squareAt T hr (x_v 1) (x_ixL (x_ixT (x_v 4) x_int (SqT.of h1) rfl) x_int (SqL.of h2) at0) PA) fun v H1 k1 gg => ?_)
    obtain ⟨l, ns, rfl, hl, rfl⟩ := gg
    refine ⟨l, (squareAt D.F k0).map V.int, fun i σ' H' => (∃ x0, σ' = [some (.ref x), some (.ref p), some (.ref q), some (.ref a), some (.ref th), x0]) ∧ Ex H1 H' ∧ ∀ j y, j < i → (squareAt D.F k0)[j]? = some y → y ≠ t.c → onlyF (vF ms y) t.s = true, rfl, SqL.of hl, ⟨⟨none, rfl⟩, Ex.refl H1, fun j _ hj => by omega⟩, fun i σ' H' z => SqL.of (z.2.1 l _ hl), ?_, ?_⟩
    · rintro i y σ' H' hy ⟨⟨x0, rfl⟩, hE, hno⟩
      obtain ⟨o, ho, rfl⟩ := at_intsI hy
      have om := List.mem_of_getElem? ho
      have sb : 0 ≤ o ∧ o < D.F.h * D.F.w := by
        unfold squareAt at om
        split at om
        · next hc =>
          exact (sq_in fo (List.mem_map.mpr ⟨k0, List.mem_filter.mpr hc, rfl⟩)).2 o om
        · cases om
      have E2 := k1.trans hE
      refine s_one (s_when (t_and (t_c (c_neI (x_v 5) (x_ixT (x_v 4) x_int (SqT.of (E2 th _ h1)) rfl))) fun _ => t_not (t_val (x_only T hr (x_mask (MA.mono E2) (x_v 2) (x_v 5) sb) (x_ixT (x_v 4) x_int (SqT.of (E2 th _ h1)) rfl) ⟨s1, by omega⟩))) (fun hb H2 k2 => ?_) (fun hb H2 k2 => ?_))
      · exact s_one (r_ret (E2.trans k2) (XG.yes x_bl fun z => by cases z))
      · refine ⟨⟨_, rfl⟩, hE.trans k2, fun j o' hj hoj hne => ?_⟩
        by_cases hji : j < i
        · exact hno j o' hji hoj hne
        · have ej : j = i := by omega
          have eo : o' = o := Option.some.inj (hoj.symm.trans (by rw [ej]; exact ho))
          rw [eo] at hne ⊢
          rw [decide_eq_false hne] at hb
          simpa using hb
    · rintro σ' H' ⟨⟨x0, rfl⟩, hE, hno⟩
      refine s_one (r_ret (k1.trans hE) (XG.yes (p := strikesP .square D.F D.clues ms R t) x_bl fun _ => ?_))
      intro d' hd' o ho hne
      rw [hd] at hd'
      cases hd'
      obtain ⟨j, hj⟩ := List.mem_iff_getElem?.mp ho
      exact hno j o (by rw [List.length_map]; exact (List.getElem?_eq_some_iff.mp hj).1) hj hne
theorem strikes_pair (T : Top w K mg base) : MF P w K mg base 7 (ga K Kn.pair.cls) "strikes" ["self", "puzzle", "masks", "rule", "thought"] (rStrikes .pair K) := by
  obtain ⟨f, fd, M, F⟩ := T.defM "Pair" "strikes" "Pair.strikes" 32 2
  have S : FnScope ["self", "puzzle", "masks", "rule", "thought", "signs", "sign"] ["self", "puzzle", "masks", "rule", "thought"] (defScope (mth 32 2)) := ⟨rfl, rfl, rfl, by decide +kernel, rfl, by decide +kernel, by decide +kernel⟩
  refine ⟨f, fg_of F S (fun vs H r h => ?_) (fun _ _ _ _ _ _ us hl => match us, hl with | [_, _, _, _, _], _ => rfl) (fun cdv A outer s H E vs r hr h => ?_), M⟩
  · obtain ⟨_, _, _, _, _, _, _, _, _, _, _, rfl, _⟩ := h
    rfl
  · obtain ⟨x, p, q, a, th, m, D, R, t, wd, ms, rfl, PA, MA, RA, ⟨h1, h2⟩, ok, fit, rfl⟩ := h
    have fo := PA.1.fo
    have f6 := fo.s6
    have s1 := ok.s1
    have s6 := ok.s6
    have hw := fo.hw
    obtain ⟨ek, _, d, e, hd, hne, hod, hoe⟩ := fit
    rw [hd] at h2
    have sd := sub_others RA.1 hod
    have se := sub_others RA.1 hoe
    have md := ma_in MA sd
    have me := ma_in MA se
    have mo := or_of md.1 md.2 me.1 me.2
    have mb := bits_of mo.1 mo.2
    refine q_set 5 S.nd (x_signs T hr (x_or (x_mask MA (x_v 2) (x_ixL (x_ixT (x_v 4) x_int (SqT.of h1) rfl) x_int (SqL.of h2) at0) sd) (x_mask MA (x_v 2) (x_ixL (x_ixT (x_v 4) x_int (SqT.of h1) rfl) x_int (SqL.of h2) at1) se)) (by omega)) fun v H1 k1 gg => ?_
    obtain ⟨l, rfl, _, hl⟩ := gg
    have sl := signs_len (Builtin.bitOr (vF ms d) (vF ms e))
    refine q_ret k1 (XG.yes (p := strikesP .pair D.F D.clues ms R t) (x_c (c_le (x_lenN (x_l (l_I 6 (fun y => !decide (y = t.s)) V.int S.nd (@blkOk_by ["self", "puzzle", "masks", "rule", "thought", "signs", "sign"] (defScope (mth 32 2)) _ _ (by decide +kernel)) (x_v 5) (hrL hl) (by omega)
      (fun s' H0 cl C fp y H2 hy k => ts_one (t_c (c_neI (x_v 6) (x_ixT (x_v 4) x_int (SqT.of (k th _ (k1 th _ h1))) rfl)))) (fun s' H0 cl C fp y H2 hy hp k => x_v 6))) (T.free "len")) x_int)) fun hc => ?_)
    intro d' e' hd'
    rw [hd] at hd'
    cases hd'
    have hc := of_decide_eq_true hc
    rw [List.length_map] at hc
    omega
/-! may_have, must_have -/
def rMay (Fm : List Int → Int → List Int) : Rl := fun vs H r => ∃ (q : Addr) (ms : List Int) (s : Int), vs = [.ref q, .int s] ∧ H q = some (.lst (ms.map V.int)) ∧ ms.length ≤ 100 ∧ (1 ≤ s ∧ s ≤ 100) ∧ r = .lst ((Fm ms s).map V.int)
theorem may_at {ms : List Int} {i : Nat} (h : i < ms.length) : atI (ms.map V.int) ((0 : Int) + (i : Int)) = some (V.int (vF ms ((0 : Int) + (i : Int)))) := by
  rw [Int.zero_add]
  exact at_ints h
theorem sc_mayhave : FnScope ["masks", "sign", "cell"] ["masks", "sign"] (defScope (top 42)) := ⟨rfl, rfl, rfl, by decide +kernel, rfl, by decide +kernel, by decide +kernel⟩
theorem ok_mayhave (T : Top w K mg base) : DF P w K mg base 3 "may_have" ["masks", "sign"] (rMay mayF) := by
  obtain ⟨f, fd, hm, F⟩ := T.defG "may_have" 42
  have S := sc_mayhave
  refine ⟨f, fg_of F S (fun vs H r h => ?_) (fun _ _ _ _ _ _ us hl => match us, hl with | [_, _], _ => rfl) (fun cdv A outer s H E vs r hr h => ?_), hm, F.kp⟩
  · obtain ⟨_, _, _, rfl, _⟩ := h
    rfl
  · obtain ⟨q, ms, sg, rfl, hq, hl, hs, rfl⟩ := h
    refine q_ret (Ex.refl H) (x_l (l_RI (lo := 0) (m := ms.length) 2 (fun c => standsF (vF ms c) sg) V.int S.nd (@blkOk_by ["masks", "sign", "cell"] (defScope (top 42)) _ _ (by decide +kernel)) (pi_range1 rfl (T.free "range") (pa_cons pe_sem pa_nil))
      (fun H1 k R q' => pr_1 (x_len (x_v 0) (.inl (SqL.of hq)) (T.free "len")) (by rw [List.length_map]; omega) H1 k R fun H2 k2 => by rw [List.length_map, Int.toNat_natCast]; exact q' H2 k2) (by omega)
      (fun s' H0 cl C fp i H1 hi k => ts_one (t_val (x_stands T hr (x_ixL (x_v 0) (x_v 2) (SqL.of (k q _ hq)) (may_at hi)) (x_v 1) hs))) fun s' H0 cl C fp i H1 hi hp k => x_v 2))
theorem sc_musthave : FnScope ["masks", "sign", "cell"] ["masks", "sign"] (defScope (top 43)) := ⟨rfl, rfl, rfl, by decide +kernel, rfl, by decide +kernel, by decide +kernel⟩
theorem ok_musthave (T : Top w K mg base) : DF P w K mg base 3 "must_have" ["masks", "sign"] (rMay mustF) := by
  obtain ⟨f, fd, hm, F⟩ := T.defG "must_have" 43
  have S := sc_musthave
  refine ⟨f, fg_of F S (fun vs H r h => ?_) (fun _ _ _ _ _ _ us hl => match us, hl with | [_, _], _ => rfl) (fun cdv A outer s H E vs r hr h => ?_), hm, F.kp⟩
  · obtain ⟨_, _, _, rfl, _⟩ := h
    rfl
  · obtain ⟨q, ms, sg, rfl, hq, hl, hs, rfl⟩ := h
    refine q_ret (Ex.refl H) (x_l (l_RI (lo := 0) (m := ms.length) 2 (fun c => onlyF (vF ms c) sg) V.int S.nd (@blkOk_by ["masks", "sign", "cell"] (defScope (top 43)) _ _ (by decide +kernel)) (pi_range1 rfl (T.free "range") (pa_cons pe_sem pa_nil))
      (fun H1 k R q' => pr_1 (x_len (x_v 0) (.inl (SqL.of hq)) (T.free "len")) (by rw [List.length_map]; omega) H1 k R fun H2 k2 => by rw [List.length_map, Int.toNat_natCast]; exact q' H2 k2) (by omega)
      (fun s' H0 cl C fp i H1 hi k => ts_one (t_val (x_only T hr (x_ixL (x_v 0) (x_v 2) (SqL.of (k q _ hq)) (may_at hi)) (x_v 1) hs))) fun s' H0 cl C fp i H1 hi hp k => x_v 2))
end
end Ck

set_option maxRecDepth 100000
set_option maxHeartbeats 4000000
namespace Ck
open PySem PySem.Spec PyProof.Rows L2 Evl
section
variable {X : Cx} {σ : L2.St} {H : Hp} {a b e : Expr} {p pos : Pos} {k : Nat} {q : Addr} {F : Fl} {ms : List Int} {D : PuD}
theorem x_may {s : Int} (T : Top X.w X.K X.mg X.base) (hr : Room k X.A) (ha : XV X σ H a (.ref q)) (hb : XV X σ H b (.int s)) (M : MaAt F H q ms) (hw : F.h * F.w ≤ 16) (hs : 1 ≤ s ∧ s ≤ 100) (hk : 3 ≤ k := by decide) (hg : Gl X "may_have" := by rfl) (he : starEach [a, b] X.env = (false, eval a X.env) :: starEach [b] X.env := by rfl) (he2 : starEach [b] X.env = (false, eval b X.env) :: starEach [] X.env := by rfl) (hpl : (backTo pos (starEach [b] X.env)).any (·.1) = false := by rfl) :
    XG X σ H (.Call (.Name "may_have" p) [a, b] [] pos) (.lst ((mayF ms s).map V.int)) := x_call (ok_mayhave T) (hr.mono hk) (e_cons ha (e_1 hb he2) he) (fun _ e1 => ⟨q, ms, s, rfl, e1 q _ M.1, by have := M.2.1; omega, hs, rfl⟩) hg (by decide) he hpl
theorem x_must {s : Int} (T : Top X.w X.K X.mg X.base) (hr : Room k X.A) (ha : XV X σ H a (.ref q)) (hb : XV X σ H b (.int s)) (M : MaAt F H q ms) (hw : F.h * F.w ≤ 16) (hs : 1 ≤ s ∧ s ≤ 100) (hk : 3 ≤ k := by decide) (hg : Gl X "must_have" := by rfl) (he : starEach [a, b] X.env = (false, eval a X.env) :: starEach [b] X.env := by rfl) (he2 : starEach [b] X.env = (false, eval b X.env) :: starEach [] X.env := by rfl) (hpl : (backTo pos (starEach [b] X.env)).any (·.1) = false := by rfl) :
    XG X σ H (.Call (.Name "must_have" p) [a, b] [] pos) (.lst ((mustF ms s).map V.int)) := x_call (ok_musthave T) (hr.mono hk) (e_cons ha (e_1 hb he2) he) (fun _ e1 => ⟨q, ms, s, rfl, e1 q _ M.1, by have := M.2.1; omega, hs, rfl⟩) hg (by decide) he hpl
/-- reached(puzzle.place(), cells, start) -/
theorem x_reachedP {c : Expr} {cs : List Int} {s : Int} {pA pB : Pos} {o : Expr} (T : Top X.w X.K X.mg X.base) (hr : Room k X.A) (ho : XV X σ H o (.ref q)) (PA : PuAt X.K H q D) (hb : XG X σ H b (.gen fun v H1 => ∃ l : Addr, v = .ref l ∧ H1 l = some (.lst (cs.map V.int)))) (hz : cs.length ≤ 100) (hc : XV X σ H c (.int s)) (hk : 3 ≤ k := by decide) (hg : Gl X "reached" := by rfl) {pl : Sem Bool}
    (ht : eval (.Call (.Attribute o "place" pA) [] [] pB) X.env = (do
      let ov ← eval o X.env
      standAt pA.atName
      let (f, first) ← holding [ov] (getMethod ov "place" pl)
      callWith pB f first (backTo pB (starEach [] X.env)) (backToKw pB (keywordEach [] X.env))) := by rfl)
    (he : starEach [.Call (.Attribute o "place" pA) [] [] pB, b, c] X.env = (false, eval (.Call (.Attribute o "place" pA) [] [] pB) X.env) :: starEach [b, c] X.env := by rfl) (he3 : starEach [b, c] X.env = (false, eval b X.env) :: starEach [c] X.env := by rfl) (he2 : starEach [c] X.env = (false, eval c X.env) :: starEach [] X.env := by rfl) (hpl : (backTo pos (starEach [b, c] X.env)).any (·.1) = false := by rfl) :
    XG X σ H (.Call (.Name "reached" p) [.Call (.Attribute o "place" pA) [] [] pB, b, c] [] pos) (.gen fun v H' => ∃ (l : Addr) (ns : List Int), v = .ref l ∧ H' l = some (.lst (ns.map V.int)) ∧ (ns.Nodup ∧ ∀ x, x ∈ ns ↔ Reach D.F cs s x)) :=
  x_callA (ok_reached T) (hr.mono hk) (a_cons (x_place T hr ho PA (Nat.le_trans (by decide) hk) ht) (fun v H1 k1 gg => by
    obtain ⟨g, rfl, hgg⟩ := gg
    exact a_cons (hb.mono k1) (fun v H2 k2 gb => by
      obtain ⟨l, rfl, hl⟩ := gb
      exact a_v (hc.mono (k1.trans k2)) (a_nil fun H3 k3 => ⟨_, ⟨g, D.F, l, cs, s, rfl, k3 g _ (k2 g _ hgg), PA.1.fo, k3 l _ hl, hz, rfl⟩, fun _ _ _ z => z⟩) he2) he3) he) hg (by decide) he hpl
end
open Classical in
theorem niReach {F : Fl} {cs : List Int} {s d : Int} : ∀ ns : List Int, (ns.Nodup ∧ ∀ x, x ∈ ns ↔ Reach F cs s x) → decide (d ∈ ns) = decide (Reach F cs s d) := fun ns h => decide_eq_decide.mpr (h.2 d)
section
variable {P : Program} {w : World} {K : PySem.W.Frag} {mg : Str → Option Value} {base : Heap}
theorem may_len (ms : List Int) (s : Int) : (mayF ms s).length ≤ ms.length := Nat.le_trans (List.length_filter_le _ _) (by unfold rawC; simp)
theorem strikes_reach (T : Top w K mg base) : MF P w K mg base 7 (ga K Kn.reach.cls) "strikes" ["self", "puzzle", "masks", "rule", "thought"] (rStrikes .reach K) := by
  obtain ⟨f, fd, M, F⟩ := T.defM "Reach" "strikes" "Reach.strikes" 46 2
  have S : FnScope ["self", "puzzle", "masks", "rule", "thought", "sign", "cell", "more", "one", "some", "other"] ["self", "puzzle", "masks", "rule", "thought"] (defScope (mth 46 2)) := ⟨rfl, rfl, rfl, by decide +kernel, rfl, by decide +kernel, by decide +kernel⟩
  refine ⟨f, fg_of F S (fun vs H r h => ?_) (fun _ _ _ _ _ _ us hl => match us, hl with | [_, _, _, _, _], _ => rfl) (fun cdv A outer s H E vs r hr h => ?_), M⟩
  · obtain ⟨_, _, _, _, _, _, _, _, _, _, _, rfl, _⟩ := h
    rfl
  · obtain ⟨x, p, q, a, th, m, D, R, t, wd, ms, rfl, PA, MA, RA, ⟨h1, h2⟩, ok, fit, rfl⟩ := h
    have fo := PA.1.fo
    have f6 := fo.s6
    have s1 := ok.s1
    have s6 := ok.s6
    have hw := fo.hw
    obtain ⟨ek, hmore, hin⟩ := fit
    have r6 := RA.1.s0.2
    have r1 := RA.1.s1 (by rcases ek with e | e; exact .inr (.inl e); exact .inr (.inr (.inr e)))
    have ml := MA.2.1
    have yl := may_len ms R.s
    refine q_setV 5 S.nd (x_sign T hr (x_v 3) RA) fun H1 k1 => ?_
    refine q_setV 6 S.nd (x_ixT (x_v 4) x_int (SqT.of (k1 th _ h1)) rfl) fun H2 k2 => ?_
    refine q_setV 7 S.nd (x_ixT (x_v 4) x_int (SqT.of (k2 th _ (k1 th _ h1))) rfl) fun H3 k3 => ?_
    have K3 := (k1.trans k2).trans k3
    refine s_seq (s_forL 8 S.nd (x_v 7) (SqL.of (K3 m _ h2)) (fun i σ' H' => (∃ x0, σ' = [some (.ref x), some (.ref p), some (.ref q), some (.ref a), some (.ref th), some (.int R.s), some (.int t.c), some (.ref m), x0, none, none]) ∧ Ex H3 H' ∧ ∀ j y, j < i → t.more[j]? = some y → onlyF (vF ms y) R.s = true)
      (fun H2 k2 => ⟨⟨none, rfl⟩, k2, fun j _ hj => by omega⟩) (fun i σ' H' _ z => SqL.of (z.2.1 m _ (K3 m _ h2))) ?_ ?_)
    · rintro i y σ' H' hy ⟨⟨x0, rfl⟩, hE, hno⟩
      obtain ⟨o, ho, rfl⟩ := at_intsI hy
      obtain ⟨_, sb⟩ := hin o (List.mem_of_getElem? ho)
      have E2 := K3.trans hE
      refine s_one (s_when (t_not (t_val (x_only T hr (x_mask (MA.mono E2) (x_v 2) (x_v 8) sb) (x_v 5) ⟨r1, by omega⟩))) (fun hb H2 k2 => ?_) (fun hb H2 k2 => ?_))
      · exact s_one (r_ret (E2.trans k2) (XG.yes x_bl fun z => by cases z))
      · refine ⟨⟨_, rfl⟩, hE.trans k2, fun j o' hj hoj => ?_⟩
        by_cases hji : j < i
        · exact hno j o' hji hoj
        · have ej : j = i := by omega
          have eo : o' = o := Option.some.inj (hoj.symm.trans (by rw [ej]; exact ho))
          rw [eo]
          simpa using hb
    · rintro σ' H' ⟨⟨x0, rfl⟩, hE, hno⟩
      have h0 : ∀ y ∈ t.more, onlyF (vF ms y) R.s = true := fun y hy => by
        obtain ⟨j, hj⟩ := List.mem_iff_getElem?.mp hy
        exact hno j y (by rw [List.length_map]; exact (List.getElem?_eq_some_iff.mp hj).1) hj
      have E2 := K3.trans hE
      refine q_l (i := 9) (l_I 10 (fun y => !decide (y = t.c)) V.int S.nd (@blkOk_by ["self", "puzzle", "masks", "rule", "thought", "sign", "cell", "more", "one", "some", "other"] (defScope (mth 46 2)) _ _ (by decide +kernel)) (x_may T hr (x_v 2) (x_v 5) (MA.mono E2) hw ⟨r1, by omega⟩) hrN (by omega)
        (fun s' H0 cl C fp y H2 hy k => ts_one (t_c (c_neI (x_v 10) (x_v 6)))) (fun s' H0 cl C fp y H2 hy hp k => x_v 10)) fun v H4 k4 gg => ?_
      obtain ⟨l, rfl, _, hl⟩ := gg
      have fl := List.length_filter_le (fun y => !decide (y = t.c)) (mayF ms R.s)
      have E4 := E2.trans k4
      refine q_when (t_c (c_eqI (x_v 5) (x_ixT (x_v 4) x_int (SqT.of (E4 th _ h1)) rfl))) (fun hb H5 k5 => ?_) (fun hb H5 k5 => ?_)
      · have hb := of_decide_eq_true hb
        obtain ⟨d, hd⟩ : ∃ d, t.more = [d] := by
          rcases hmore with ⟨_, z⟩ | ⟨z, _⟩
          · exact z
          · exact absurd hb z
        rw [hd] at h2
        have E5 := E4.trans k5
        refine s_one (r_ret E5 (XG.yes (p := strikesP .reach D.F D.clues ms R t) (x_c (c_niG (x_ixL (x_v 7) x_int (SqL.of (E5 m _ h2)) at0) (x_reachedP (cs := ((mayF ms R.s).filter fun x => !decide (x = t.c)) ++ [t.c]) T hr (x_v 1) (PA.mono E5) (XG.ofL (by rw [List.map_append]; exact x_cat (m := l) (x_v 9) (x_lst (e_1 (x_v 6)) (by simp)) (k5 l _ hl) (by rw [List.length_map]; simp; omega))) (by rw [List.length_append]; simp; omega) (x_v 6)) niReach)) fun hc => ?_))
        refine ⟨h0, fun _ d' hd' => ?_, fun z => absurd hb z⟩
        rw [hd] at hd'
        cases hd'
        simpa using hc
      · have hb := of_decide_eq_false hb
        obtain ⟨d, e, hd⟩ : ∃ d e, t.more = [d, e] := by
          rcases hmore with ⟨z, _⟩ | ⟨_, z⟩
          · exact absurd z hb
          · exact z
        rw [hd] at h2
        have E5 := E4.trans k5
        refine q_ret E5 (XG.yes (p := strikesP .reach D.F D.clues ms R t) (x_c (c_niG (x_ixL (x_v 7) x_int (SqL.of (E5 m _ h2)) at1) (x_reachedP (cs := (mayF ms R.s).filter fun x => !decide (x = t.c)) T hr (x_v 1) (PA.mono E5) (XG.ofV (x_v 9) (k5 l _ hl)) (by omega) (x_ixL (x_v 7) x_int (SqL.of (E5 m _ h2)) at0)) niReach)) fun hc => ?_)
        refine ⟨h0, fun z => absurd z hb, fun _ d' e' hd' => ?_⟩
        rw [hd] at hd'
        cases hd'
        simpa using hc
theorem strikes_turn (T : Top w K mg base) : MF P w K mg base 7 (ga K Kn.turn.cls) "strikes" ["self", "puzzle", "masks", "rule", "thought"] (rStrikes .turn K) := by
  obtain ⟨f, fd, M, F⟩ := T.defM "Turn" "strikes" "Turn.strikes" 47 2
  have S : FnScope ["self", "puzzle", "masks", "rule", "thought", "sign", "at", "near", "must", "may", "cell"] ["self", "puzzle", "masks", "rule", "thought"] (defScope (mth 47 2)) := ⟨rfl, rfl, rfl, by decide +kernel, rfl, by decide +kernel, by decide +kernel⟩
  refine ⟨f, fg_of F S (fun vs H r h => ?_) (fun _ _ _ _ _ _ us hl => match us, hl with | [_, _, _, _, _], _ => rfl) (fun cdv A outer s H E vs r hr h => ?_), M⟩
  · obtain ⟨_, _, _, _, _, _, _, _, _, _, _, rfl, _⟩ := h
    rfl
  · obtain ⟨x, p, q, a, th, m, D, R, t, wd, ms, rfl, PA, MA, RA, ⟨h1, h2⟩, ok, fit, rfl⟩ := h
    have fo := PA.1.fo
    have f6 := fo.s6
    have s1 := ok.s1
    have s6 := ok.s6
    have hw := fo.hw
    obtain ⟨ek, hmore⟩ := fit
    have r6 := RA.1.s0.2
    have r1 := RA.1.s1 (.inr (.inr (.inr ek)))
    refine q_setV 5 S.nd (x_sign T hr (x_v 3) RA) fun H1 k1 => ?_
    refine q_setV 6 S.nd (x_ixT (x_v 4) x_int (SqT.of (k1 th _ h1)) rfl) fun H2 k2 => ?_
    have K2 := k1.trans k2
    refine s_cut (fun σ' H3 => ∃ z : Int, σ' = [some (.ref x), some (.ref p), some (.ref q), some (.ref a), some (.ref th), some (.int R.s), some (.int z), none, none, none, none] ∧ Ex H H3 ∧ (0 ≤ z ∧ z < D.F.h * D.F.w) ∧ (t.more = [] ∧ z = t.c ∨ ∃ d, t.more = [d] ∧ z = d ∧ onlyF (vF ms d) R.s = true)) (s_when (t_c (c_neNil hr.units (x_ixT (x_v 4) x_int (SqT.of (K2 th _ h1)) rfl) (K2 m _ h2) (x_lst e_nil (by decide)))) (fun hb H3 k3 => ?_) (fun hb H3 k3 => ?_)) ?_
    · obtain ⟨d, hd, hdb⟩ : ∃ d, t.more = [d] ∧ d ∈ besideF D.F t.c := by
        rcases hmore with ⟨z, _⟩ | z
        · rw [z] at hb
          cases hb
        · exact z
      have sb := beside_in fo ok.c0 ok.c1 hdb
      have K3 := K2.trans k3
      have hm := K3 m _ h2
      rw [hd] at hm
      refine q_setV 6 S.nd (x_ixL (x_ixT (x_v 4) x_int (SqT.of (K3 th _ h1)) rfl) x_int (SqL.of hm) at0) fun H4 k4 => ?_
      have K4 := K3.trans k4
      refine s_one (s_when (t_not (t_val (x_only T hr (x_mask (MA.mono K4) (x_v 2) (x_v 6) sb) (x_v 5) ⟨r1, by omega⟩))) (fun hc H5 k5 => ?_) (fun hc H5 k5 => ?_))
      · exact s_one (r_ret (K4.trans k5) (XG.yes x_bl fun z => by cases z))
      · exact ⟨d, rfl, K4.trans k5, sb, .inr ⟨d, hd, rfl, by simpa using hc⟩⟩
    · have he : t.more = [] := by
        cases e : t.more with
        | nil => rfl
        | cons y ys => rw [e] at hb; cases hb
      exact ⟨t.c, rfl, K2.trans k3, ⟨ok.c0, ok.c1⟩, .inl ⟨he, rfl⟩⟩
    · rintro σ' H3 ⟨z, rfl, K3, sz, hz⟩
      have bl := beside_len D.F z
      have nl := List.length_filter_le (fun y => !decide (y = t.c)) (besideF D.F z)
      refine q_l (i := 7) (l_I 10 (fun y => !decide (y = t.c)) V.int S.nd (@blkOk_by ["self", "puzzle", "masks", "rule", "thought", "sign", "at", "near", "must", "may", "cell"] (defScope (mth 47 2)) _ _ (by decide +kernel)) (x_besideP T hr (x_v 1) (x_v 6) (PA.mono K3)) hrN (by omega)
        (fun s' H0 cl C fp y H2 hy k => ts_one (t_c (c_neI (x_v 10) (x_ixT (x_v 4) x_int (SqT.of ((K3.trans k) th _ h1)) rfl)))) (fun s' H0 cl C fp y H2 hy hp k => x_v 10)) fun v H4 k4 gg => ?_
      obtain ⟨l, rfl, _, hl⟩ := gg
      have K4 := K3.trans k4
      have nin : ∀ y ∈ (besideF D.F z).filter (fun y => !decide (y = t.c)), 0 ≤ y ∧ y < D.F.h * D.F.w := fun y hy => beside_in fo sz.1 sz.2 (List.mem_filter.mp hy).1
      refine q_setV 8 S.nd (x_lenN (x_l (l_I 10 (fun y => onlyF (vF ms y) R.s) V.int S.nd (@blkOk_by ["self", "puzzle", "masks", "rule", "thought", "sign", "at", "near", "must", "may", "cell"] (defScope (mth 47 2)) _ _ (by decide +kernel)) (x_v 7) (hrL hl) (by omega)
        (fun s' H0 cl C fp y H2 hy k => ts_one (t_val (x_only T hr (x_mask (MA.mono (K4.trans k)) (x_v 2) (x_v 10) (nin y hy)) (x_v 5) ⟨r1, by omega⟩))) (fun s' H0 cl C fp y H2 hy hp k => x_v 10))) (T.free "len")) fun H5 k5 => ?_
      refine q_setV 9 S.nd (x_lenN (x_l (l_I 10 (fun y => standsF (vF ms y) R.s) V.int S.nd (@blkOk_by ["self", "puzzle", "masks", "rule", "thought", "sign", "at", "near", "must", "may", "cell"] (defScope (mth 47 2)) _ _ (by decide +kernel)) (x_v 7) (hrL (k5 l _ hl)) (by omega)
        (fun s' H0 cl C fp y H2 hy k => ts_one (t_val (x_stands T hr (x_mask (MA.mono ((K4.trans k5).trans k)) (x_v 2) (x_v 10) (nin y hy)) (x_v 5) ⟨r1, by omega⟩))) (fun s' H0 cl C fp y H2 hy hp k => x_v 10))) (T.free "len")) fun H6 k6 => ?_
      have K6 := (K4.trans k5).trans k6
      refine q_when (t_c (c_eqNil hr.units (x_ixT (x_v 4) x_int (SqT.of (K6 th _ h1)) rfl) (K6 m _ h2) (x_lst e_nil (by decide)))) (fun hb H7 k7 => ?_) (fun hb H7 k7 => ?_)
      · have he : t.more = [] := List.isEmpty_iff.mp hb
        have ez : z = t.c := by
          rcases hz with ⟨_, w⟩ | ⟨d, w, _⟩
          · exact w
          · rw [he] at w; cases w
        refine s_one (r_ret (K6.trans k7) (XG.yes (p := strikesP .turn D.F D.clues ms R t) (x_or2 (x_c (c_lt (x_v 9) x_int)) fun _ => x_c (c_gt (x_v 8) x_int)) fun hc => ⟨fun _ => ?_, fun d hd => by rw [he] at hd; cases hd⟩))
        simp only [Bool.or_eq_true, decide_eq_true_eq, List.length_map] at hc
        rw [← ez]
        unfold nearF
        rw [← ez] at hc
        rcases hc with hc | hc
        · exact .inl (by omega)
        · exact .inr (by omega)
      · obtain ⟨d, hd, rfl, ho⟩ : ∃ d, t.more = [d] ∧ z = d ∧ onlyF (vF ms d) R.s = true := by
          rcases hz with ⟨w, _⟩ | w
          · rw [w] at hb; cases hb
          · exact w
        refine q_when (t_c (c_eqI (x_v 5) (x_ixT (x_v 4) x_int (SqT.of (k7 th _ (K6 th _ h1))) rfl))) (fun hs H8 k8 => ?_) (fun hs H8 k8 => ?_)
        · have hs := of_decide_eq_true hs
          refine s_one (r_ret ((K6.trans k7).trans k8) (XG.yes (p := strikesP .turn D.F D.clues ms R t) (x_c (c_ge (x_v 8) x_int)) fun hc => ⟨fun w => (by rw [hd] at w; cases w), fun d' hd' => ?_⟩))
          rw [hd] at hd'
          cases hd'
          have hc := of_decide_eq_true hc
          rw [List.length_map] at hc
          exact ⟨ho, fun _ => by unfold nearF; omega, fun w => absurd hs w⟩
        · have hs := of_decide_eq_false hs
          refine q_ret ((K6.trans k7).trans k8) (XG.yes (p := strikesP .turn D.F D.clues ms R t) (x_c (c_lt (x_v 9) x_int)) fun hc => ⟨fun w => (by rw [hd] at w; cases w), fun d' hd' => ?_⟩)
          rw [hd] at hd'
          cases hd'
          have hc := of_decide_eq_true hc
          rw [List.length_map] at hc
          exact ⟨ho, fun w => absurd w hs, fun _ => by unfold nearF; omega⟩
end
end Ck

set_option maxRecDepth 100000
set_option maxHeartbeats 4000000
namespace Ck
open PySem PySem.Spec PyProof.Rows L2 Evl
section
variable {P : Program} {w : World} {K : PySem.W.Frag} {mg : Str → Option Value} {base : Heap}
def aheadV (cs : List Int) (c : Int) : V := if 0 < cs.idxOf c then .int (cs.getD (cs.idxOf c - 1) 0) else .non
def behindV (cs : List Int) (c : Int) : V := if cs.idxOf c + 1 < cs.length then .int (cs.getD (cs.idxOf c + 1) 0) else .non
def rNeigh (K : PySem.W.Frag) : Rl := fun vs H r => ∃ (F : Fl) (a : Addr) (R : Ru) (c : Int), vs = [.ref a, .int c] ∧ RuAt K F H a R ∧ FlOk F ∧ c ∈ R.cells ∧ r = .tup [aheadV R.cells c, behindV R.cells c]
theorem idx_lt {cs : List Int} {c : Int} (h : c ∈ cs) : cs.idxOf c < cs.length := List.idxOf_lt_length_iff.mpr h
theorem sc_neighboursof : FnScope ["rule", "cell", "spots", "at", "ahead", "behind"] ["rule", "cell"] (defScope (top 37)) := ⟨rfl, rfl, rfl, by decide +kernel, rfl, by decide +kernel, by decide +kernel⟩
theorem ok_neighboursof (T : Top w K mg base) : DF P w K mg base 3 "neighbours_of" ["rule", "cell"] (rNeigh K) := by
  obtain ⟨f, fd, hm, F⟩ := T.defG "neighbours_of" 37
  have S := sc_neighboursof
  refine ⟨f, fg_of F S (fun vs H r h => ?_) (fun _ _ _ _ _ _ us hl => match us, hl with | [_, _], _ => rfl) (fun cdv A outer s H E vs r hr h => ?_), hm, F.kp⟩
  · obtain ⟨_, _, _, _, rfl, _⟩ := h
    rfl
  · obtain ⟨F, a, R, c, rfl, RA, fo, hc, rfl⟩ := h
    have lt := idx_lt hc
    refine q_set 2 S.nd (x_spots T hr (x_v 0) RA) fun v H1 k1 gg => ?_
    obtain ⟨l, rfl, _, hl⟩ := gg
    refine q_setV 3 S.nd (x_index (x_v 2) (x_v 1) hl hc) fun H2 k2 => ?_
    refine q_setV 4 S.nd x_non fun H3 k3 => ?_
    refine q_setV 5 S.nd x_non fun H4 k4 => ?_
    have K4 := ((k1.trans k2).trans k3).trans k4
    have hl4 := k4 l _ (k3 l _ (k2 l _ hl))
    refine s_cut (fun σ' H5 => σ' = [some (.ref a), some (.int c), some (.ref l), some (.int (R.cells.idxOf c : Nat)), some (aheadV R.cells c), some .non] ∧ Ex H4 H5) (s_when (t_c (c_gt (x_v 3) x_int)) (fun hb H5 k5 => ?_) (fun hb H5 k5 => ?_)) ?_
    · have hb := of_decide_eq_true hb
      refine s_one (s_set 4 S.nd (x_ixL (v := .int (R.cells.getD (R.cells.idxOf c - 1) 0)) (x_v 2) (x_sub (x_v 3) x_int) (SqL.of (k5 l _ hl4)) ?_) fun v H6 k6 g => ?_)
      · rw [show ((R.cells.idxOf c : Nat) : Int) - 1 = ((R.cells.idxOf c - 1 : Nat) : Int) by omega]
        exact at_ints (by omega)
      · cases g
        refine ⟨?_, k5.trans k6⟩
        unfold aheadV
        rw [if_pos (by omega)]
        rfl
    · have hb := of_decide_eq_false hb
      refine ⟨?_, k5⟩
      unfold aheadV
      rw [if_neg (by omega)]
      rfl
    · rintro σ' H5 ⟨rfl, k5⟩
      refine s_cut (fun σ' H6 => σ' = [some (.ref a), some (.int c), some (.ref l), some (.int (R.cells.idxOf c : Nat)), some (aheadV R.cells c), some (behindV R.cells c)] ∧ Ex H5 H6) (s_when (t_c (c_lt (x_add (x_v 3) x_int) (x_len (x_v 2) (.inl (SqL.of (k5 l _ hl4))) (T.free "len")))) (fun hb H6 k6 => ?_) (fun hb H6 k6 => ?_)) ?_
      · have hb := of_decide_eq_true hb
        rw [List.length_map] at hb
        refine s_one (s_set 5 S.nd (x_ixL (v := .int (R.cells.getD (R.cells.idxOf c + 1) 0)) (x_v 2) (x_add (x_v 3) x_int) (SqL.of (k6 l _ (k5 l _ hl4))) ?_) fun v H7 k7 g => ?_)
        · rw [show ((R.cells.idxOf c : Nat) : Int) + 1 = ((R.cells.idxOf c + 1 : Nat) : Int) by omega]
          exact at_ints (by omega)
        · cases g
          refine ⟨?_, k6.trans k7⟩
          unfold behindV
          rw [if_pos (by omega)]
          rfl
      · have hb := of_decide_eq_false hb
        rw [List.length_map] at hb
        refine ⟨?_, k6⟩
        unfold behindV
        rw [if_neg (by omega)]
      · rintro σ' H6 ⟨rfl, k6⟩
        exact q_ret ((K4.trans k5).trans k6) (x_tup (e_cons (x_v 4) (e_1 (x_v 5))) (by simp))
/-- a value that is no None is an int, told of -/
theorem ahead_is {cs : List Int} {c : Int} (hc : c ∈ cs) : aheadV cs c = .non ∨ ∃ (i : Nat) (a : Int), aheadV cs c = .int a ∧ cs[i]? = some a ∧ cs[i + 1]? = some c := by
  unfold aheadV
  have lt := idx_lt hc
  split
  · next h =>
    refine .inr ⟨cs.idxOf c - 1, _, rfl, ?_, ?_⟩
    · rw [List.getD_eq_getElem?_getD, List.getElem?_eq_getElem (by omega)]
      rfl
    · rw [show cs.idxOf c - 1 + 1 = cs.idxOf c by omega, List.getElem?_eq_getElem lt, List.getElem_idxOf lt]
  · exact .inl rfl
theorem behind_is {cs : List Int} {c : Int} (hc : c ∈ cs) : behindV cs c = .non ∨ ∃ (i : Nat) (a : Int), behindV cs c = .int a ∧ cs[i + 1]? = some a ∧ cs[i]? = some c := by
  unfold behindV
  have lt := idx_lt hc
  split
  · next h =>
    refine .inr ⟨cs.idxOf c, _, rfl, ?_, ?_⟩
    · rw [List.getD_eq_getElem?_getD, List.getElem?_eq_getElem (by omega)]
      rfl
    · rw [List.getElem?_eq_getElem lt, List.getElem_idxOf lt]
  · exact .inl rfl
theorem strikes_step (T : Top w K mg base) : MF P w K mg base 7 (ga K Kn.step.cls) "strikes" ["self", "puzzle", "masks", "rule", "thought"] (rStrikes .step K) := by
  obtain ⟨f, fd, M, F⟩ := T.defM "Step" "strikes" "Step.strikes" 38 2
  have S : FnScope ["self", "puzzle", "masks", "rule", "thought", "ahead", "behind"] ["self", "puzzle", "masks", "rule", "thought"] (defScope (mth 38 2)) := ⟨rfl, rfl, rfl, by decide +kernel, rfl, by decide +kernel, by decide +kernel⟩
  refine ⟨f, fg_of F S (fun vs H r h => ?_) (fun _ _ _ _ _ _ us hl => match us, hl with | [_, _, _, _, _], _ => rfl) (fun cdv A outer s H E vs r hr h => ?_), M⟩
  · obtain ⟨_, _, _, _, _, _, _, _, _, _, _, rfl, _⟩ := h
    rfl
  · obtain ⟨x, p, q, a, th, m, D, R, t, wd, ms, rfl, PA, MA, RA, ⟨h1, h2⟩, ok, fit, rfl⟩ := h
    have fo := PA.1.fo
    have f6 := fo.s6
    have s1 := ok.s1
    have s6 := ok.s6
    have hw := fo.hw
    obtain ⟨ek, hc⟩ := fit
    refine q_un2 5 6 S.nd (x_call (ok_neighboursof T) (hr.mono (by decide)) (e_cons (x_v 3) (e_1 (x_ixT (x_v 4) x_int (SqT.of h1) rfl))) fun H1 k1 => ⟨D.F, a, R, t.c, rfl, RA.mono k1, fo, hc, rfl⟩) fun v H1 k1 gg => ?_
    obtain ⟨l, rfl, _, hl⟩ := gg
    refine ⟨l, _, _, rfl, SqT.of hl, ?_⟩
    have inn : ∀ (i : Nat) (z : Int), R.cells[i]? = some z → 0 ≤ z ∧ z < D.F.h * D.F.w := fun i z hz => RA.1.inn z (List.mem_of_getElem? hz)
    refine s_cut (fun σ' H2 => σ' = [some (.ref x), some (.ref p), some (.ref q), some (.ref a), some (.ref th), some (aheadV R.cells t.c), some (behindV R.cells t.c)] ∧ Ex H1 H2) ?_ ?_
    · rcases ahead_is hc with e | ⟨i, z, e, hz, hc'⟩
      · rw [e]
        refine s_when (t_and (d := false) (t_c (c_notN (x_v 5))) fun z => absurd z (by decide)) (fun hb H2 k2 => absurd hb (by simp)) (fun _ H2 k2 => ⟨rfl, k2⟩)
      · rw [e]
        have sb := inn i z hz
        refine s_when (t_and (t_c (c_notN (x_v 5))) fun _ => t_c (c_ge (x_minD hr.units (x_signs T hr (x_mask (MA.mono k1) (x_v 2) (x_v 5) sb) (ma_bits MA sb)) hrN (x_ixT (x_v 4) x_int (SqT.of (k1 th _ h1)) rfl) (T.free "min")) (x_ixT (x_v 4) x_int (SqT.of (k1 th _ h1)) rfl))) (fun hb H2 k2 => ?_) (fun _ H2 k2 => ⟨rfl, k2⟩)
        refine s_one (r_ret (k1.trans k2) (XG.yes (p := strikesP .step D.F D.clues ms R t) x_bl fun _ => ⟨i, .inl ⟨hc', z, hz, minDF_le (d := t.s) ?_⟩⟩))
        exact of_decide_eq_true (Bool.and_eq_true_iff.mp hb).2
    · rintro σ' H2 ⟨rfl, k2⟩
      have K2 := k1.trans k2
      rcases behind_is hc with e | ⟨i, z, e, hz, hc'⟩
      · rw [e]
        refine q_ret K2 (XG.yes (x_and2 (d := false) (x_c (c_notN (x_v 6))) fun z => absurd z (by decide)) fun z => absurd z (by simp))
      · rw [e]
        have sb := inn _ z hz
        refine q_ret K2 (XG.yes (p := strikesP .step D.F D.clues ms R t) (x_and2 (x_c (c_notN (x_v 6))) fun _ => x_c (c_le (x_maxD hr.units (x_signs T hr (x_mask (MA.mono K2) (x_v 2) (x_v 6) sb) (ma_bits MA sb)) hrN (x_ixT (x_v 4) x_int (SqT.of (K2 th _ h1)) rfl) (T.free "max")) (x_ixT (x_v 4) x_int (SqT.of (K2 th _ h1)) rfl))) fun hb => ⟨i, .inr ⟨hc', z, hz, maxDF_le (d := t.s) ?_⟩⟩)
        exact of_decide_eq_true (Bool.and_eq_true_iff.mp hb).2
end
end Ck

set_option maxRecDepth 100000
set_option maxHeartbeats 4000000
namespace Ck
open PySem PySem.Spec PyProof.Rows L2 Evl
/-! ### a list of lists of ints, made by a comprehension -/
/-- y is a list of its own, not the one at Dl -/
def OwnL (Dl : Addr) (Pe : V → List Int → Prop) (x y : V) (H : Hp) : Prop := ∃ (l : Addr) (ns : List Int), y = .ref l ∧ l ≠ Dl ∧ H l = some (.lst (ns.map V.int)) ∧ Pe x ns
theorem OwnL.ext {Dl : Addr} {Pe : V → List Int → Prop} {x y : V} {H H' : Hp} (h : OwnL Dl Pe x y H) (e : Ex H H') : OwnL Dl Pe x y H' := by
  obtain ⟨l, ns, a, b, c, d⟩ := h
  exact ⟨l, ns, a, b, e l _ c, d⟩
theorem OwnL.upd {Dl : Addr} {Pe : V → List Int → Prop} {x y : V} {H : Hp} {o : HO} (h : OwnL Dl Pe x y H) : OwnL Dl Pe x y (upd H Dl o) := by
  obtain ⟨l, ns, a, b, c, d⟩ := h
  exact ⟨l, ns, a, b, by rw [upd_ne b]; exact c, d⟩
theorem lw_turnL {tt : TT} {te : TE} {H H' : Hp} {Dl : Addr} {xs : List V} {pr : V → Bool} {Pe : V → List Int → Prop} {i : Nat} {x : V} {σ2 : L2.St} (hi : xs[i]? = some x) (hz : i < 50000) (q : Lw H Dl xs pr (OwnL Dl Pe) i H')
    (ht : ∀ H1, Ex H H1 → ∀ Q : Bool → Hp → Prop, (∀ H2, Ex H1 H2 → Q (pr x) H2) → tt σ2 H1 Q) (he : pr x = true → ∀ H1, Ex H H1 → H1 Dl ≠ none → ∀ Q : VK, (∀ y H2, Ex H1 H2 → OwnL Dl Pe x y H2 → Q y H2) → te σ2 H1 Q) :
    tt σ2 H' fun b H3 => if b = true then te σ2 H3 fun y H4 => ∃ acc, H4 Dl = some (.lst acc) ∧ acc.length < sizeLine ∧ Lw H Dl xs pr (OwnL Dl Pe) (i + 1) (upd H4 Dl (.lst (acc ++ [y]))) else Lw H Dl xs pr (OwnL Dl Pe) (i + 1) H3 := by
  obtain ⟨q1, q2, ys, q3, q4⟩ := q
  have hx : xs.take (i + 1) = xs.take i ++ [x] := by rw [List.take_add_one, hi]; rfl
  refine ht H' q2 _ fun H3 e3 => ?_
  cases hp : pr x with
  | true =>
    refine iteT (he hp H3 (q2.trans e3) (by rw [e3 Dl _ q3]; exact fun z => nomatch z) _ fun y H4 e4 hE => ⟨ys, e4 Dl _ (e3 Dl _ q3), sz_lt ?_, q1, Ex.mut ((q2.trans e3).trans e4) q1, ys ++ [y], upd_same, ?_⟩)
    · have h1 := Paired.length q4
      have h2 := List.length_filter_le pr (xs.take i)
      rw [List.length_take] at h2
      omega
    · rw [hx, List.filter_append, List.filter_cons, hp]
      exact Paired.snoc (Paired.imp2 q4 fun a b z => (z.ext (e3.trans e4)).upd) hE.upd
  | false =>
    refine iteF ⟨q1, q2.trans e3, ys, e3 Dl _ q3, ?_⟩
    rw [hx, List.filter_append, List.filter_cons, hp]
    show Paired _ (((xs.take i).filter pr) ++ []) ys
    rw [List.append_nil]
    exact Paired.imp2 q4 fun a b z => z.ext e3
theorem own_ll {H : Hp} {Dl : Addr} {Pe : V → List Int → Prop} : ∀ {xs ys : List V}, Paired (fun x y => OwnL Dl Pe x y H) xs ys → ∃ (ps : List Addr) (yss : List (List Int)), ys = ps.map V.ref ∧ Paired (fun p (ns : List Int) => H p = some (.lst (ns.map V.int))) ps yss ∧ Paired Pe xs yss
  | _, _, .nil => ⟨[], [], rfl, .nil, .nil⟩
  | _, _, .cons h t => by
    obtain ⟨ps, yss, a, b, c⟩ := own_ll t
    obtain ⟨l, ns, d, _, e, f⟩ := h
    exact ⟨l :: ps, ns :: yss, by rw [d, a]; rfl, .cons e b, .cons f c⟩
section
variable {X : Cx} {σ : L2.St} {H : Hp} {r : Rt}
/-- [elt for n in iter if ..], the elements lists of ints made there -/
theorem l_LL {xs : List V} (j : Nat) {n : Str} {tp : Pos} {elt iter : Expr} {ifs : List Expr} {scope : Scope} (pr : V → Bool) (Pe : V → List Int → Prop) (hN : X.N.Nodup) (ok : BlkOk X.N X.env.scope scope [(n, j)]) (h : XG X σ H iter r) (hr : ∀ v H1, Ex H H1 → r.go H v H1 → ∃ q, v = .ref q ∧ SqL X.K H1 q xs) (hz : xs.length ≤ 50000)
    (ht : ∀ (s : Shared) (H0 : Hp) (cl : List (Str × Addr)) (C : Addr) (fp : List Addr) (x : V) (i : Nat) H1, xs[i]? = some x → Ex H H1 → XTs (Bk X s H0 scope cl C fp) ((σ.set j none).set j (some x)) H1 ifs (pr x))
    (he : ∀ (s : Shared) (H0 : Hp) (cl : List (Str × Addr)) (C : Addr) (fp : List Addr) (x : V) (i : Nat) H1, xs[i]? = some x → pr x = true → Ex H H1 → ∃ ns : List Int, Pe x ns ∧ XG (Bk X s H0 scope cl C fp) ((σ.set j none).set j (some x)) H1 elt (.lst (ns.map V.int)))
    (hc : X.calm = true := by rfl) (hs : ∀ x, foldedSetIterable iter X.env x = pure x := by intro _; rfl)
    (hj : X.N[j]? = some n := by rfl) (hx : (relS scope X.env.scope).names.lookup n = some .local := by rfl) :
    XLc X σ H j n tp elt iter ifs scope (.gen fun v H1 => ∃ (l : Addr) (yss : List (List Int)), v = .ref l ∧ IsLL H1 l yss ∧ Paired Pe (xs.filter pr) yss) :=
  ⟨hN, ok, hj, hx, hs, hc, _, pi_list pe_sem, fun H1 e1 Q k =>
    (h H1 e1 _ fun v H2 e2 g2 => by
      obtain ⟨q, rfl, hq⟩ := hr v H2 (e1.trans e2) (go_back e1 g2)
      refine ⟨q, rfl, ⟨xs, hq⟩, fun Dl hD => ?_⟩
      refine lc_list (K := X.K) (a := q) (xs := xs) (g := gName j) (vs := [j]) (σ := σ) (tt := cTs X scope ifs) (te := cE X scope elt) (Qd := fun H' => Q (.ref Dl) H') (Lw H2 Dl xs pr (OwnL Dl Pe)) ⟨hD, Ex.new hD, [], upd_same, .nil⟩ (fun i H' _ w => ex_l w.2.1 hq) (fun i x H' hi w => ⟨wipe1, ?_⟩) fun H' w => ?_
      · have hil := (List.getElem?_eq_some_iff.mp hi).1
        refine lw_turnL (σ2 := (σ.set j none).set j (some x)) (tt := cTs X scope ifs) (te := cE X scope elt) hi (by omega) w
          (fun H3 e3 Q q s H0 cl C fp => ht s H0 cl C fp x i H3 hi ((e1.trans e2).trans e3) H3 (Ex.refl H3) Q q) (fun hp H3 e3 hn Q q s H0 cl C fp => ?_)
        obtain ⟨ns, hP, hX⟩ := he s H0 cl C fp x i H3 hi hp ((e1.trans e2).trans e3)
        refine hX H3 (Ex.refl H3) Q fun y H4 e4 g4 => ?_
        obtain ⟨l, rfl, hl, hl4⟩ := g4
        exact q _ H4 e4 ⟨l, ns, rfl, fun z => hn (by rw [← z]; exact hl), hl4, hP⟩
      · obtain ⟨w1, w2, ys, w3, w4⟩ := w
        rw [List.take_length] at w4
        obtain ⟨ps, yss, a, b, c⟩ := own_ll w4
        exact k _ H' (e2.trans w2) ⟨Dl, yss, rfl, ⟨ps, by rw [w3, a], b⟩, c⟩)⟩
theorem paired_fun {α β : Type} {g : α → β} : ∀ {xs : List α} {ys : List β}, Paired (fun x y => y = g x) xs ys → ys = xs.map g
  | _, _, .nil => rfl
  | _, _, .cons r t => by rw [List.map_cons, r, paired_fun t]
/-- .. over ints -/
theorem l_LI {ns : List Int} (j : Nat) {n : Str} {tp : Pos} {elt iter : Expr} {ifs : List Expr} {scope : Scope} (pr : Int → Bool) (f : Int → List Int) (hN : X.N.Nodup) (ok : BlkOk X.N X.env.scope scope [(n, j)]) (h : XG X σ H iter r) (hr : ∀ v H1, Ex H H1 → r.go H v H1 → ∃ q, v = .ref q ∧ SqL X.K H1 q (ns.map V.int)) (hz : ns.length ≤ 50000)
    (ht : ∀ (s : Shared) (H0 : Hp) (cl : List (Str × Addr)) (C : Addr) (fp : List Addr) (x : Int) H1, x ∈ ns → Ex H H1 → XTs (Bk X s H0 scope cl C fp) ((σ.set j none).set j (some (.int x))) H1 ifs (pr x))
    (he : ∀ (s : Shared) (H0 : Hp) (cl : List (Str × Addr)) (C : Addr) (fp : List Addr) (x : Int) H1, x ∈ ns → pr x = true → Ex H H1 → XG (Bk X s H0 scope cl C fp) ((σ.set j none).set j (some (.int x))) H1 elt (.lst ((f x).map V.int)))
    (hc : X.calm = true := by rfl) (hs : ∀ x, foldedSetIterable iter X.env x = pure x := by intro _; rfl)
    (hj : X.N[j]? = some n := by rfl) (hx : (relS scope X.env.scope).names.lookup n = some .local := by rfl) :
    XLc X σ H j n tp elt iter ifs scope (.gen fun v H1 => ∃ l : Addr, v = .ref l ∧ IsLL H1 l ((ns.filter pr).map f)) := by
  have z := l_LL (X := X) (σ := σ) (H := H) (tp := tp) (elt := elt) (iter := iter) (ifs := ifs) (scope := scope) (xs := ns.map V.int) j (n := n) (fun v => pr (unI v)) (fun v l => l = f (unI v)) hN ok h hr (by rw [List.length_map]; exact hz) (fun s H0 cl C fp x i H1 hi e1 => by
      obtain ⟨y, hy, rfl⟩ := at_intsI hi
      exact ht s H0 cl C fp y H1 (List.mem_of_getElem? hy) e1) (fun s H0 cl C fp x i H1 hi hp e1 => by
      obtain ⟨y, hy, rfl⟩ := at_intsI hi
      exact ⟨_, rfl, he s H0 cl C fp y H1 (List.mem_of_getElem? hy) hp e1⟩) hc hs hj hx
  obtain ⟨a1, a2, a3, a4, a5, a6, wi, a7, a8⟩ := z
  refine ⟨a1, a2, a3, a4, a5, a6, wi, a7, fun H1 e1 Q k => a8 H1 e1 Q fun v H2 e2 g => ?_⟩
  obtain ⟨l, yss, rfl, hl, hp⟩ := g
  refine k _ H2 e2 ⟨l, rfl, ?_⟩
  have : yss = (ns.filter pr).map f := by
    rw [paired_fun hp, List.filter_map, List.map_map]
    rfl
  rw [← this]
  exact hl
end
end Ck

set_option maxRecDepth 100000
set_option maxHeartbeats 4000000
namespace Ck
open PySem PySem.Spec PyProof.Rows L2 Evl
theorem signs_six {m : Int} (h0 : 0 ≤ m) (h1 : m < 64) : (signsF m).length ≤ 6 := Nat.le_trans (signs_len m) (bits_of h0 h1)
theorem signs_in {m x : Int} (h : x ∈ signsF m) : 1 ≤ x ∧ x ≤ Builtin.Int.intBits m := by
  unfold signsF at h
  obtain ⟨i, hi, rfl⟩ := List.mem_map.mp (List.mem_filter.mp h).1
  have := List.mem_range.mp hi
  omega
theorem mul_pos_nat {a b : Nat} : a * b ≤ a * b := Nat.le_refl _
theorem fillF_len (ms : List Int) : ∀ (os : List Int) (n : Int) (fl : List Int), (fillF ms os n fl).length = fl.length
  | [], _, _ => rfl
  | o :: os, n, fl => by
    unfold fillF
    rw [fillF_len ms os, List.length_set]
theorem many_pos (ms : List Int) : ∀ os : List Int, 0 < manyF ms os → ∀ o ∈ os, 0 < (signsF (vF ms o)).length := by
  unfold manyF
  have key : ∀ (os : List Int) (k : Nat), 0 < (os.map fun o => (signsF (vF ms o)).length).foldl (· * ·) k → 0 < k ∧ ∀ o ∈ os, 0 < (signsF (vF ms o)).length := fun os => by
    induction os with
    | nil => exact fun k h => ⟨h, fun o ho => nomatch ho⟩
    | cons a os ih =>
      intro k h
      obtain ⟨h1, h2⟩ := ih _ h
      refine ⟨Nat.pos_of_mul_pos_right h1, fun o ho => ?_⟩
      rcases List.mem_cons.mp ho with rfl | ho
      · exact Nat.pos_of_mul_pos_left h1
      · exact h2 o ho
  exact fun os h => (key os 1 h).2
theorem at_intsZ {ns : List Int} {i : Int} (h0 : 0 ≤ i) (h1 : i < ns.length) : atI (ns.map V.int) i = some (V.int (vF ns i)) := by
  have := at_ints (ns := ns) (c := i.toNat) (by omega)
  rwa [Int.toNat_of_nonneg h0] at this
def prodF (ms : List Int) (os : List Int) : Int := (manyF ms os : Nat)
theorem prod_snoc (ms os : List Int) (o : Int) : prodF ms (os ++ [o]) = prodF ms os * ((signsF (vF ms o)).length : Nat) := by
  unfold prodF manyF
  rw [List.map_append, List.foldl_append]
  simp
/-- the choices of the first i others are in, the rest is to come -/
theorem fill_step (ms : List Int) (o : Int) (os : List Int) (n : Int) (fl : List Int) : fillF ms (o :: os) n fl = fillF ms os (n / (signsF (vF ms o)).length) (fl.set o.toNat (vF (signsF (vF ms o)) (n % (signsF (vF ms o)).length))) := rfl
section
variable {P : Program} {w : World} {K : PySem.W.Frag} {mg : Str → Option Value} {base : Heap}
theorem strikes_ways (T : Top w K mg base) : MF P w K mg base 7 (ga K Kn.ways.cls) "strikes" ["self", "puzzle", "masks", "rule", "thought"] (rStrikes .ways K) := by
  obtain ⟨f, fd, M, F⟩ := T.defM "Ways" "strikes" "Ways.strikes" 40 2
  have S : FnScope ["self", "puzzle", "masks", "rule", "thought", "others", "other", "choices", "many", "signs", "filling", "number", "cell"] ["self", "puzzle", "masks", "rule", "thought"] (defScope (mth 40 2)) := ⟨rfl, rfl, rfl, by decide +kernel, rfl, by decide +kernel, by decide +kernel⟩
  refine ⟨f, fg_of F S (fun vs H r h => ?_) (fun _ _ _ _ _ _ us hl => match us, hl with | [_, _, _, _, _], _ => rfl) (fun cdv A outer s H E vs r hr h => ?_), M⟩
  · obtain ⟨_, _, _, _, _, _, _, _, _, _, _, rfl, _⟩ := h
    rfl
  · obtain ⟨x, p, q, a, th, m, D, R, t, wd, ms, rfl, PA, MA, RA, ⟨h1, h2⟩, ok, fit, rfl⟩ := h
    have fo := PA.1.fo
    have f6 := fo.s6
    have s1 := ok.s1
    have s6 := ok.s6
    have hw := fo.hw
    have hc : t.c ∈ R.cells := fit
    have ol := others_len fo RA.1 t.c
    have ml := MA.2.1
    have c0 := ok.c0
    have c1 := ok.c1
    refine q_set 5 S.nd (x_others T hr (x_v 3) (x_ixT (x_v 4) x_int (SqT.of h1) rfl) RA fo) fun v H1 k1 gg => ?_
    obtain ⟨l, rfl, _, hl⟩ := gg
    refine q_l (i := 7) (l_LI 6 (fun _ => true) (fun o => signsF (vF ms o)) S.nd (@blkOk_by ["self", "puzzle", "masks", "rule", "thought", "others", "other", "choices", "many", "signs", "filling", "number", "cell"] (defScope (mth 40 2)) _ _ (by decide +kernel)) (x_v 5) (hrL hl) (by omega) (fun s' H0 cl C fp y H2 hy k => ts_nil)
      (fun s' H0 cl C fp y H2 hy hp k => x_signs T hr (x_mask (MA.mono (k1.trans k)) (x_v 2) (x_v 6) (sub_others RA.1 hy)) (ma_bits MA (sub_others RA.1 hy)))) fun v H2 k2 gg => ?_
    obtain ⟨cl, rfl, ps, hcl, hps⟩ := gg
    rw [all_true] at hps
    have plen := Paired.length hps
    rw [List.length_map] at plen
    have K2 := k1.trans k2
    have hl2 := k2 l _ hl
    refine q_setV 8 S.nd x_int fun H3 k3 => ?_
    have K3 := K2.trans k3
    refine s_cut (fun σ' H' => (∃ x0, σ' = [some (.ref x), some (.ref p), some (.ref q), some (.ref a), some (.ref th), some (.ref l), none, some (.ref cl), some (.int (prodF ms (othersF R t.c))), x0, none, none, none]) ∧ Ex H3 H') (s_forL 9 S.nd (x_v 7) (SqL.of (k3 cl _ hcl)) (fun i σ' H' => (∃ x0, σ' = [some (.ref x), some (.ref p), some (.ref q), some (.ref a), some (.ref th), some (.ref l), none, some (.ref cl), some (.int (prodF ms ((othersF R t.c).take i))), x0, none, none, none]) ∧ Ex H3 H')
      (fun H1 k1 => ⟨⟨none, rfl⟩, k1⟩) (fun i σ' H' _ z => SqL.of (z.2 cl _ (k3 cl _ hcl))) ?_ ?_) ?_
    · rintro i y σ' H' hy ⟨⟨x0, rfl⟩, hE⟩
      obtain ⟨pp, hpi, rfl⟩ := at_refs hy
      obtain ⟨ss, hss, hps2⟩ := paired_at hps hpi
      rw [List.getElem?_map] at hss
      obtain ⟨o, ho, rfl⟩ : ∃ o, (othersF R t.c)[i]? = some o ∧ ss = signsF (vF ms o) := by
        cases e : (othersF R t.c)[i]? with
        | none => rw [e] at hss; cases hss
        | some o => rw [e] at hss; exact ⟨o, rfl, (Option.some.inj hss).symm⟩
      have mi := ma_in MA (sub_others RA.1 (List.mem_of_getElem? ho))
      have s6' := signs_six mi.1 mi.2
      refine s_one (s_set 8 S.nd (x_mul (x_v 8) (x_len (x_v 9) (.inl (SqL.of (hE pp _ (k3 pp _ hps2)))) (T.free "len")) ?_) fun v H4 k4 g => ?_)
      · exact .inr ⟨by rw [List.length_map]; omega, by rw [List.length_map]; omega⟩
      · cases g
        exact ⟨⟨_, by rw [take_snoc ho, prod_snoc, List.length_map]; rfl⟩, hE.trans k4⟩
    · rintro σ' H' ⟨⟨x0, rfl⟩, hE⟩
      exact ⟨⟨x0, by rw [List.length_map, plen, List.take_length]⟩, hE⟩
    · rintro σ' H4 ⟨⟨x0, rfl⟩, hE⟩
      have K4 := K3.trans hE
      refine q_when (t_c (c_gt (x_v 8) (T.gint rfl "MOST_WAYS" 32))) (fun hb H5 k5 => ?_) (fun hb H5 k5 => ?_)
      · exact s_one (r_ret (K4.trans k5) (XG.yes x_bl fun z => by cases z))
      · have hb := of_decide_eq_false hb
        have pn : 0 ≤ prodF ms (othersF R t.c) := Int.natCast_nonneg _
        have K5 := K4.trans k5
        refine q_l (i := 10) (l_RI (lo := 0) (m := ms.length) 12 (fun _ => true) (fun _ => V.int 0) S.nd (@blkOk_by ["self", "puzzle", "masks", "rule", "thought", "others", "other", "choices", "many", "signs", "filling", "number", "cell"] (defScope (mth 40 2)) _ _ (by decide +kernel)) (pi_range1 rfl (T.free "range") (pa_cons pe_sem pa_nil))
          (fun H1 k R q' => pr_1 (x_len (x_v 2) (.inl (SqL.of (K5 q _ MA.1))) (T.free "len")) (by rw [List.length_map]; omega) H1 k R fun H2 k2 => by rw [List.length_map, Int.toNat_natCast]; exact q' H2 k2) (by omega)
          (fun s' H0 cl C fp i H1 hi k => ts_nil) fun s' H0 cl C fp i H1 hi hp k => x_int) fun v H6 k6 gg => ?_
        obtain ⟨fa, rfl, nfa, hfa⟩ := gg
        rw [all_true] at hfa
        obtain ⟨f0, hf0, lf0⟩ : ∃ f0 : List Int, H6 fa = some (.lst (f0.map V.int)) ∧ f0.length = ms.length := ⟨(List.range ms.length).map fun _ => 0, by rw [hfa, List.map_map, List.map_map]; rfl, by simp⟩
        refine s_seq (s_setL (j := t.c.toNat) hf0 (x_ixT (v := .int t.s) (x_v 4) x_int (SqT.of (k6 th _ (K5 th _ h1))) rfl) (x_v 10) ((x_ixT (v := .int t.c) (x_v 4) x_int (SqT.of (k6 th _ (K5 th _ h1))) rfl).is (by rw [Int.toNat_of_nonneg c0])) (by rw [List.length_map]; omega) fun H7 k7 => ?_)
        have n5 : H5 fa = none := nfa
        have e7 : Ex H5 (upd H7 fa (.lst ((f0.map V.int).set t.c.toNat (.int t.s)))) := Ex.mut (k6.trans k7) n5
        have d7 : fa ≠ l := fun z => by rw [z] at n5; rw [k5 l _ (hE l _ (k3 l _ hl2))] at n5; cases n5
        have hl5 : H5 l = some (.lst ((othersF R t.c).map V.int)) := k5 l _ (hE l _ (k3 l _ hl2))
        have hcl5 : H5 cl = some (.lst (ps.map V.ref)) := k5 cl _ (hE cl _ (k3 cl _ hcl))
        have v0 : vF (f0.set t.c.toNat t.s) t.c = t.s := by
          unfold vF
          rw [List.getD_eq_getElem?_getD, List.getElem?_set_self (by omega)]
          rfl
        rw [← List.map_set] at e7 ⊢
        refine s_seq (s_forR 11 S.nd (x_v 8) (by omega) (T.free "range") (fun i σ' H' => (∃ x1 x2 x3, σ' = [some (.ref x), some (.ref p), some (.ref q), some (.ref a), some (.ref th), some (.ref l), x1, some (.ref cl), some (.int (prodF ms (othersF R t.c))), x2, some (.ref fa), x3, none]) ∧ Ex H5 H' ∧
          (∃ fl : List Int, H' fa = some (.lst (fl.map V.int)) ∧ fl.length = ms.length ∧ vF fl t.c = t.s) ∧ ∀ n : Nat, n < i → ∃ fl0 : List Int, (fl0.length : Int) = D.F.h * D.F.w ∧ vF fl0 t.c = t.s ∧ ¬ holdsP D.F R (fillF ms (othersF R t.c) n fl0))
          (fun H8 k8 => ⟨⟨none, x0, none, rfl⟩, e7.trans k8, ⟨_, k8 fa _ upd_same, by rw [List.length_set]; exact lf0, v0⟩, fun n hn => by omega⟩) ?_ ?_)
        · rintro i σ' H8 hi ⟨⟨x1, x2, x3, rfl⟩, e8, ⟨fl, hfl, lfl, vfl⟩, hno⟩
          have ppos : ∀ o ∈ othersF R t.c, 0 < (signsF (vF ms o)).length := many_pos ms _ (by unfold prodF at hi; omega)
          refine s_cut (fun σ' H' => ∃ fl', (∃ x1 x2 x3, σ' = [some (.ref x), some (.ref p), some (.ref q), some (.ref a), some (.ref th), some (.ref l), x1, some (.ref cl), some (.int (prodF ms (othersF R t.c))), x2, some (.ref fa), x3, none]) ∧ Ex H5 H' ∧ H' fa = some (.lst (fl'.map V.int)) ∧ fl'.length = ms.length ∧ vF fl' t.c = t.s ∧ fillF ms (othersF R t.c) i fl = fl') (s_forZ 6 9 S.nd (T.free "zip") (a_v (x_v 5) (a_v (x_v 7) (a_nil fun H9 k9 => ⟨l, cl, (othersF R t.c).map V.int, ps.map V.ref,
            fun j σ' H' => ∃ (fl' : List Int) (n' : Int), (∃ x1 x2, σ' = [some (.ref x), some (.ref p), some (.ref q), some (.ref a), some (.ref th), some (.ref l), x1, some (.ref cl), some (.int (prodF ms (othersF R t.c))), x2, some (.ref fa), some (.int n'), none]) ∧ 0 ≤ n' ∧ Ex H5 H' ∧ H' fa = some (.lst (fl'.map V.int)) ∧ fl'.length = ms.length ∧ vF fl' t.c = t.s ∧ fillF ms (othersF R t.c) i fl = fillF ms ((othersF R t.c).drop j) n' fl',
            rfl, SqL.of ((e8.trans k9) l _ hl5), SqL.of ((e8.trans k9) cl _ hcl5), ⟨fl, i, ⟨x1, x2, rfl⟩, by omega, e8.trans k9, k9 fa _ hfl, lfl, vfl, rfl⟩, ?_, ?_, ?_⟩)))) ?_
          · rintro j σ' H' ⟨fl', n', _, _, eE, _⟩
            exact ⟨SqL.of (eE l _ hl5), SqL.of (eE cl _ hcl5)⟩
          · rintro j y z σ' H' H10 hy hz ⟨fl', n', ⟨x1, x2, rfl⟩, n0, eE, hf', lf', vf', ef'⟩ k10
            obtain ⟨o, ho, rfl⟩ := at_intsI hy
            obtain ⟨pp, hpi, rfl⟩ := at_refs hz
            obtain ⟨ss, hss, hps2⟩ := paired_at hps hpi
            rw [List.getElem?_map, ho] at hss
            cases hss
            have hps2 : H2 pp = some (.lst ((signsF (vF ms o)).map V.int)) := hps2
            have om := List.mem_of_getElem? ho
            have sb := sub_others RA.1 om
            have po := ppos o om
            have mi := ma_in MA sb
            have s6' := signs_six mi.1 mi.2
            have E10 := eE.trans k10
            have hpp := E10 pp _ (k5 pp _ (hE pp _ (k3 pp _ hps2)))
            have r0 := Int.emod_nonneg n' (by omega : ((signsF (vF ms o)).length : Int) ≠ 0)
            have r1 := Int.emod_lt_of_pos n' (by omega : (0 : Int) < ((signsF (vF ms o)).length : Int))
            refine s_seq (s_setL (j := o.toNat) (k10 fa _ hf') (x_ixL (v := .int (vF (signsF (vF ms o)) (n' % (signsF (vF ms o)).length))) (x_v 9) (x_mod (x_v 11) (x_len (x_v 9) (.inl (SqL.of hpp)) (T.free "len")) (by rw [List.length_map]; omega)) (SqL.of hpp) (by rw [List.length_map]; exact at_intsZ r0 r1)) (x_v 10) ((x_v (v := .int o) 6).is (by rw [Int.toNat_of_nonneg sb.1])) (by rw [List.length_map]; omega) fun H11 k11 => ?_)
            have e11 : Ex H5 (upd H11 fa (.lst ((fl'.map V.int).set o.toNat (.int (vF (signsF (vF ms o)) (n' % (signsF (vF ms o)).length)))))) := Ex.mut (E10.trans k11) n5
            refine s_one (s_set 11 S.nd (x_div (x_v 11) (x_len (x_v 9) (.inl (SqL.of (e11 pp _ (k5 pp _ (hE pp _ (k3 pp _ hps2)))))) (T.free "len")) (by rw [List.length_map]; omega)) fun v H12 k12 g => ?_)
            cases g
            refine ⟨fl'.set o.toNat (vF (signsF (vF ms o)) (n' % (signsF (vF ms o)).length)), n' / (signsF (vF ms o)).length, ⟨_, _, by rw [List.length_map]; rfl⟩, Int.ediv_nonneg n0 (by omega), e11.trans k12, k12 fa _ (by rw [upd_same, List.map_set]), by rw [List.length_set]; exact lf', ?_, ?_⟩
            · have no : o ≠ t.c := by simpa using (List.mem_filter.mp om).2
              unfold vF at vf' ⊢
              rw [List.getD_eq_getElem?_getD, List.getElem?_set_ne (by omega), ← List.getD_eq_getElem?_getD]
              exact vf'
            · rw [ef']
              obtain ⟨ho1, ho2⟩ := List.getElem?_eq_some_iff.mp ho
              rw [List.drop_eq_getElem_cons ho1, ho2]
              rfl
          · rintro σ' H' ⟨fl', n', ⟨x1, x2, rfl⟩, n0, eE, hf', lf', vf', ef'⟩
            refine ⟨fl', ⟨x1, x2, _, rfl⟩, eE, hf', lf', vf', ?_⟩
            rw [ef', List.length_map, List.length_map, plen, Nat.min_self, List.drop_length]
            rfl
          · rintro σ' H9 ⟨fl', ⟨x1, x2, x3, rfl⟩, eE, hf', lf', vf', ef'⟩
            refine s_one (s_when (t_val (x_holds T hr (x_v 3) (x_v 10) (RA.mono (K5.trans eE)) fo ⟨hf', by rw [lf']; exact ml⟩)) (fun hh H10 k10 => ?_) (fun hh H10 k10 => ?_))
            · exact s_one (r_ret ((K5.trans eE).trans k10) (XG.yes x_bl fun z => by cases z))
            · refine ⟨⟨_, _, _, rfl⟩, eE.trans k10, ⟨fl', k10 fa _ hf', lf', vf'⟩, fun n hn => ?_⟩
              by_cases hni : n < i
              · exact hno n hni
              · have en : n = i := by omega
                subst en
                refine ⟨fl, by rw [lfl]; exact ml, vfl, fun z => ?_⟩
                rw [ef'] at z
                rw [holds_yes z] at hh
                cases hh
        · rintro σ' H8 ⟨⟨x1, x2, x3, rfl⟩, e8, _, hno⟩
          refine s_one (r_ret (K5.trans e8) (XG.yes (p := strikesP .ways D.F D.clues ms R t) x_bl fun _ => ?_))
          intro n hn
          exact hno n (by unfold prodF; rw [Int.toNat_natCast]; exact hn)
end
end Ck

set_option maxRecDepth 100000
set_option maxHeartbeats 4000000
namespace Ck
open PySem PySem.Spec PyProof.Rows L2 Evl
/-! ### sorted lists of lists, lists of lists by parts -/
def IsL (H : Hp) (p : Addr) (ns : List Int) : Prop := H p = some (.lst (ns.map V.int))
def rSortedLL (K : PySem.W.Frag) : List V → Hp → VK → Prop := fun vs H Q => ∃ (a : Addr) (ps : List Addr) (yss : List (List Int)), vs = [V.ref a] ∧ H a = some (.lst (ps.map V.ref)) ∧ Paired (fun p (ns : List Int) => H p = some (.lst (ns.map V.int))) ps yss ∧
  ∀ (qs : List Addr) (zss : List (List Int)) (p : Addr), zss.Perm yss → Paired (fun p (ns : List Int) => H p = some (.lst (ns.map V.int))) qs zss → H p = none → Q (.ref p) (upd H p (.lst (qs.map V.ref)))
theorem vals_refs : ∀ {ps : List Addr} {its : List Value}, Vals (ps.map V.ref) its → its = ps.map Value.ref
  | [], _, .nil => rfl
  | p :: ps, _, .cons h t => by
    rw [vals_refs t, show _ = Value.ref p from h]
    rfl
theorem refs_vals : ∀ ps : List Addr, Vals (ps.map V.ref) (ps.map Value.ref)
  | [] => .nil
  | p :: ps => .cons rfl (refs_vals ps)
theorem each_refs {G : Addr → List Int → Prop} : ∀ {ps : List Addr} {yss : List (List Int)}, Paired G ps yss → PySem.W.EachIs (fun v b => ∃ p, v = Value.ref p ∧ G p b) (ps.map Value.ref) yss
  | _, _, .nil => .nil
  | _, _, .cons h t => .cons ⟨_, rfl, h⟩ (each_refs t)
theorem refs_each {G : Addr → List Int → Prop} : ∀ {vs : List Value} {yss : List (List Int)}, PySem.W.EachIs (fun v b => ∃ p, v = Value.ref p ∧ G p b) vs yss → ∃ ps : List Addr, vs = ps.map Value.ref ∧ Paired G ps yss
  | _, _, .nil => ⟨[], rfl, .nil⟩
  | _, _, .cons h t => by
    obtain ⟨p, rfl, hp⟩ := h
    obtain ⟨ps, rfl, hps⟩ := refs_each t
    exact ⟨p :: ps, rfl, .cons hp hps⟩
theorem cr_sortedLL {X : Cx} (hu : X.A.units + 64 < cLine) : CallR X (.builtin "sorted") (rSortedLL X.K) := by
  intro pins s σ H vs us Q I r h
  obtain ⟨a, ps, yss, rfl, ha, hp, q⟩ := h
  obtain ⟨its, rv, hl, hz⟩ := I.list (SqL.of ha)
  obtain rfl := Vals.ref1 r
  obtain rfl := vals_refs rv
  have e := each_refs hp
  have hlen : yss.length ≤ sizeLine := by rw [← Paired.length hp]; rw [List.length_map] at hz; exact hz
  refine PySem.W.sorted_data (enc := fun ns : List Int => PyData.list (ns.map PyData.int)) (s := s) hl.isList e (e.mono fun v b hv => ?_) (PySem.W.AllAlike.of fun b b' => ?_) (PySem.W.Sortable.others fun b => ⟨fun z => (by cases z), fun xs z => (by cases z)⟩) hlen (fun b _ => ?_) fun out ho he => ?_
  · obtain ⟨p, rfl, hpp⟩ := hv
    obtain ⟨its2, rv2, hl2, _⟩ := I.list (SqL.of hpp)
    exact PySem.W.holds_list hl2.isList (PySem.W.HoldAll.of_ints rv2.ints)
  · show PySem.W.alike _ _ = true
    rw [PySem.W.alike]
    exact PySem.W.alike_ints b b'
  · show X.A.units + 2 + (PyData.list (b.map .int)).depth < cLine
    rw [PyData.depth, PySem.W.depth_ints]
    omega
  · obtain ⟨qs, rfl, hq⟩ := refs_each he
    obtain ⟨ep, he'⟩ := PyProof.Rows.sortedAll_at s.heap (ps.map Value.ref) (qs.map Value.ref).toArray
    refine ⟨.ref _, upd H (s.heap.objs.size + 1) (.lst (qs.map V.ref)), I.laid (t' := s.toks) (fun _ _ => PyProof.Rows.sortedAll_old) (Nat.le_succ _) ⟨by rw [List.length_map, ← List.length_map (f := Value.ref), ho]; exact hlen, _, ep, refs_vals qs, he'⟩, rfl, q _ _ _ (List.mergeSort_perm _ _) hq (I.hok.fresh (Nat.le_succ _))⟩
section
variable {X : Cx} {σ : L2.St} {H : Hp} {e a b : Expr} {es : List Expr} {p pos : Pos} {r : Rt}
/-- lists of lists each of which is as Pq says -/
def LLs (n : Nat) (Pq : List Int → Prop) : Rt := .gen fun v H => ∃ (l : Addr) (yss : List (List Int)), v = .ref l ∧ IsLL H l yss ∧ yss.length ≤ n ∧ ∀ ys ∈ yss, Pq ys
theorem x_sortedLL {n : Nat} {Pq : List Int → Prop} (hu : X.A.units + 64 < cLine) (ha : XG X σ H e (LLs n Pq)) (hm : X.mg "sorted" = none) (hg : Gl X "sorted" := by rfl) (he : starEach [e] X.env = (false, eval e X.env) :: starEach [] X.env := by rfl) (hpl : (backTo pos (starEach [] X.env)).any (·.1) = false := by rfl) :
    XG X σ H (.Call (.Name "sorted" p) [e] [] pos) (LLs n Pq) :=
  x_cbA (cr_sortedLL hu) hm (by decide +kernel) (a_cons ha (fun v H1 e1 g => a_nil fun H2 e2 Q k => by
    obtain ⟨l, yss, rfl, ⟨ps, hl, hp⟩, hz, hq⟩ := g
    refine ⟨l, ps, yss, rfl, e2 l _ hl, Paired.mapP hp fun p ns z => e2 p _ z, fun qs zss p hz' hps hn => k _ _ (Ex.new hn) ⟨p, zss, rfl, ⟨qs, upd_same, Paired.mapP hps fun p ns z => Ex.new hn p _ z⟩, by rw [hz'.length_eq]; exact hz, fun ys hy => hq ys (hz'.mem_iff.mp hy)⟩⟩) he) hg (by decide) (by decide) he hpl
/-- a display of one list -/
theorem x_lst1 {ns : List Int} (ha : XG X σ H e (.lst (ns.map V.int))) (he : starEach [e] X.env = (false, eval e X.env) :: starEach [] X.env := by rfl) : XG X σ H (.List [e] pos) (.gen fun v H => ∃ l, v = .ref l ∧ IsLL H l [ns]) := fun H1 e1 Q k =>
  to_e (pe_lst pa_sem) ((a_cons (P := fun vs H2 => ∃ q, vs = [V.ref q] ∧ H2 q = some (.lst (ns.map V.int))) ha (fun v H1 e1 g => a_nil fun H2 e2 => by
    obtain ⟨q, rfl, _, hq⟩ := g
    exact ⟨q, rfl, e2 q _ hq⟩) he) H1 e1 _ fun us H2 e2 g => by
    obtain ⟨q, rfl, hq⟩ := g
    exact ⟨sz_of (by simp), fun p hp => k _ _ (e2.trans (Ex.new hp)) ⟨p, rfl, [q], upd_same, .cons (Ex.new hp q _ hq) .nil⟩⟩)
theorem Paired.append {α β : Type} {F : α → β → Prop} : ∀ {l₁ : List α} {l₂ : List β} {m₁ : List α} {m₂ : List β}, Paired F l₁ l₂ → Paired F m₁ m₂ → Paired F (l₁ ++ m₁) (l₂ ++ m₂)
  | _, _, _, _, .nil, h => h
  | _, _, _, _, .cons r t, h => .cons r (Paired.append t h)
/-- one list ahead of lists -/
theorem x_catLL {ns : List Int} {Pq : List Int → Prop} (ha : XG X σ H a (.gen fun v H => ∃ l, v = .ref l ∧ IsLL H l [ns])) (hP : Pq ns) (hb : XG X σ H b (LLs 1000 Pq)) : XG X σ H (.BinOp a .Add b pos) (LLs 1001 Pq) := fun H1 e1 Q q =>
  to_e (pe_op op_cat pe_sem pe_sem) (ha H1 e1 _ fun _ H2 e2 g2 => by
    obtain ⟨l, rfl, ps, hl, hp⟩ := g2
    exact hb H2 (e1.trans e2) _ fun _ H3 e3 g3 => by
      obtain ⟨m, yss, rfl, ⟨qs, hm, hq⟩, hz, hP2⟩ := g3
      have l1 : ps.length = 1 := by have := Paired.length hp; simpa using this
      have l2 := Paired.length hq
      refine ⟨l, m, _, _, rfl, rfl, e3 l _ hl, hm, sz_of (by rw [List.length_map, List.length_map]; omega), fun p hpn => q _ _ ((e2.trans e3).trans (Ex.new hpn)) ⟨p, ns :: yss, rfl, ⟨ps ++ qs, by rw [upd_same, List.map_append], ?_⟩, by rw [List.length_cons]; omega, fun ys hy => ?_⟩⟩
      · exact Paired.append (l₂ := [ns]) (Paired.mapP hp fun p ns z => Ex.new hpn p _ (e3 p _ z)) (Paired.mapP hq fun p ns z => Ex.new hpn p _ z)
      · rcases List.mem_cons.mp hy with rfl | hy
        · exact hP
        · exact hP2 ys hy)
theorem XG.llUp {n m : Nat} {Pq : List Int → Prop} (h : XG X σ H e (LLs n Pq)) (l : n ≤ m) : XG X σ H e (LLs m Pq) := h.weak fun v H1 H2 _ _ g => by
  obtain ⟨l', yss, a, b, c, d⟩ := g
  exact ⟨l', yss, a, b, Nat.le_trans c l, d⟩
theorem paired_mem {α β : Type} {G : α → β → Prop} : ∀ {xs : List α} {ys : List β}, Paired G xs ys → ∀ y ∈ ys, ∃ x, G x y
  | _, _, .nil, _, h => nomatch h
  | _, _, .cons r t, y, h => by
    rcases List.mem_cons.mp h with rfl | h
    · exact ⟨_, r⟩
    · exact paired_mem t y h
/-- [elt for n in iter if ..], each element a list as Pq says -/
theorem l_LG (j : Nat) {n : Str} {tp : Pos} {elt iter : Expr} {ifs : List Expr} {scope : Scope} (Pq : List Int → Prop) (hN : X.N.Nodup) (ok : BlkOk X.N X.env.scope scope [(n, j)]) (h : XG X σ H iter r)
    (k : ∀ v H1, Ex H H1 → r.go H v H1 → ∃ (q : Addr) (xs : List V) (pr : V → Bool), v = .ref q ∧ SqL X.K H1 q xs ∧ xs.length ≤ 1000 ∧
      (∀ (s : Shared) (H0 : Hp) (cl : List (Str × Addr)) (C : Addr) (fp : List Addr) (x : V) (i : Nat) H2, xs[i]? = some x → Ex H1 H2 → XTs (Bk X s H0 scope cl C fp) ((σ.set j none).set j (some x)) H2 ifs (pr x)) ∧
      (∀ (s : Shared) (H0 : Hp) (cl : List (Str × Addr)) (C : Addr) (fp : List Addr) (x : V) (i : Nat) H2, xs[i]? = some x → pr x = true → Ex H1 H2 → ∃ ns : List Int, Pq ns ∧ XG (Bk X s H0 scope cl C fp) ((σ.set j none).set j (some x)) H2 elt (.lst (ns.map V.int))))
    (hc : X.calm = true := by rfl) (hs : ∀ x, foldedSetIterable iter X.env x = pure x := by intro _; rfl)
    (hj : X.N[j]? = some n := by rfl) (hx : (relS scope X.env.scope).names.lookup n = some .local := by rfl) :
    XLc X σ H j n tp elt iter ifs scope (LLs 1000 Pq) :=
  ⟨hN, ok, hj, hx, hs, hc, _, pi_list pe_sem, fun H1 e1 Q kk =>
    (h H1 e1 _ fun v H2 e2 g2 => by
      obtain ⟨q, xs, pr, rfl, hq, hz, ht, he⟩ := k v H2 (e1.trans e2) (go_back e1 g2)
      refine ⟨q, rfl, ⟨xs, hq⟩, fun Dl hD => ?_⟩
      refine lc_list (K := X.K) (a := q) (xs := xs) (g := gName j) (vs := [j]) (σ := σ) (tt := cTs X scope ifs) (te := cE X scope elt) (Qd := fun H' => Q (.ref Dl) H') (Lw H2 Dl xs pr (OwnL Dl fun _ => Pq)) ⟨hD, Ex.new hD, [], upd_same, .nil⟩ (fun i H' _ w => ex_l w.2.1 hq) (fun i x H' hi w => ⟨wipe1, ?_⟩) fun H' w => ?_
      · have hil := (List.getElem?_eq_some_iff.mp hi).1
        refine lw_turnL (σ2 := (σ.set j none).set j (some x)) (tt := cTs X scope ifs) (te := cE X scope elt) hi (by omega) w
          (fun H3 e3 Q q s H0 cl C fp => ht s H0 cl C fp x i H3 hi e3 H3 (Ex.refl H3) Q q) (fun hp H3 e3 hn Q q s H0 cl C fp => ?_)
        obtain ⟨ns, hP, hX⟩ := he s H0 cl C fp x i H3 hi hp e3
        refine hX H3 (Ex.refl H3) Q fun y H4 e4 g4 => ?_
        obtain ⟨l, rfl, hl, hl4⟩ := g4
        exact q _ H4 e4 ⟨l, ns, rfl, fun z => hn (by rw [← z]; exact hl), hl4, hP⟩
      · obtain ⟨w1, w2, ys, w3, w4⟩ := w
        rw [List.take_length] at w4
        obtain ⟨ps, yss, a, b, c⟩ := own_ll w4
        refine kk _ H' (e2.trans w2) ⟨Dl, yss, rfl, ⟨ps, by rw [w3, a], b⟩, ?_, fun ys hy => ?_⟩
        · rw [← Paired.length c]
          exact Nat.le_trans (List.length_filter_le _ _) hz
        · obtain ⟨x, hx⟩ := paired_mem c ys hy
          exact hx)⟩
/-- .. over a range -/
theorem l_LRG {wi : TI} {lo : Int} {m : Nat} (j : Nat) {n : Str} {tp : Pos} {elt iter : Expr} {ifs : List Expr} {scope : Scope} (Pq : List Int → Prop) (hN : X.N.Nodup) (ok : BlkOk X.N X.env.scope scope [(n, j)]) (hi : PI X (.Name n tp) iter wi)
    (h : ∀ H1, Ex H H1 → ∀ R : It → Hp → Prop, (∀ H2, Ex H1 H2 → R (Itr lo m) H2) → wi σ H1 R) (hz : m ≤ 1000)
    (ht : ∀ (s : Shared) (H0 : Hp) (cl : List (Str × Addr)) (C : Addr) (fp : List Addr) (i : Nat) H1, i < m → Ex H H1 → XTs (Bk X s H0 scope cl C fp) ((σ.set j none).set j (some (.int (lo + i)))) H1 ifs true)
    (he : ∀ (s : Shared) (H0 : Hp) (cl : List (Str × Addr)) (C : Addr) (fp : List Addr) (i : Nat) H1, i < m → Ex H H1 → ∃ ns : List Int, Pq ns ∧ XG (Bk X s H0 scope cl C fp) ((σ.set j none).set j (some (.int (lo + i)))) H1 elt (.lst (ns.map V.int)))
    (hc : X.calm = true := by rfl) (hs : ∀ x, foldedSetIterable iter X.env x = pure x := by intro _; rfl)
    (hj : X.N[j]? = some n := by rfl) (hx : (relS scope X.env.scope).names.lookup n = some .local := by rfl) :
    XLc X σ H j n tp elt iter ifs scope (LLs 1000 Pq) := ⟨hN, ok, hj, hx, hs, hc, _, hi, fun H1 e1 Q k =>
    (h H1 e1 _ fun H2 e2 Dl hD => by
      have hlen : ((List.range m).map fun i : Nat => V.int (lo + i)).length = m := by simp
      have hat : ∀ i, i < m → ((List.range m).map fun i : Nat => V.int (lo + i))[i]? = some (V.int (lo + i)) := fun i hi => by simp [hi]
      refine lc_range (lo := lo) (n := m) (g := gName j) (vs := [j]) (σ := σ) (tt := cTs X scope ifs) (te := cE X scope elt) (Qd := fun H' => Q (.ref Dl) H') (Lw H2 Dl ((List.range m).map fun i : Nat => V.int (lo + i)) (fun _ => true) (OwnL Dl fun _ => Pq)) ⟨hD, Ex.new hD, [], upd_same, .nil⟩ (fun i H' hi w => ⟨wipe1, ?_⟩) fun H' w => ?_
      · refine lw_turnL (σ2 := (σ.set j none).set j (some (.int (lo + i)))) (tt := cTs X scope ifs) (te := cE X scope elt) (hat i hi) (by omega) w
          (fun H3 e3 Q q s H0 cl C fp => ht s H0 cl C fp i H3 hi ((e1.trans e2).trans e3) H3 (Ex.refl H3) Q q) (fun hp H3 e3 hn Q q s H0 cl C fp => ?_)
        obtain ⟨ns, hP, hX⟩ := he s H0 cl C fp i H3 hi ((e1.trans e2).trans e3)
        refine hX H3 (Ex.refl H3) Q fun y H4 e4 g4 => ?_
        obtain ⟨l, rfl, hl, hl4⟩ := g4
        exact q _ H4 e4 ⟨l, ns, rfl, fun z => hn (by rw [← z]; exact hl), hl4, hP⟩
      · obtain ⟨w1, w2, ys, w3, w4⟩ := w
        rw [List.take_of_length_le (by rw [hlen]; exact Nat.le_refl _)] at w4
        obtain ⟨ps, yss, a, b, c⟩ := own_ll w4
        refine k _ H' (e2.trans w2) ⟨Dl, yss, rfl, ⟨ps, by rw [w3, a], b⟩, ?_, fun ys hy => ?_⟩
        · rw [← Paired.length c]
          refine Nat.le_trans (List.length_filter_le _ _) ?_
          rw [hlen]
          exact hz
        · obtain ⟨x, hx⟩ := paired_mem c ys hy
          exact hx)⟩
end
end Ck

set_option maxRecDepth 100000
set_option maxHeartbeats 4000000
namespace Ck
open PySem PySem.Spec PyProof.Rows L2 Evl
/-! ### the mores and the words of all kinds -/
def forP (κ : Kn) (k : Kd) : Prop := match κ with
  | .only | .place | .pair => k = .unlike
  | .count => k = .count
  | .step => k = .rising
  | .sum => k = .sum
  | .square => k = .nosquare
  | .reach => k = .joined ∨ k = .ring
  | .turn => k = .ring
  | .clue | .ways => True
def refA : V → Addr
  | .ref p => p
  | _ => 0
def Mo : Rt := LLs 2000 fun ys => ys.length ≤ 2
section
variable {P : Program} {w : World} {K : PySem.W.Frag} {mg : Str → Option Value} {base : Heap}
def rMores (κ : Kn) (K : PySem.W.Frag) : Rl := fun vs H r => ∃ (x p q a : Addr) (D : PuD) (R : Ru) (ms : List Int) (c sg : Int), vs = [.ref x, .ref p, .ref q, .ref a, .int c, .int sg] ∧ PuAt K H p D ∧ MaAt D.F H q ms ∧ RuAt K D.F H a R ∧ forP κ R.k ∧ 0 ≤ c ∧ c < D.F.h * D.F.w ∧ 1 ≤ sg ∧ sg ≤ 6 ∧ r = Mo
theorem mores_any (T : Top w K mg base) (κ : Kn) (hm : (κ.cls, ("mores" : Str), ("Kind.mores" : Str), 24, 4) ∈ fnM) : MF P w K mg base 7 (ga K κ.cls) "mores" ["self", "puzzle", "masks", "rule", "cell", "sign"] (rMores κ K) := by
  obtain ⟨f, fd, M, F⟩ := T.defM κ.cls "mores" "Kind.mores" 24 4 hm
  have S : FnScope ["self", "puzzle", "masks", "rule", "cell", "sign"] ["self", "puzzle", "masks", "rule", "cell", "sign"] (defScope (mth 24 4)) := ⟨rfl, rfl, rfl, by decide +kernel, rfl, by decide +kernel, by decide +kernel⟩
  refine ⟨f, fg_of F S (fun vs H r h => ?_) (fun _ _ _ _ _ _ us hl => match us, hl with | [_, _, _, _, _, _], _ => rfl) (fun cdv A outer s H E vs r hr h => ?_), M⟩
  · obtain ⟨_, _, _, _, _, _, _, _, _, rfl, _⟩ := h
    rfl
  · obtain ⟨x, p, q, a, D, R, ms, c, sg, rfl, PA, MA, RA, for_, c0, c1, s1, s6, rfl⟩ := h
    exact q_ret (r := Mo) (Ex.refl H) ((x_lst1 (ns := []) (x_lst e_nil (by decide))).weak fun v H1 H2 _ _ g => by
      obtain ⟨l, rfl, hl⟩ := g
      exact ⟨l, [[]], rfl, hl, by decide, fun ys hy => by rw [List.mem_singleton.mp hy]; decide⟩)
theorem x_sort2 {X : Cx} {σ : L2.St} {H : Hp} {e : Expr} {p pos : Pos} {ns : List Int} (ha : XG X σ H e (.lst (ns.map V.int))) (hm : X.mg "sorted" = none) (hg : Gl X "sorted" := by rfl) (he : starEach [e] X.env = (false, eval e X.env) :: starEach [] X.env := by rfl) (hpl : (backTo pos (starEach [] X.env)).any (·.1) = false := by rfl) :
    XG X σ H (.Call (.Name "sorted" p) [e] [] pos) (.gen fun v H1 => ∃ (q : Addr) (ns' : List Int), v = .ref q ∧ H1 q = some (.lst (ns'.map V.int)) ∧ (ns'.Perm ns ∧ ns'.Pairwise (· ≤ ·))) := x_sorted (XG.ofL ha) hm hg he hpl
theorem mores_only (T : Top w K mg base) : MF P w K mg base 7 (ga K Kn.only.cls) "mores" ["self", "puzzle", "masks", "rule", "cell", "sign"] (rMores .only K) := by
  obtain ⟨f, fd, M, F⟩ := T.defM "Only" "mores" "Only.mores" 30 4
  have S : FnScope ["self", "puzzle", "masks", "rule", "cell", "sign", "other"] ["self", "puzzle", "masks", "rule", "cell", "sign"] (defScope (mth 30 4)) := ⟨rfl, rfl, rfl, by decide +kernel, rfl, by decide +kernel, by decide +kernel⟩
  refine ⟨f, fg_of F S (fun vs H r h => ?_) (fun _ _ _ _ _ _ us hl => match us, hl with | [_, _, _, _, _, _], _ => rfl) (fun cdv A outer s H E vs r hr h => ?_), M⟩
  · obtain ⟨_, _, _, _, _, _, _, _, _, rfl, _⟩ := h
    rfl
  · obtain ⟨x, p, q, a, D, R, ms, c, sg, rfl, PA, MA, RA, for_, c0, c1, s1, s6, rfl⟩ := h
    have fo := PA.1.fo
    have f6 := fo.s6
    have hw := fo.hw
    have ol := others_len fo RA.1 c
    refine q_ret (r := Mo) (Ex.refl H) (XG.llUp (n := 1000) (x_l (l_LG 6 (fun ys => ys.length ≤ 2) S.nd (@blkOk_by ["self", "puzzle", "masks", "rule", "cell", "sign", "other"] (defScope (mth 30 4)) _ _ (by decide +kernel)) (x_sort2 (x_others T hr (x_v 3) (x_v 4) RA fo) (T.free "sorted")) fun v H1 k1 gg => ?_)) (by decide))
    obtain ⟨l, ns, rfl, hl, hp, _⟩ := gg
    exact ⟨l, _, fun _ => true, rfl, SqL.of hl, by rw [List.length_map, hp.length_eq]; omega, fun s' H0 cl C fp y i H2 hi k => ts_nil, fun s' H0 cl C fp y i H2 hi hp k => by
      obtain ⟨o, ho, rfl⟩ := at_intsI hi
      exact ⟨[o], by simp, x_lst (e_1 (x_v 6)) (by simp)⟩⟩
theorem mores_place (T : Top w K mg base) : MF P w K mg base 7 (ga K Kn.place.cls) "mores" ["self", "puzzle", "masks", "rule", "cell", "sign"] (rMores .place K) := by
  obtain ⟨f, fd, M, F⟩ := T.defM "Place" "mores" "Place.mores" 31 4
  have S : FnScope ["self", "puzzle", "masks", "rule", "cell", "sign", "other"] ["self", "puzzle", "masks", "rule", "cell", "sign"] (defScope (mth 31 4)) := ⟨rfl, rfl, rfl, by decide +kernel, rfl, by decide +kernel, by decide +kernel⟩
  refine ⟨f, fg_of F S (fun vs H r h => ?_) (fun _ _ _ _ _ _ us hl => match us, hl with | [_, _, _, _, _, _], _ => rfl) (fun cdv A outer s H E vs r hr h => ?_), M⟩
  · obtain ⟨_, _, _, _, _, _, _, _, _, rfl, _⟩ := h
    rfl
  · obtain ⟨x, p, q, a, D, R, ms, c, sg, rfl, PA, MA, RA, for_, c0, c1, s1, s6, rfl⟩ := h
    have fo := PA.1.fo
    have f6 := fo.s6
    have hw := fo.hw
    have e1 : (D.F.s + 1 - 1).toNat = D.F.s.toNat := by omega
    refine q_ret (r := Mo) (Ex.refl H) (XG.llUp (n := 1000) (x_l (l_LRG (lo := 1) (m := D.F.s.toNat) 6 (fun ys => ys.length ≤ 2) S.nd (@blkOk_by ["self", "puzzle", "masks", "rule", "cell", "sign", "other"] (defScope (mth 31 4)) _ _ (by decide +kernel)) (pi_range2 rfl (T.free "range") (pa_cons pe_sem (pa_cons pe_sem pa_nil)))
      (fun H1 k R q' => pr_2 x_int (x_add (x_ixTG (x_place T hr (x_v 1) (PA.mono k)) x_int pl_s) x_int) (by have := fo.s1; omega) H1 (Ex.refl H1) R fun H2 k2 => by rw [e1]; exact q' H2 k2) (by omega)
      (fun s' H0 cl C fp i H1 hi k => ts_nil) fun s' H0 cl C fp i H1 hi k => ⟨[1 + (i : Int)], by simp, x_lst (e_1 (x_v 6)) (by simp)⟩)) (by decide))
theorem mores_square (T : Top w K mg base) : MF P w K mg base 7 (ga K Kn.square.cls) "mores" ["self", "puzzle", "masks", "rule", "cell", "sign"] (rMores .square K) := by
  obtain ⟨f, fd, M, F⟩ := T.defM "Square" "mores" "Square.mores" 45 4
  have S : FnScope ["self", "puzzle", "masks", "rule", "cell", "sign", "square"] ["self", "puzzle", "masks", "rule", "cell", "sign"] (defScope (mth 45 4)) := ⟨rfl, rfl, rfl, by decide +kernel, rfl, by decide +kernel, by decide +kernel⟩
  refine ⟨f, fg_of F S (fun vs H r h => ?_) (fun _ _ _ _ _ _ us hl => match us, hl with | [_, _, _, _, _, _], _ => rfl) (fun cdv A outer s H E vs r hr h => ?_), M⟩
  · obtain ⟨_, _, _, _, _, _, _, _, _, rfl, _⟩ := h
    rfl
  · obtain ⟨x, p, q, a, D, R, ms, c, sg, rfl, PA, MA, RA, for_, c0, c1, s1, s6, rfl⟩ := h
    have fo := PA.1.fo
    have f6 := fo.s6
    have hw := fo.hw
    refine q_ret (r := Mo) (Ex.refl H) (XG.llUp (n := 1000) (x_l (l_LG 6 (fun ys => ys.length ≤ 2) S.nd (@blkOk_by ["self", "puzzle", "masks", "rule", "cell", "sign", "square"] (defScope (mth 45 4)) _ _ (by decide +kernel)) (x_callA (r := .gen fun v H' => ∃ l, v = .ref l ∧ IsLL H' l (squaresF D.F)) (ok_squares T) (hr.mono (by decide)) (a_cons (x_place T hr (x_v 1) PA) fun v H1 k1 gg => a_nil fun H2 k2 => ?_)) fun v H1 k1 gg => ?_)) (by decide))
    · obtain ⟨g, rfl, hg⟩ := gg
      exact ⟨_, ⟨g, D.F, rfl, k2 g _ hg, fo, rfl⟩, fun _ _ _ z => z⟩
    · obtain ⟨l, rfl, ps, hl, hp⟩ := gg
      have nn := fo.nn
      have pl : ps.length ≤ 16 := by
        rw [Paired.length hp]
        unfold squaresF
        rw [List.length_map]
        refine Nat.le_trans (List.length_filter_le _ _) ?_
        unfold cellsF
        simp
        omega
      have at_ : ∀ (i : Nat) (y : V), (ps.map V.ref)[i]? = some y → ∃ pp c0, y = .ref pp ∧ (squaresF D.F)[i]? = some (squareF D.F c0) ∧ H1 pp = some (.lst ((squareF D.F c0).map V.int)) := fun i y hy => by
        obtain ⟨pp, hpi, rfl⟩ := at_refs hy
        obtain ⟨sq, hsq, hps⟩ := paired_at hp hpi
        obtain ⟨c0, _, _, rfl⟩ := mem_squares (List.mem_of_getElem? hsq)
        exact ⟨pp, c0, rfl, hsq, hps⟩
      refine ⟨l, ps.map V.ref, fun y => true && decide (c ∈ (match H1 (refA y) with | some (.lst xs) => xs.map unI | _ => [])), rfl, SqL.of hl, by rw [List.length_map]; omega, fun s' H0 cl C fp y i H2 hi k => ?_, fun s' H0 cl C fp y i H2 hi hpr k => ?_⟩
      · obtain ⟨pp, c0, rfl, _, hps⟩ := at_ i y hi
        refine ts_one ((t_c (c_inI (x_v 4) (x_v 6) (k pp _ hps))).is ?_)
        show _ = (true && decide (c ∈ (match H1 pp with | some (.lst xs) => xs.map unI | _ => [])))
        rw [hps, Bool.true_and]
        show _ = decide (c ∈ ((squareF D.F c0).map V.int).map unI)
        rw [List.map_map]
        show _ = decide (c ∈ (squareF D.F c0).map fun x => x)
        rw [List.map_id']
      · obtain ⟨pp, c0, rfl, _, hps⟩ := at_ i y hi
        exact ⟨[c0], by simp, x_lst (e_1 (x_ixL (x_v 6) x_int (SqL.of (k pp _ hps)) at0)) (by simp)⟩
theorem mores_reach (T : Top w K mg base) : MF P w K mg base 7 (ga K Kn.reach.cls) "mores" ["self", "puzzle", "masks", "rule", "cell", "sign"] (rMores .reach K) := by
  obtain ⟨f, fd, M, F⟩ := T.defM "Reach" "mores" "Reach.mores" 46 4
  have S : FnScope ["self", "puzzle", "masks", "rule", "cell", "sign", "must", "other"] ["self", "puzzle", "masks", "rule", "cell", "sign"] (defScope (mth 46 4)) := ⟨rfl, rfl, rfl, by decide +kernel, rfl, by decide +kernel, by decide +kernel⟩
  refine ⟨f, fg_of F S (fun vs H r h => ?_) (fun _ _ _ _ _ _ us hl => match us, hl with | [_, _, _, _, _, _], _ => rfl) (fun cdv A outer s H E vs r hr h => ?_), M⟩
  · obtain ⟨_, _, _, _, _, _, _, _, _, rfl, _⟩ := h
    rfl
  · obtain ⟨x, p, q, a, D, R, ms, c, sg, rfl, PA, MA, RA, for_, c0, c1, s1, s6, rfl⟩ := h
    have fo := PA.1.fo
    have f6 := fo.s6
    have hw := fo.hw
    have r6 := RA.1.s0.2
    have r1 := RA.1.s1 (by rcases for_ with e | e; exact .inr (.inl e); exact .inr (.inr (.inr e)))
    have ml := MA.2.1
    have yl : (mustF ms R.s).length ≤ ms.length := Nat.le_trans (List.length_filter_le _ _) (by unfold rawC; simp)
    have fl := List.length_filter_le (fun y => !decide (y = c)) (mustF ms R.s)
    refine q_set 6 S.nd (x_l (l_I 7 (fun y => !decide (y = c)) V.int S.nd (@blkOk_by ["self", "puzzle", "masks", "rule", "cell", "sign", "must", "other"] (defScope (mth 46 4)) _ _ (by decide +kernel)) (x_must T hr (x_v 2) (x_sign T hr (x_v 3) RA) MA hw ⟨r1, by omega⟩) hrN (by omega)
        (fun s' H0 cl C fp y H2 hy k => ts_one (t_c (c_neI (x_v 7) (x_v 4)))) (fun s' H0 cl C fp y H2 hy hp k => x_v 7))) fun v H4 k4 gg => ?_
    obtain ⟨l, rfl, _, hl⟩ := gg
    refine q_when (t_c (c_eqI (x_v 5) (x_sign T hr (x_v 3) (RA.mono k4)))) (fun hb H5 k5 => ?_) (fun hb H5 k5 => ?_)
    · refine s_one (r_ret (r := Mo) (k4.trans k5) (XG.llUp (n := 1000) (x_l (l_LG 7 (fun ys => ys.length ≤ 2) S.nd (@blkOk_by ["self", "puzzle", "masks", "rule", "cell", "sign", "must", "other"] (defScope (mth 46 4)) _ _ (by decide +kernel)) (x_v 6) fun v H1 k1 gg => ?_)) (by decide)))
      cases gg
      exact ⟨l, _, fun _ => true, rfl, SqL.of (k1 l _ (k5 l _ hl)), by rw [List.length_map]; omega, fun s' H0 cl C fp y i H2 hi k => ts_nil, fun s' H0 cl C fp y i H2 hi hp k => by
        obtain ⟨o, ho, rfl⟩ := at_intsI hi
        exact ⟨[o], by simp, x_lst (e_1 (x_v 7)) (by simp)⟩⟩
    · refine q_ret (r := Mo) (k4.trans k5) (XG.llUp (n := 1000) (x_l (l_LG 7 (fun ys => ys.length ≤ 2) S.nd (@blkOk_by ["self", "puzzle", "masks", "rule", "cell", "sign", "must", "other"] (defScope (mth 46 4)) _ _ (by decide +kernel)) (x_from (k := 1) (x_v 6) x_int (SqL.of (k5 l _ hl))) fun v H1 k1 gg => ?_)) (by decide))
      obtain ⟨m, rfl, _, hm⟩ := gg
      refine ⟨m, _, fun _ => true, rfl, SqL.of hm, by rw [List.length_drop, List.length_map]; omega, fun s' H0 cl C fp y i H2 hi k => ts_nil, fun s' H0 cl C fp y i H2 hi hp k => ?_⟩
      rw [List.getElem?_drop] at hi
      obtain ⟨o, ho, rfl⟩ := at_intsI hi
      have ho1 := (List.getElem?_eq_some_iff.mp ho).1
      obtain ⟨d, ds, hd⟩ : ∃ d ds, (mustF ms R.s).filter (fun y => !decide (y = c)) = d :: ds := by
        cases e : (mustF ms R.s).filter (fun y => !decide (y = c)) with
        | nil => rw [e] at ho1; simp at ho1
        | cons d ds => exact ⟨d, ds, rfl⟩
      have hl2 := k l _ (k1 l _ (k5 l _ hl))
      rw [hd] at hl2
      exact ⟨[d, o], by simp, x_lst (e_cons (x_ixL (x_v 6) x_int (SqL.of hl2) at0) (e_1 (x_v 7))) (by simp)⟩
theorem mores_turn (T : Top w K mg base) : MF P w K mg base 7 (ga K Kn.turn.cls) "mores" ["self", "puzzle", "masks", "rule", "cell", "sign"] (rMores .turn K) := by
  obtain ⟨f, fd, M, F⟩ := T.defM "Turn" "mores" "Turn.mores" 47 4
  have S : FnScope ["self", "puzzle", "masks", "rule", "cell", "sign", "other"] ["self", "puzzle", "masks", "rule", "cell", "sign"] (defScope (mth 47 4)) := ⟨rfl, rfl, rfl, by decide +kernel, rfl, by decide +kernel, by decide +kernel⟩
  refine ⟨f, fg_of F S (fun vs H r h => ?_) (fun _ _ _ _ _ _ us hl => match us, hl with | [_, _, _, _, _, _], _ => rfl) (fun cdv A outer s H E vs r hr h => ?_), M⟩
  · obtain ⟨_, _, _, _, _, _, _, _, _, rfl, _⟩ := h
    rfl
  · obtain ⟨x, p, q, a, D, R, ms, c, sg, rfl, PA, MA, RA, for_, c0, c1, s1, s6, rfl⟩ := h
    have fo := PA.1.fo
    have f6 := fo.s6
    have hw := fo.hw
    have bl := beside_len D.F c
    refine q_ret (r := Mo) (Ex.refl H) (XG.llUp (n := 1001) (x_catLL (x_lst1 (ns := []) (x_lst e_nil (by decide))) (by decide) (x_l (l_LG 6 (fun ys => ys.length ≤ 2) S.nd (@blkOk_by ["self", "puzzle", "masks", "rule", "cell", "sign", "other"] (defScope (mth 47 4)) _ _ (by decide +kernel)) (x_besideP T hr (x_v 1) (x_v 4) PA) fun v H1 k1 gg => ?_))) (by decide))
    obtain ⟨l, rfl, _, hl⟩ := gg
    exact ⟨l, _, fun _ => true, rfl, SqL.of hl, by rw [List.length_map]; omega, fun s' H0 cl C fp y i H2 hi k => ts_nil, fun s' H0 cl C fp y i H2 hi hp k => by
      obtain ⟨o, ho, rfl⟩ := at_intsI hi
      exact ⟨[o], by simp, x_lst (e_1 (x_v 6)) (by simp)⟩⟩
theorem mores_pair (T : Top w K mg base) : MF P w K mg base 7 (ga K Kn.pair.cls) "mores" ["self", "puzzle", "masks", "rule", "cell", "sign"] (rMores .pair K) := by
  obtain ⟨f, fd, M, F⟩ := T.defM "Pair" "mores" "Pair.mores" 32 4
  have S : FnScope ["self", "puzzle", "masks", "rule", "cell", "sign", "others", "found", "k", "other"] ["self", "puzzle", "masks", "rule", "cell", "sign"] (defScope (mth 32 4)) := ⟨rfl, rfl, rfl, by decide +kernel, rfl, by decide +kernel, by decide +kernel⟩
  refine ⟨f, fg_of F S (fun vs H r h => ?_) (fun _ _ _ _ _ _ us hl => match us, hl with | [_, _, _, _, _, _], _ => rfl) (fun cdv A outer s H E vs r hr h => ?_), M⟩
  · obtain ⟨_, _, _, _, _, _, _, _, _, rfl, _⟩ := h
    rfl
  · obtain ⟨x, p, q, a, D, R, ms, c, sg, rfl, PA, MA, RA, for_, c0, c1, s1, s6, rfl⟩ := h
    have fo := PA.1.fo
    have f6 := fo.s6
    have hw := fo.hw
    have ol := others_len fo RA.1 c
    refine q_set 6 S.nd (x_others T hr (x_v 3) (x_v 4) RA fo) fun v H1 k1 gg => ?_
    obtain ⟨l, rfl, _, hl⟩ := gg
    refine q_set 7 S.nd (x_lst (vs := []) e_nil (by decide)) fun v H2 k2 gg => ?_
    obtain ⟨g, rfl, ng, hg⟩ := gg
    have hl2 := k2 l _ hl
    refine s_seq (s_forR 8 S.nd (x_len (x_v 6) (.inl (SqL.of hl2)) (T.free "len")) (by rw [List.length_map]; omega) (T.free "range") (fun i σ' H' => (∃ x1 x2, σ' = [some (.ref x), some (.ref p), some (.ref q), some (.ref a), some (.int c), some (.int sg), some (.ref l), some (.ref g), x1, x2]) ∧ ∃ yss, Gw H1 H' g yss ∧ yss.length ≤ 16 * i ∧ ∀ ys ∈ yss, ys.length ≤ 2)
      (fun H3 k3 => ⟨⟨none, none, rfl⟩, [], ⟨k2.trans k3, [], k3 g _ hg, .nil⟩, by simp, fun ys hy => nomatch hy⟩) ?_ ?_)
    · rintro i σ' H3 hi ⟨⟨x1, x2, rfl⟩, yss, G, hz, hy⟩
      rw [List.length_map, Int.toNat_natCast] at hi
      refine s_one (s_forN 9 S.nd (x_from (k := i + 1) (x_v 6) (XG.is (x := .int ((i + 1 : Nat) : Int)) (x_add (i := (i : Int)) (j := 1) (x_v 8) x_int) rfl) (SqL.of (G.1 l _ hl))) (fun m t σ' H' => (∃ x2, σ' = [some (.ref x), some (.ref p), some (.ref q), some (.ref a), some (.int c), some (.int sg), some (.ref l), some (.ref g), some (.int i), x2]) ∧ H1 m = none ∧ m ≠ g ∧ H' m = some (.lst (((othersF R c).map V.int).drop (i + 1))) ∧ ∃ yss, Gw H1 H' g yss ∧ yss.length ≤ 16 * i + t ∧ ∀ ys ∈ yss, ys.length ≤ 2)
        (fun m H4 k4 nm hm => ?_) (fun m t σ' H' _ z => SqL.of z.2.2.2.1) ?_ ?_)
      · refine ⟨⟨x2, rfl⟩, fresh_back G.1 nm, fun z => ?_, hm, yss, G.step k4, hz, hy⟩
        obtain ⟨_, ps, h1, _⟩ := G
        rw [z, h1] at nm
        cases nm
      · rintro m t y σ' H4 hyt ⟨⟨x2, rfl⟩, nm, mg_, hm, yss2, G2, hz2, hy2⟩
        have ht := (List.getElem?_eq_some_iff.mp hyt).1
        rw [List.length_drop, List.length_map] at ht
        rw [List.getElem?_drop] at hyt
        obtain ⟨o, ho, rfl⟩ := at_intsI hyt
        obtain ⟨ps, hps, hpp⟩ := id G2.2
        have lps : ps.length ≤ 300 := by rw [Paired.length hpp]; omega
        refine s_one (s_app (xs := ps.map V.ref) hps (x_v 7) (x_lst (vs := [.int ((othersF R c).getD i 0), .int o]) (e_cons (x_ixL (x_v 6) (x_v 8) (SqL.of (G2.1 l _ hl)) (at_ints hi)) (e_1 (x_v 9))) (by simp)) (by rw [List.length_map]; omega) fun v H5 k5 gg => ?_)
        obtain ⟨z, rfl, nz, hz5⟩ := gg
        obtain ⟨ps2, hps2, e5, G5⟩ := G2.grow (ys := [(othersF R c).getD i 0, o]) ng k5 nz hz5
        have e7 := k5 g _ hps
        rw [hps2] at e7
        have e8 := HO.lst.inj (Option.some.inj e7)
        rw [← e8]
        have em : Ex H1 (upd H5 g (.lst (ps2.map V.ref ++ [.ref z]))) := G5.1
        refine ⟨⟨_, rfl⟩, nm, mg_, ?_, _, G5, by simp; omega, fun ys h => ?_⟩
        · rw [upd_ne mg_]
          exact k5 m _ hm
        · rcases List.mem_append.mp h with h | h
          · exact hy2 ys h
          · rw [List.mem_singleton.mp h]
            simp
      · rintro m σ' H4 ⟨⟨x2, rfl⟩, nm, mg_, hm, yss2, G2, hz2, hy2⟩
        refine ⟨⟨_, _, rfl⟩, yss2, G2, ?_, hy2⟩
        rw [List.length_drop, List.length_map] at hz2
        omega
    · rintro σ' H3 ⟨⟨x1, x2, rfl⟩, yss, G, hz, hy⟩
      rw [List.length_map, Int.toNat_natCast] at hz
      exact s_one (r_ret (r := Mo) (k1.trans G.1) (x_sortedLL hr.units (XG.llUp (n := 1000) ((x_v 7).weak fun v H4 H5 e4 e5 g => by
        cases g
        exact ⟨_, yss, rfl, (G.ll.mono e4).mono e5, by omega, hy⟩) (by decide)) (T.free "sorted")))
end
end Ck

set_option maxRecDepth 100000
set_option maxHeartbeats 4000000
namespace Ck
open PySem PySem.Spec PyProof.Rows L2 Evl
section
variable {P : Program} {w : World} {K : PySem.W.Frag} {mg : Str → Option Value} {base : Heap}
def rWord (κ : Kn) : Rl := fun vs H r => ∃ x : Addr, vs = [.ref x] ∧ r = .val (.str κ.word)
theorem word_of (T : Top w K mg base) (k : Kn) (q : Str) (i : Nat) (hm : (k.cls, ("word" : Str), q, i, 0) ∈ fnM) (S : FnScope ["self"] ["self"] (defScope (mth i 0))) (hb : ∃ j p p', defBody (mth i 0) = [.Return (some (.Constant (.str k.word) j p)) p'])
    (bd : ∀ (fd : FuncData) (kV doc pm : Value) (an : Option Addr) (cdv ct : Value) (us : List Value), us.length = 1 → bindArgs (PySem.W.fnOf "word" q (defArgs (mth i 0)) (defBody (mth i 0)) (defScope (mth i 0)) .none kV doc pm an cdv ct) ⟨us, []⟩ = pure ((["self"] : List Str).zip us)) :
    MF P w K mg base 1 (ga K k.cls) "word" ["self"] (rWord k) := by
  obtain ⟨f, fd, M, F⟩ := T.defM k.cls "word" q i 0 hm
  refine ⟨f, fg_of F S (fun vs H r h => ?_) (bd fd) (fun cdv A outer s H E vs r hr h => ?_), M⟩
  · obtain ⟨_, rfl, _⟩ := h
    rfl
  · obtain ⟨a, rfl, rfl⟩ := h
    obtain ⟨j, p, p', hb⟩ := hb
    rw [hb]
    exact q_ret (Ex.refl H) x_str
theorem ok_word (T : Top w K mg base) (κ : Kn) : MF P w K mg base 1 (ga K κ.cls) "word" ["self"] (rWord κ) := by
  cases κ
  · exact word_of T .clue "Clue.word" 28 (by decide +kernel) (sc_self (.inl rfl) rfl rfl rfl (by decide +kernel)) ⟨_, _, _, rfl⟩ fun _ _ _ _ _ _ _ us hl => match us, hl with | [_], _ => rfl
  · exact word_of T .only "Only.word" 30 (by decide +kernel) (sc_self (.inl rfl) rfl rfl rfl (by decide +kernel)) ⟨_, _, _, rfl⟩ fun _ _ _ _ _ _ _ us hl => match us, hl with | [_], _ => rfl
  · exact word_of T .place "Place.word" 31 (by decide +kernel) (sc_self (.inl rfl) rfl rfl rfl (by decide +kernel)) ⟨_, _, _, rfl⟩ fun _ _ _ _ _ _ _ us hl => match us, hl with | [_], _ => rfl
  · exact word_of T .count "Count.word" 36 (by decide +kernel) (sc_self (.inl rfl) rfl rfl rfl (by decide +kernel)) ⟨_, _, _, rfl⟩ fun _ _ _ _ _ _ _ us hl => match us, hl with | [_], _ => rfl
  · exact word_of T .step "Step.word" 38 (by decide +kernel) (sc_self (.inl rfl) rfl rfl rfl (by decide +kernel)) ⟨_, _, _, rfl⟩ fun _ _ _ _ _ _ _ us hl => match us, hl with | [_], _ => rfl
  · exact word_of T .sum "Sums.word" 39 (by decide +kernel) (sc_self (.inl rfl) rfl rfl rfl (by decide +kernel)) ⟨_, _, _, rfl⟩ fun _ _ _ _ _ _ _ us hl => match us, hl with | [_], _ => rfl
  · exact word_of T .square "Square.word" 45 (by decide +kernel) (sc_self (.inl rfl) rfl rfl rfl (by decide +kernel)) ⟨_, _, _, rfl⟩ fun _ _ _ _ _ _ _ us hl => match us, hl with | [_], _ => rfl
  · exact word_of T .reach "Reach.word" 46 (by decide +kernel) (sc_self (.inl rfl) rfl rfl rfl (by decide +kernel)) ⟨_, _, _, rfl⟩ fun _ _ _ _ _ _ _ us hl => match us, hl with | [_], _ => rfl
  · exact word_of T .turn "Turn.word" 47 (by decide +kernel) (sc_self (.inl rfl) rfl rfl rfl (by decide +kernel)) ⟨_, _, _, rfl⟩ fun _ _ _ _ _ _ _ us hl => match us, hl with | [_], _ => rfl
  · exact word_of T .pair "Pair.word" 32 (by decide +kernel) (sc_self (.inl rfl) rfl rfl rfl (by decide +kernel)) ⟨_, _, _, rfl⟩ fun _ _ _ _ _ _ _ us hl => match us, hl with | [_], _ => rfl
  · exact word_of T .ways "Ways.word" 40 (by decide +kernel) (sc_self (.inl rfl) rfl rfl rfl (by decide +kernel)) ⟨_, _, _, rfl⟩ fun _ _ _ _ _ _ _ us hl => match us, hl with | [_], _ => rfl
theorem ok_strikes (T : Top w K mg base) (κ : Kn) : MF P w K mg base 7 (ga K κ.cls) "strikes" ["self", "puzzle", "masks", "rule", "thought"] (rStrikes κ K) := by
  cases κ
  · exact strikes_clue T
  · exact strikes_only T
  · exact strikes_place T
  · exact strikes_count T
  · exact strikes_step T
  · exact strikes_sum T
  · exact strikes_square T
  · exact strikes_reach T
  · exact strikes_turn T
  · exact strikes_pair T
  · exact strikes_ways T
theorem ok_mores (T : Top w K mg base) (κ : Kn) : MF P w K mg base 7 (ga K κ.cls) "mores" ["self", "puzzle", "masks", "rule", "cell", "sign"] (rMores κ K) := by
  cases κ
  · exact mores_any T .clue (by decide +kernel)
  · exact mores_only T
  · exact mores_place T
  · exact mores_any T .count (by decide +kernel)
  · exact mores_any T .step (by decide +kernel)
  · exact mores_any T .sum (by decide +kernel)
  · exact mores_square T
  · exact mores_reach T
  · exact mores_turn T
  · exact mores_pair T
  · exact mores_any T .ways (by decide +kernel)
end
section
variable {X : Cx} {σ : L2.St} {H : Hp} {o e e2 e3 e4 e5 : Expr} {κ : Kn} {a x p q th m : Addr} {D : PuD} {R : Ru} {ms : List Int} {t : Th} {wd : Str} {pos apos : Pos} {k : Nat}
theorem x_word (T : Top X.w X.K X.mg X.base) (hr : Room k X.A) (ho : XV X σ H o (.ref x)) (KA : KnAt X.K H x κ) (hk : 1 ≤ k := by decide) {pl : Sem Bool}
    (ht : eval (.Call (.Attribute o "word" apos) [] [] pos) X.env = (do
      let ov ← eval o X.env
      standAt apos.atName
      let (f, first) ← holding [ov] (getMethod ov "word" pl)
      callWith pos f first (backTo pos (starEach [] X.env)) (backToKw pos (keywordEach [] X.env))) := by rfl) : XV X σ H (.Call (.Attribute o "word" apos) [] [] pos) (.str κ.word) := by
  obtain ⟨dx, h1⟩ := KA
  exact x_meth0 (ok_word T κ) (T.kcls κ) (hr.mono hk) ho h1 rfl (fun H1 e1 => ⟨x, rfl, rfl⟩) ht
theorem x_fits (T : Top X.w X.K X.mg X.base) (hr : Room k X.A) (ho : XV X σ H o (.ref x)) (KA : KnAt X.K H x κ) (he : XV X σ H e (.ref p)) (he2 : XV X σ H e2 (.ref a)) (he3 : XV X σ H e3 (.ref th)) (PA : PuAt X.K H p D) (RA : RuAt X.K D.F H a R) (TA : ThAt H th m wd t) (ok : ThOk D.F t) (hk : 4 ≤ k := by decide) {pl : Sem Bool}
    (hst : starEach [e, e2, e3] X.env = (false, eval e X.env) :: starEach [e2, e3] X.env := by rfl) (hst2 : starEach [e2, e3] X.env = (false, eval e2 X.env) :: starEach [e3] X.env := by rfl) (hst3 : starEach [e3] X.env = (false, eval e3 X.env) :: starEach [] X.env := by rfl) (hpl : (backTo pos (starEach [e2, e3] X.env)).any (·.1) = false := by rfl)
    (ht : eval (.Call (.Attribute o "fits" apos) [e, e2, e3] [] pos) X.env = (do
      let ov ← eval o X.env
      standAt apos.atName
      let (f, first) ← holding [ov] (getMethod ov "fits" pl)
      callWith pos f first (backTo pos (starEach [e, e2, e3] X.env)) (backToKw pos (keywordEach [] X.env))) := by rfl) : XG X σ H (.Call (.Attribute o "fits" apos) [e, e2, e3] [] pos) (Yes (fitsP κ D.F R t)) := by
  obtain ⟨dx, h1⟩ := KA
  exact x_meth (ok_fits T κ) (T.kcls κ) (hr.mono hk) ho h1 rfl (e_cons he (e_cons he2 (e_1 he3 hst3) hst2) hst) (fun H1 e1 => ⟨x, p, a, th, m, D, R, t, wd, rfl, PA.mono e1, RA.mono e1, TA.mono e1, ok, rfl⟩) hst hpl ht
theorem x_strikes (T : Top X.w X.K X.mg X.base) (hr : Room k X.A) (ho : XV X σ H o (.ref x)) (KA : KnAt X.K H x κ) (he : XV X σ H e (.ref p)) (he2 : XV X σ H e2 (.ref q)) (he3 : XV X σ H e3 (.ref a)) (he4 : XV X σ H e4 (.ref th)) (PA : PuAt X.K H p D) (MA : MaAt D.F H q ms) (RA : RuAt X.K D.F H a R) (TA : ThAt H th m wd t) (ok : ThOk D.F t) (fit : fitsP κ D.F R t) (hk : 7 ≤ k := by decide) {pl : Sem Bool}
    (hst : starEach [e, e2, e3, e4] X.env = (false, eval e X.env) :: starEach [e2, e3, e4] X.env := by rfl) (hst2 : starEach [e2, e3, e4] X.env = (false, eval e2 X.env) :: starEach [e3, e4] X.env := by rfl) (hst3 : starEach [e3, e4] X.env = (false, eval e3 X.env) :: starEach [e4] X.env := by rfl) (hst4 : starEach [e4] X.env = (false, eval e4 X.env) :: starEach [] X.env := by rfl) (hpl : (backTo pos (starEach [e2, e3, e4] X.env)).any (·.1) = false := by rfl)
    (ht : eval (.Call (.Attribute o "strikes" apos) [e, e2, e3, e4] [] pos) X.env = (do
      let ov ← eval o X.env
      standAt apos.atName
      let (f, first) ← holding [ov] (getMethod ov "strikes" pl)
      callWith pos f first (backTo pos (starEach [e, e2, e3, e4] X.env)) (backToKw pos (keywordEach [] X.env))) := by rfl) : XG X σ H (.Call (.Attribute o "strikes" apos) [e, e2, e3, e4] [] pos) (Yes (strikesP κ D.F D.clues ms R t)) := by
  obtain ⟨dx, h1⟩ := KA
  exact x_meth (ok_strikes T κ) (T.kcls κ) (hr.mono hk) ho h1 rfl (e_cons he (e_cons he2 (e_cons he3 (e_1 he4 hst4) hst3) hst2) hst) (fun H1 e1 => ⟨x, p, q, a, th, m, D, R, t, wd, ms, rfl, PA.mono e1, MA.mono e1, RA.mono e1, TA.mono e1, ok, fit, rfl⟩) hst hpl ht
theorem x_mores {c sg : Int} (T : Top X.w X.K X.mg X.base) (hr : Room k X.A) (ho : XV X σ H o (.ref x)) (KA : KnAt X.K H x κ) (he : XV X σ H e (.ref p)) (he2 : XV X σ H e2 (.ref q)) (he3 : XV X σ H e3 (.ref a)) (he4 : XV X σ H e4 (.int c)) (he5 : XV X σ H e5 (.int sg)) (PA : PuAt X.K H p D) (MA : MaAt D.F H q ms) (RA : RuAt X.K D.F H a R) (hf : forP κ R.k) (c0 : 0 ≤ c) (c1 : c < D.F.h * D.F.w) (s1 : 1 ≤ sg) (s6 : sg ≤ 6) (hk : 7 ≤ k := by decide) {pl : Sem Bool}
    (hst : starEach [e, e2, e3, e4, e5] X.env = (false, eval e X.env) :: starEach [e2, e3, e4, e5] X.env := by rfl) (hst2 : starEach [e2, e3, e4, e5] X.env = (false, eval e2 X.env) :: starEach [e3, e4, e5] X.env := by rfl) (hst3 : starEach [e3, e4, e5] X.env = (false, eval e3 X.env) :: starEach [e4, e5] X.env := by rfl) (hst4 : starEach [e4, e5] X.env = (false, eval e4 X.env) :: starEach [e5] X.env := by rfl) (hst5 : starEach [e5] X.env = (false, eval e5 X.env) :: starEach [] X.env := by rfl) (hpl : (backTo pos (starEach [e2, e3, e4, e5] X.env)).any (·.1) = false := by rfl)
    (ht : eval (.Call (.Attribute o "mores" apos) [e, e2, e3, e4, e5] [] pos) X.env = (do
      let ov ← eval o X.env
      standAt apos.atName
      let (f, first) ← holding [ov] (getMethod ov "mores" pl)
      callWith pos f first (backTo pos (starEach [e, e2, e3, e4, e5] X.env)) (backToKw pos (keywordEach [] X.env))) := by rfl) : XG X σ H (.Call (.Attribute o "mores" apos) [e, e2, e3, e4, e5] [] pos) Mo := by
  obtain ⟨dx, h1⟩ := KA
  exact x_meth (ok_mores T κ) (T.kcls κ) (hr.mono hk) ho h1 rfl (e_cons he (e_cons he2 (e_cons he3 (e_cons he4 (e_1 he5 hst5) hst4) hst3) hst2) hst) (fun H1 e1 => ⟨x, p, q, a, D, R, ms, c, sg, rfl, PA.mono e1, MA.mono e1, RA.mono e1, hf, c0, c1, s1, s6, rfl⟩) hst hpl ht
end
end Ck

set_option maxRecDepth 100000
set_option maxHeartbeats 4000000
namespace Ck
open PySem PySem.Spec PyProof.Rows L2 Evl
/-! ### classes without an __init__, made; tuples of parts told of -/
section
open PySem.W
theorem run_make00 {X : Cx} {pins : List (Addr × Obj)} {σ : L2.St} {H : Hp} {s : Shared} {Q : VK} {C : Addr} (m : PySem.W.makesIn X.K C = true) (i : PySem.W.findIn X.K (.ref C) "__init__" = some (some (.builtin "object.__init__"))) (I : L2.Inv X pins σ H s)
    (h : ∀ x dx, H x = none → H dx = none → dx ≠ x → Q (.ref x) (upd (upd H dx (.own x)) x (.ins C dx []))) : wpAny (model X.prog X.w) X.A (call (.ref C) []) (EP X pins σ Q) X.xe s := by
  have q := h (s.heap.objs.size + 1) s.heap.objs.size (I.hok.fresh (Nat.le_succ _)) (I.hok.fresh (Nat.le_refl _)) (Nat.ne_of_lt (Nat.lt_succ_self _))
  have I2 := Inv.made (C := C) I
  have kin := I.kIn
  refine wpAny_call (make_map0 I.kIn m i (fun self => Looks.of_pure (oi_bind self)) ?_)
  have ho : ((s.heap.push emptyDict).push (instObj C s.heap.objs.size)).get? (s.heap.objs.size + 1) = some (instObj C s.heap.objs.size) := by
    have := Heap.get?_push_size (s.heap.push emptyDict) (o := instObj C s.heap.objs.size) rfl
    rwa [Heap.size_push] at this
  have t1 : Looks (model X.prog X.w) ((s.heap.push emptyDict).push (instObj C s.heap.objs.size)) (typeOf (.ref (s.heap.objs.size + 1))) (.ref C) := (Looks.ld ho).andThen .now
  have Y := makes_of (M := model X.prog X.w) kin m
  have t2 : Looks (model X.prog X.w) ((s.heap.push emptyDict).push (instObj C s.heap.objs.size)) (isInstance (.ref (s.heap.objs.size + 1)) (.type "object")) true := t1.andThen (Y.top.keeps fun b o e => Heap.get?_push_of_some _ (Heap.get?_push_of_some _ e))
  refine codeAny_call_builtin oi_plain entry_oi (@check_slot (model X.prog X.w) _ _ _ "object.__init__" "object" "__init__" (.ref (s.heap.objs.size + 1)) [] [] _ oi_kind oi_split t2 (oi_args (.ref (s.heap.objs.size + 1))) ?_)
  rw [oi_run]
  exact wpAny_pure (And.intro rfl ⟨V.ref (s.heap.objs.size + 1), _, I2, rfl, q⟩)
end
section
variable {X : Cx} {σ : L2.St} {H : Hp} {e a b : Expr} {es : List Expr} {p pos : Pos} {r : Rt}
/-- C() of a class without an __init__ -/
theorem x_make00 {n : Str} {C : Addr} (m : PySem.W.makesIn X.K C = true) (i : PySem.W.findIn X.K (.ref C) "__init__" = some (some (.builtin "object.__init__"))) (kp : PySem.W.keepIn X.K (.ref C) = true) (hm : X.mg n = some (.ref C)) (hg : Gl X n := by rfl) (hd : (n == ("__debug__" : Str)) = false := by decide) :
    XG X σ H (.Call (.Name n p) [] [] pos) (.gen fun v H' => ∃ x dx, v = .ref x ∧ H' x = some (.ins C dx [])) := fun H1 e1 Q q =>
  fun pins s I => wpAny_Call_Name_kw (ld_glob I hg hm (PySem.W.callWith_K0 I.kIn kp (run_make00 m i I fun x dx hx hdx ne => q (.ref x) _ ((Ex.new hdx).trans (Ex.new (by rw [upd_ne (Ne.symm ne)]; exact hx))) ⟨x, dx, rfl, upd_same⟩)) hd)
/-- (a, b, ..), [a, b, ..] of parts told of -/
theorem x_tupA {x1 : Nat} {Pq : List V → Hp → Prop} (ha : XA X σ H es Pq) (mono : ∀ vs H1 H2, Pq vs H1 → Ex H1 H2 → Pq vs H2) (hl : ∀ vs H1, Pq vs H1 → vs.length ≤ 100000) : XG X σ H (.Tuple es x1 pos) (.gen fun v H' => ∃ q vs, v = .ref q ∧ H' q = some (.tup vs) ∧ Pq vs H') := fun H1 e1 Q k =>
  to_e (pe_tup pa_sem) (ha H1 e1 _ fun us H2 e2 g => ⟨sz_of (hl us H2 g), fun p hp => k _ _ (e2.trans (Ex.new hp)) ⟨p, us, rfl, upd_same, mono us _ _ g (Ex.new hp)⟩⟩)
theorem x_lstA {Pq : List V → Hp → Prop} (ha : XA X σ H es Pq) (mono : ∀ vs H1 H2, Pq vs H1 → Ex H1 H2 → Pq vs H2) (hl : ∀ vs H1, Pq vs H1 → vs.length ≤ 100000) : XG X σ H (.List es pos) (.gen fun v H' => ∃ q vs, v = .ref q ∧ H' q = some (.lst vs) ∧ Pq vs H') := fun H1 e1 Q k =>
  to_e (pe_lst pa_sem) (ha H1 e1 _ fun us H2 e2 g => ⟨sz_of (hl us H2 g), fun p hp => k _ _ (e2.trans (Ex.new hp)) ⟨p, us, rfl, upd_same, mono us _ _ g (Ex.new hp)⟩⟩)
/-- xs + ys, both told of -/
theorem x_catG {Pa Pb Pc : List V → Hp → Prop} (ha : XG X σ H a (.gen fun v H' => ∃ q vs, v = .ref q ∧ H' q = some (.lst vs) ∧ Pa vs H')) (hb : XG X σ H b (.gen fun v H' => ∃ q vs, v = .ref q ∧ H' q = some (.lst vs) ∧ Pb vs H')) (hz : ∀ xs ys H1, Pa xs H1 → Pb ys H1 → xs.length + ys.length ≤ 100000 ∧ Pc (xs ++ ys) H1) (ma : ∀ vs H1 H2, Pa vs H1 → Ex H1 H2 → Pa vs H2) (mc : ∀ vs H1 H2, Pc vs H1 → Ex H1 H2 → Pc vs H2) :
    XG X σ H (.BinOp a .Add b pos) (.gen fun v H' => ∃ q vs, v = .ref q ∧ H' q = some (.lst vs) ∧ Pc vs H') := fun H1 e1 Q q =>
  to_e (pe_op op_cat pe_sem pe_sem) (ha H1 e1 _ fun _ H2 e2 g2 => by
    obtain ⟨l, xs, rfl, hl, hA⟩ := g2
    exact hb H2 (e1.trans e2) _ fun _ H3 e3 g3 => by
      obtain ⟨m, ys, rfl, hm, hB⟩ := g3
      obtain ⟨z1, z2⟩ := hz xs ys H3 (ma _ _ _ hA e3) hB
      exact ⟨l, m, xs, ys, rfl, rfl, e3 l _ hl, hm, sz_of z1, fun p hp => q _ _ ((e2.trans e3).trans (Ex.new hp)) ⟨p, _, rfl, upd_same, mc _ _ _ z2 (Ex.new hp)⟩⟩)
end
section
variable {P : Program} {w : World} {K : PySem.W.Frag} {mg : Str → Option Value} {base : Heap}
theorem Top.row (T : Top w K mg base) {x : Str} {ws : List Str} (h : (x, ws) ∈ rulesOf) (H : Hp) : ∃ t, PySem.W.nsIn K (ga K "RULES_OF") x = some (some (.ref t)) ∧ SqT K H t (ws.map V.str) := by
  have h := List.all_eq_true.mp T.ex.2.2.2.1 _ h
  unfold tabRow at h
  split at h
  · next t ht =>
    refine ⟨t, ht, ?_⟩
    split at h
    · next c its n q =>
      obtain ⟨h1, h2⟩ := Bool.and_eq_true_iff.mp h
      obtain ⟨h3, h4⟩ := Bool.and_eq_true_iff.mp h2
      exact .inr ⟨_, _, _, q, congrArg Value.type (of_decide_eq_true h1), rfl, of_decide_eq_true h3, He.relAll_ok h4⟩
    · cases h
  · cases h
theorem Top.norow (T : Top w K mg base) {x : Str} (h : x ∈ (["clue", "ways"] : List Str)) : PySem.W.nsIn K (ga K "RULES_OF") x = some none := He.eqO_ok (List.all_eq_true.mp T.ex.2.2.2.2 x h)
theorem Top.mk0 (T : Top w K mg base) {x : Str} (h : x ∈ kindCs) : PySem.W.makesIn K (ga K x) = true ∧ PySem.W.keepIn K (.ref (ga K x)) = true ∧ PySem.W.findIn K (.ref (ga K x)) "__init__" = some (some (.builtin "object.__init__")) := by
  have h := List.all_eq_true.mp T.ex.1 _ h
  obtain ⟨h1, h2⟩ := Bool.and_eq_true_iff.mp h
  obtain ⟨h3, h4⟩ := Bool.and_eq_true_iff.mp h1
  exact ⟨h3, h4, He.eqO_ok h2⟩
end
end Ck

set_option maxRecDepth 100000
set_option maxHeartbeats 4000000
namespace Ck
open PySem PySem.Spec PyProof.Rows L2 Evl
/-! ### tests of which only a part is told -/
section
variable {X : Cx} {σ : L2.St} {H : Hp} {D : Ends} {e a b : Expr} {body els : List Stmt} {pos : Pos}
def XTG (X : Cx) (σ : L2.St) (H : Hp) (e : Expr) (Pb : Bool → Prop) : Prop := ∀ H1, Ex H H1 → ∀ Q : Bool → Hp → Prop, (∀ c H2, Ex H1 H2 → Pb c → Q c H2) → semT X e σ H1 Q
theorem t_valG {p : Prop} (h : XG X σ H e (Yes p)) (he : ∀ whole, isTrue e X.env whole = (do let v ← whole; standAt e.pos; holding [v] (truthy v)) := by intro _; rfl) : XTG X σ H e fun c => c = true → p := fun H1 e1 Q q =>
  to_t (pt_val pe_sem he) (h H1 e1 _ fun v H2 e2 g => by
    obtain ⟨b, rfl, hb⟩ := g
    exact ⟨b, rfl, q b H2 e2 hb⟩)
theorem t_andG {p q : Prop} (h : XTG X σ H a fun c => c = true → p) (k : p → XTG X σ H b fun c => c = true → q) : XTG X σ H (.BoolOp .And [a, b] pos) fun c => c = true → p ∧ q := fun H1 e1 Q qq =>
  to_t pw_sem.pt (to_w (pw_and pt_sem (pw_and1 pt_sem)) (h H1 e1 _ fun c H2 e2 hc => by
    cases c with
    | true => exact k (hc rfl) H2 (e1.trans e2) Q fun d H3 e3 hd => qq d H3 (e2.trans e3) fun z => ⟨hc rfl, hd z⟩
    | false => exact qq false H2 e2 fun z => nomatch z))
theorem XT.g {c : Bool} (h : XT X σ H e c) : XTG X σ H e fun d => d = true → c = true := fun H1 e1 Q q => h H1 e1 _ fun H2 e2 => q c H2 e2 id
theorem s_whenG {p : Prop} (h : XTG X σ H e fun c => c = true → p) (h1 : p → ∀ H1, Ex H H1 → semB X body D σ H1) (h2 : ∀ H1, Ex H H1 → D.nx σ H1) : semS X (.If e body [] pos) D σ H :=
  to_s (ps_if pt_sem pb_sem pb_sem) (h H (Ex.refl H) _ fun c H1 e1 hc => by
    cases c with
    | true => exact h1 (hc rfl) H1 e1
    | false => exact s_nil (h2 H1 e1))
/-- an item of a dict of the top -/
theorem x_ixD {d : Addr} {z : Str} {v : V} (ha : XV X σ H a (.ref d)) (hb : XV X σ H b (.str z)) (hd : KDct X.K X.w d z v) (hs : PlainIx b := by exact fun _ _ => rfl) : XV X σ H (.Subscript a b pos) v := fun H1 e1 Q k =>
  to_e (pe_ix ix_kdict pe_sem pe_sem hs) (ha H1 e1 _ fun _ H2 e2 g2 => by
    cases g2
    exact hb H2 (e1.trans e2) _ fun _ H3 e3 g3 => by
      cases g3
      exact ⟨d, z, v, rfl, rfl, hd, k _ H3 (e2.trans e3) rfl⟩)
theorem c_niKd {d : Addr} {z : Str} {r : Option Value} {es : Array DictEntry} {n : Nat} (ha : XV X σ H a (.str z)) (hb : XV X σ H b (.ref d)) (D : KDict X.K X.w d es n) (e : PySem.W.nsIn X.K d z = some r) : XC X σ H .NotIn a b (.bl (!r.isSome)) :=
  c_opV (op_notIn_kd D) ha hb fun H1 _ Q q => ⟨z, r, rfl, rfl, e, q H1 (Ex.refl H1)⟩
end
def wordsOf : Kn → List Str
  | .only | .place | .pair => ["unlike"]
  | .count => ["count"]
  | .step => ["rising"]
  | .sum => ["sum"]
  | .square => ["nosquare"]
  | .reach => ["joined", "ring"]
  | .turn => ["ring"]
  | .clue | .ways => []
theorem words_in (κ : Kn) (h : κ.word ∉ (["clue", "ways"] : List Str)) : (κ.word, wordsOf κ) ∈ rulesOf := by
  cases κ <;> first | decide +kernel | exact absurd h (by decide +kernel)
theorem words_no (κ : Kn) (h : κ.word ∈ (["clue", "ways"] : List Str)) (k : Kd) : forP κ k := by
  cases κ <;> first | trivial | exact absurd h (by decide +kernel)
theorem for_yes (κ : Kn) (k : Kd) (h : k.word ∈ wordsOf κ) : forP κ k := by
  cases κ <;> cases k <;> first | rfl | trivial | exact .inl rfl | exact .inr rfl | exact absurd h (by decide +kernel)
section
variable {P : Program} {w : World} {K : PySem.W.Frag} {mg : Str → Option Value} {base : Heap}
def rIsFor (K : PySem.W.Frag) : Rl := fun vs H r => ∃ (x a : Addr) (F : Fl) (R : Ru) (κ : Kn), vs = [.ref x, .ref a] ∧ KnAt K H x κ ∧ RuAt K F H a R ∧ r = Yes (forP κ R.k)
theorem sc_isfor : FnScope ["kind", "rule"] ["kind", "rule"] (defScope (top 56)) := ⟨rfl, rfl, rfl, by decide +kernel, rfl, by decide +kernel, by decide +kernel⟩
theorem ok_isfor (T : Top w K mg base) : DF P w K mg base 2 "is_for" ["kind", "rule"] (rIsFor K) := by
  obtain ⟨f, fd, hm, F⟩ := T.defG "is_for" 56
  have S := sc_isfor
  refine ⟨f, fg_of F S (fun vs H r h => ?_) (fun _ _ _ _ _ _ us hl => match us, hl with | [_, _], _ => rfl) (fun cdv A outer s H E vs r hr h => ?_), hm, F.kp⟩
  · obtain ⟨_, _, _, _, _, rfl, _⟩ := h
    rfl
  · obtain ⟨x, a, F, R, κ, rfl, KA, RA, rfl⟩ := h
    obtain ⟨es, n, tab⟩ := T.told.tab
    by_cases hw : κ.word ∈ (["clue", "ways"] : List Str)
    · exact q_ret (Ex.refl H) (XG.yes (d := true) (XG.is (x_or2 (d := true) (x_c (c_niKd (x_word T hr (x_v 0) KA) (x_glob (T.glo "RULES_OF") rfl) tab (T.norow hw))) fun z => nomatch z) rfl) fun _ => words_no κ hw R.k)
    · obtain ⟨t, ht, hs⟩ := T.row (words_in κ hw) H
      refine q_ret (Ex.refl H) (XG.yes (x_or2 (x_c (c_niKd (x_word T hr (x_v 0) KA) (x_glob (T.glo "RULES_OF") rfl) tab ht)) fun _ => x_c (c_inL (x_name T hr (x_v 1) RA) (x_ixD (x_glob (T.glo "RULES_OF") rfl) (x_word T hr (x_v 0) KA) ⟨es, n, _, tab.at_, tab.lit, ht, rfl⟩) (.inr hs) rfl (flat_strs _))) fun hb => ?_)
      rw [inV_str] at hb
      refine for_yes κ R.k ?_
      simpa using hb
structure Good (D : PuD) (ms : List Int) (t : Th) : Prop where
  ok : ThOk D.F t
  st : standsF (vF ms t.c) t.s = true
  why : ∃ κ R, R ∈ D.rules ∧ fitsP κ D.F R t ∧ strikesP κ D.F D.clues ms R t
/-- None, or a thought that strikes -/
def Maybe (D : PuD) (ms : List Int) : Rt := .gen fun v H => v = .non ∨ ∃ (th m : Addr) (t : Th) (wd : Str), v = .ref th ∧ ThAt H th m wd t ∧ Good D ms t
def rThought (K : PySem.W.Frag) : Rl := fun vs H r => ∃ (p q x : Addr) (n : Nat) (c : Int) (D : PuD) (ms : List Int) (κ : Kn) (R : Ru), vs = [.ref p, .ref q, .ref x, .int n, .int c] ∧ PuAt K H p D ∧ MaAt D.F H q ms ∧ KnAt K H x κ ∧ D.rules[n]? = some R ∧ forP κ R.k ∧ 0 ≤ c ∧ c < D.F.h * D.F.w ∧ r = Maybe D ms
theorem sc_thoughtat : FnScope ["puzzle", "masks", "kind", "number", "cell", "rule", "sign", "more", "thought"] ["puzzle", "masks", "kind", "number", "cell"] (defScope (top 54)) := ⟨rfl, rfl, rfl, by decide +kernel, rfl, by decide +kernel, by decide +kernel⟩
theorem ok_thoughtat (T : Top w K mg base) : DF P w K mg base 8 "thought_at" ["puzzle", "masks", "kind", "number", "cell"] (rThought K) := by
  obtain ⟨f, fd, hm, F⟩ := T.defG "thought_at" 54
  have S := sc_thoughtat
  refine ⟨f, fg_of F S (fun vs H r h => ?_) (fun _ _ _ _ _ _ us hl => match us, hl with | [_, _, _, _, _], _ => rfl) (fun cdv A outer s H E vs r hr h => ?_), hm, F.kp⟩
  · obtain ⟨_, _, _, _, _, _, _, _, _, rfl, _⟩ := h
    rfl
  · obtain ⟨p, q, x, n, c, D, ms, κ, R, rfl, PA, MA, KA, hR, for_, c0, c1, rfl⟩ := h
    have fo := PA.1.fo
    have hn := (List.getElem?_eq_some_iff.mp hR).1
    have mi := ma_in MA ⟨c0, c1⟩
    refine q_setV 5 S.nd x_non fun H1 k1 => ?_
    refine s_cut (fun σ' H2 => ∃ a : Addr, σ' = [some (.ref p), some (.ref q), some (.ref x), some (.int n), some (.int c), some (.ref a), none, none, none] ∧ Ex H H2 ∧ RuAt K D.F H2 a R) (s_when (t_c (c_lt (x_v 3) (x_manyRules T hr (x_v 0) (PA.mono k1)))) (fun hb H2 k2 => ?_) (fun hb H2 k2 => ?_)) ?_
    · refine s_one (s_set 5 S.nd (x_ruleAt T hr (x_v 0) (x_v 3) (PA.mono (k1.trans k2)) hR) fun v H3 k3 gg => ?_)
      obtain ⟨a, rfl, RA⟩ := gg
      exact ⟨a, rfl, (k1.trans k2).trans k3, RA⟩
    · exact absurd (by omega) (of_decide_eq_false hb)
    · rintro σ' H2 ⟨a, rfl, K2, RA⟩
      refine s_seq (s_forN 6 S.nd (x_signs T hr (x_mask (MA.mono K2) (x_v 1) (x_v 4) ⟨c0, c1⟩) (ma_bits MA ⟨c0, c1⟩)) (fun l i σ' H' => (∃ x0 x1 x2, σ' = [some (.ref p), some (.ref q), some (.ref x), some (.int n), some (.int c), some (.ref a), x0, x1, x2]) ∧ Ex H2 H' ∧ H' l = some (.lst ((signsF (vF ms c)).map V.int)))
        (fun l H3 k3 nl hl => ⟨⟨none, none, none, rfl⟩, k3, hl⟩) (fun l i σ' H' _ z => SqL.of z.2.2) ?_ ?_)
      · rintro l i y σ' H3 hy ⟨⟨x0, x1, x2, rfl⟩, k3, hl⟩
        obtain ⟨sg, hsg, rfl⟩ := at_intsI hy
        have sm := List.mem_of_getElem? hsg
        obtain ⟨s1, s6⟩ := signs_in sm
        have sst : standsF (vF ms c) sg = true := (List.mem_filter.mp sm).2
        have bm := bits_of mi.1 mi.2
        have K3 := K2.trans k3
        refine s_one (s_forG 7 S.nd (x_mores T hr (x_v 2) (KA.mono K3) (x_v 0) (x_v 1) (x_v 5) (x_v 4) (x_v 6) (PA.mono K3) (MA.mono K3) (RA.mono k3) for_ c0 c1 s1 (by omega)) fun v H4 k4 gg => ?_)
        obtain ⟨ml, yss, rfl, ⟨ps, hml, hps⟩, _, hy2⟩ := gg
        refine ⟨ml, ps.map V.ref, fun j σ' H' => (∃ x1 x2, σ' = [some (.ref p), some (.ref q), some (.ref x), some (.int n), some (.int c), some (.ref a), some (.int sg), x1, x2]) ∧ Ex H4 H', rfl, SqL.of hml, ⟨⟨x1, x2, rfl⟩, Ex.refl H4⟩, fun j σ' H' z => SqL.of (z.2 ml _ hml), ?_, ?_⟩
        · rintro j y σ' H5 hy ⟨⟨x1, x2, rfl⟩, k5⟩
          obtain ⟨pp, hpi, rfl⟩ := at_refs hy
          obtain ⟨mo, hmo, hpp⟩ := paired_at hps hpi
          have mo2 := hy2 mo (List.mem_of_getElem? hmo)
          have K5 := (K3.trans k4).trans k5
          have hpp5 := k5 pp _ hpp
          refine q_set 8 S.nd (x_tupA (Pq := fun vs H' => ∃ m : Addr, vs = [.str κ.word, .int n, .int c, .int sg, .ref m] ∧ H' m = some (.lst (mo.map V.int))) (a_v (x_word T hr (x_v 2) (KA.mono K5)) (a_v (x_v 3) (a_v (x_v 4) (a_v (x_v 6) (a_cons (x_list (x_v 7) (.inl (SqL.of hpp5)) (T.free "list")) fun v H6 k6 gg => a_nil fun H7 k7 => ?_))))) ?_ ?_) fun v H6 k6 gg => ?_
          · obtain ⟨m, rfl, _, hm⟩ := gg
            exact ⟨m, rfl, k7 m _ hm⟩
          · rintro vs H1 H2 ⟨m, e1, e2⟩ e
            exact ⟨m, e1, e m _ e2⟩
          · rintro vs H1 ⟨m, e1, e2⟩
            rw [e1]
            simp
          · obtain ⟨th, vs, rfl, hth, m, rfl, hm⟩ := gg
            have K6 := K5.trans k6
            have TA : ThAt H6 th m κ.word ⟨n, c, sg, mo⟩ := ⟨hth, hm⟩
            have tok : ThOk D.F ⟨n, c, sg, mo⟩ := ⟨c0, c1, s1, by show sg ≤ 6; omega, mo2⟩
            refine s_one (s_whenG (t_andG (t_valG (x_fits T hr (x_v 2) (KA.mono K6) (x_v 0) (x_v 5) (x_v 8) (PA.mono K6) (RA.mono (((k3.trans k4).trans k5).trans k6)) TA tok)) fun fit => t_valG (x_strikes T hr (x_v 2) (KA.mono K6) (x_v 0) (x_v 1) (x_v 5) (x_v 8) (PA.mono K6) (MA.mono K6) (RA.mono (((k3.trans k4).trans k5).trans k6)) TA tok fit)) (fun hp H7 k7 => ?_) (fun H7 k7 => ⟨⟨_, _, rfl⟩, (k5.trans k6).trans k7⟩))
            refine s_one (r_ret (K6.trans k7) ((x_v (v := .ref th) 8).weak fun v H8 H9 e8 e9 g => ?_))
            cases g
            exact .inr ⟨th, m, _, κ.word, rfl, TA.mono ((k7.trans e8).trans e9), tok, sst, κ, R, List.mem_of_getElem? hR, hp.1, hp.2⟩
        · rintro σ' H5 ⟨⟨x1, x2, rfl⟩, k5⟩
          exact ⟨⟨_, _, _, rfl⟩, (k3.trans k4).trans k5, k5 l _ (k4 l _ hl)⟩
      · rintro l σ' H3 ⟨⟨x0, x1, x2, rfl⟩, k3, hl⟩
        exact s_one (r_ret (r := Maybe D ms) (K2.trans k3) (x_non.weak fun v H8 H9 e8 e9 g => .inl g))
end
end Ck

set_option maxRecDepth 100000
set_option maxHeartbeats 4000000
namespace Ck
open PySem PySem.Spec PyProof.Rows L2 Evl
section
variable {X : Cx} {σ : L2.St} {H : Hp} {e a b : Expr} {p p2 pos pos2 : Pos} {r : Rt}
theorem rg_cells {n : Int} : rgV 0 n = (cellsF n).map V.int := by
  unfold rgV cellsF
  rw [List.map_map, Int.sub_zero]
  exact List.map_congr_left fun i _ => by show V.int (0 + (i : Int)) = V.int (i : Int); rw [Int.zero_add]
/-- list(range(n)) -/
theorem x_listR {n : Int} (ha : XV X σ H e (.int n)) (hz : 0 ≤ n ∧ n ≤ 1000) (hm : X.mg "list" = none) (hm2 : X.mg "range" = none) (hg : Gl X "list" := by rfl) (hg2 : Gl X "range" := by rfl) (hc : X.calm = true := by rfl) (na0 : starEach [e] X.env = (false, eval e X.env) :: starEach [] X.env := by rfl)
    (na : starEach [.Call (.Name "range" p2) [e] [] pos2] X.env = (false, eval (.Call (.Name "range" p2) [e] [] pos2) X.env) :: starEach [] X.env := by rfl) :
    XG X σ H (.Call (.Name "list" p) [.Call (.Name "range" p2) [e] [] pos2] [] pos) (.lst ((cellsF n).map V.int)) := fun H1 e1 Q k =>
  to_e (pe_listRg hc hg hm (prg_1 hg2 hm2 pe_sem na0) na) (ha H1 e1 _ fun _ H2 e2 g => by
    cases g
    exact ⟨n, rfl, RgOk.of_le (by omega) (by omega) (by omega) (by omega), fun q hq => k _ _ (e2.trans (Ex.new hq)) ⟨q, rfl, fresh_back e2 hq, by rw [upd_same, rg_cells]⟩⟩)
/-- [x for n in iter if ..], the items kept as they are -/
theorem l_VG (j : Nat) {n : Str} {tp : Pos} {elt iter : Expr} {ifs : List Expr} {scope : Scope} (Pq : V → Hp → Prop) (mono : ∀ v H1 H2, Pq v H1 → Ex H1 H2 → Pq v H2) (hN : X.N.Nodup) (ok : BlkOk X.N X.env.scope scope [(n, j)]) (h : XG X σ H iter r)
    (k : ∀ v H1, Ex H H1 → r.go H v H1 → ∃ (q : Addr) (xs : List V) (pr : V → Bool), v = .ref q ∧ SqL X.K H1 q xs ∧ xs.length ≤ 1000 ∧ (∀ x ∈ xs, Pq x H1) ∧
      (∀ (s : Shared) (H0 : Hp) (cl : List (Str × Addr)) (C : Addr) (fp : List Addr) (x : V) (i : Nat) H2, xs[i]? = some x → Ex H1 H2 → XTs (Bk X s H0 scope cl C fp) ((σ.set j none).set j (some x)) H2 ifs (pr x)) ∧
      (∀ (s : Shared) (H0 : Hp) (cl : List (Str × Addr)) (C : Addr) (fp : List Addr) (x : V) (i : Nat) H2, xs[i]? = some x → pr x = true → Ex H1 H2 → XV (Bk X s H0 scope cl C fp) ((σ.set j none).set j (some x)) H2 elt x))
    (hc : X.calm = true := by rfl) (hs : ∀ x, foldedSetIterable iter X.env x = pure x := by intro _; rfl)
    (hj : X.N[j]? = some n := by rfl) (hx : (relS scope X.env.scope).names.lookup n = some .local := by rfl) :
    XLc X σ H j n tp elt iter ifs scope (.gen fun v H' => ∃ (l : Addr) (ys : List V), v = .ref l ∧ H' l = some (.lst ys) ∧ ys.length ≤ 1000 ∧ ∀ y ∈ ys, Pq y H') :=
  ⟨hN, ok, hj, hx, hs, hc, _, pi_list pe_sem, fun H1 e1 Q kk =>
    (h H1 e1 _ fun v H2 e2 g2 => by
      obtain ⟨q, xs, pr, rfl, hq, hz, hP, ht, he⟩ := k v H2 (e1.trans e2) (go_back e1 g2)
      refine ⟨q, rfl, ⟨xs, hq⟩, fun Dl hD => ?_⟩
      refine lc_list (K := X.K) (a := q) (xs := xs) (g := gName j) (vs := [j]) (σ := σ) (tt := cTs X scope ifs) (te := cE X scope elt) (Qd := fun H' => Q (.ref Dl) H') (Lw H2 Dl xs pr (fun x y _ => y = id x)) ⟨hD, Ex.new hD, [], upd_same, .nil⟩ (fun i H' _ w => ex_l w.2.1 hq) (fun i x H' hi w => ⟨wipe1, ?_⟩) fun H' w => ?_
      · have hil := (List.getElem?_eq_some_iff.mp hi).1
        exact lw_turn (σ2 := (σ.set j none).set j (some x)) (tt := cTs X scope ifs) (te := cE X scope elt) keeps_eq hi (by omega) w
          (fun H3 e3 Q q s H0 cl C fp => ht s H0 cl C fp x i H3 hi e3 H3 (Ex.refl H3) Q q) (fun hp H3 e3 hn Q q s H0 cl C fp => he s H0 cl C fp x i H3 hi hp e3 H3 (Ex.refl H3) Q fun y H4 e4 g => q y H4 e4 g)
      · obtain ⟨w1, w2, ys, w3, w4⟩ := w
        rw [List.take_length] at w4
        have ey : ys = (xs.filter pr).map id := paired_map w4
        rw [List.map_id] at ey
        refine kk _ H' (e2.trans w2) ⟨Dl, ys, rfl, w3, ?_, fun y hy => ?_⟩
        · rw [ey]
          exact Nat.le_trans (List.length_filter_le _ _) hz
        · rw [ey] at hy
          exact mono _ _ _ (hP y (List.mem_filter.mp hy).1) w2)⟩
end
end Ck

set_option maxRecDepth 100000
set_option maxHeartbeats 4000000
namespace Ck
open PySem PySem.Spec PyProof.Rows L2 Evl
/-! ### first_of, kinds, next_thought, think -/
section
variable {P : Program} {w : World} {K : PySem.W.Frag} {mg : Str → Option Value} {base : Heap}
def rFirst (K : PySem.W.Frag) : Rl := fun vs H r => ∃ (p q x l : Addr) (n : Nat) (cs : List Int) (D : PuD) (ms : List Int) (κ : Kn) (R : Ru), vs = [.ref p, .ref q, .ref x, .int n, .ref l] ∧ PuAt K H p D ∧ MaAt D.F H q ms ∧ KnAt K H x κ ∧ D.rules[n]? = some R ∧ forP κ R.k ∧ H l = some (.lst (cs.map V.int)) ∧ (∀ c ∈ cs, 0 ≤ c ∧ c < D.F.h * D.F.w) ∧ r = Maybe D ms
theorem sc_firstof : FnScope ["puzzle", "masks", "kind", "number", "cells", "cell", "found"] ["puzzle", "masks", "kind", "number", "cells"] (defScope (top 55)) := ⟨rfl, rfl, rfl, by decide +kernel, rfl, by decide +kernel, by decide +kernel⟩
theorem ok_firstof (T : Top w K mg base) : DF P w K mg base 9 "first_of" ["puzzle", "masks", "kind", "number", "cells"] (rFirst K) := by
  obtain ⟨f, fd, hm, F⟩ := T.defG "first_of" 55
  have S := sc_firstof
  refine ⟨f, fg_of F S (fun vs H r h => ?_) (fun _ _ _ _ _ _ us hl => match us, hl with | [_, _, _, _, _], _ => rfl) (fun cdv A outer s H E vs r hr h => ?_), hm, F.kp⟩
  · obtain ⟨_, _, _, _, _, _, _, _, _, _, rfl, _⟩ := h
    rfl
  · obtain ⟨p, q, x, l, n, cs, D, ms, κ, R, rfl, PA, MA, KA, hR, for_, hl, hin, rfl⟩ := h
    refine s_seq (s_forL 5 S.nd (x_v 4) (SqL.of hl) (fun i σ' H' => (∃ x0 x1, σ' = [some (.ref p), some (.ref q), some (.ref x), some (.int n), some (.ref l), x0, x1]) ∧ Ex H H')
      (fun H1 k1 => ⟨⟨none, none, rfl⟩, k1⟩) (fun i σ' H' _ z => SqL.of (z.2 l _ hl)) ?_ ?_)
    · rintro i y σ' H1 hy ⟨⟨x0, x1, rfl⟩, k1⟩
      obtain ⟨c, hc, rfl⟩ := at_intsI hy
      obtain ⟨c0, c1⟩ := hin c (List.mem_of_getElem? hc)
      refine q_set 6 S.nd (x_call (ok_thoughtat T) hr (e_cons (x_v 0) (e_cons (x_v 1) (e_cons (x_v 2) (e_cons (x_v 3) (e_1 (x_v 5)))))) fun H2 k2 => ⟨p, q, x, n, c, D, ms, κ, R, rfl, PA.mono (k1.trans k2), MA.mono (k1.trans k2), KA.mono (k1.trans k2), hR, for_, c0, c1, rfl⟩) fun v H2 k2 gg => ?_
      rcases gg with rfl | ⟨th, m, t, wd, rfl, TA, gd⟩
      · exact s_one (s_when (t_c (c_notN (x_v 6))) (fun hb H3 k3 => absurd hb (by simp)) (fun hb H3 k3 => ⟨⟨_, _, rfl⟩, (k1.trans k2).trans k3⟩))
      · refine s_one (s_when (t_c (c_notN (x_v 6))) (fun hb H3 k3 => ?_) (fun hb H3 k3 => ⟨⟨_, _, rfl⟩, (k1.trans k2).trans k3⟩))
        refine s_one (r_ret ((k1.trans k2).trans k3) ((x_v (v := .ref th) 6).weak fun v H8 H9 e8 e9 g => ?_))
        cases g
        exact .inr ⟨th, m, t, wd, rfl, TA.mono ((k3.trans e8).trans e9), gd⟩
    · rintro σ' H1 ⟨⟨x0, x1, rfl⟩, k1⟩
      exact s_one (r_ret (r := Maybe D ms) k1 (x_non.weak fun v H8 H9 e8 e9 g => .inl g))
def IsKn (K : PySem.W.Frag) (v : V) (H : Hp) : Prop := ∃ a κ, v = .ref a ∧ KnAt K H a κ
theorem IsKn.mono {v : V} {H H' : Hp} (h : IsKn K v H) (e : Ex H H') : IsKn K v H' := by
  obtain ⟨a, κ, r, h⟩ := h
  exact ⟨a, κ, r, h.mono e⟩
def AKn (K : PySem.W.Frag) (n : Nat) (vs : List V) (H : Hp) : Prop := vs.length = n ∧ ∀ v ∈ vs, IsKn K v H
theorem AKn.mono {n : Nat} {vs : List V} {H H' : Hp} (h : AKn K n vs H) (e : Ex H H') : AKn K n vs H' := ⟨h.1, fun v hv => (h.2 v hv).mono e⟩
theorem XA.imp {X : Cx} {σ : L2.St} {H : Hp} {es : List Expr} {P Q : List V → Hp → Prop} (h : XA X σ H es P) (k : ∀ vs H', P vs H' → Q vs H') : XA X σ H es Q := fun H1 e1 R q => h H1 e1 R fun vs H2 e2 g => q vs H2 e2 (k vs H2 g)
theorem a_kn {X : Cx} {σ : L2.St} {H : Hp} {es : List Expr} {n : Nat} {x : Str} {p pos : Pos} (κ : Kn) (T : Top X.w X.K X.mg X.base) (ha : ∀ H1, Ex H H1 → XA X σ H1 es (AKn X.K n)) (hκ : κ.cls = x := by rfl) (hk : x ∈ kindCs := by decide +kernel) (hgl : x ∈ globs := by decide +kernel) (hg : Gl X x := by rfl) (hd : (x == ("__debug__" : Str)) = false := by decide) (hs : starEach (.Call (.Name x p) [] [] pos :: es) X.env = (false, eval (.Call (.Name x p) [] [] pos) X.env) :: starEach es X.env := by rfl) : XA X σ H (.Call (.Name x p) [] [] pos :: es) (AKn X.K (n + 1)) := by
  obtain ⟨m, kp, i⟩ := T.mk0 hk
  refine a_cons (x_make00 m i kp (T.glo x hgl) hg hd) (fun v H1 e1 g => ?_) hs
  obtain ⟨a, dx, rfl, h1⟩ := g
  have KA : KnAt X.K H1 a κ := ⟨dx, by rw [hκ]; exact h1⟩
  exact fun H2 e2 R q => ha H1 e1 H2 e2 R fun vs H3 e3 g => q vs H3 e3 ⟨by rw [List.length_cons, g.1], fun v hv => by
    rcases List.mem_cons.mp hv with rfl | hv
    · exact ⟨a, κ, rfl, KA.mono (e2.trans e3)⟩
    · exact g.2 v hv⟩
theorem a_kn0 {X : Cx} {σ : L2.St} {H : Hp} : XA X σ H [] (AKn X.K 0) := a_nil fun _ _ => ⟨rfl, fun v hv => nomatch hv⟩
def Kns (K : PySem.W.Frag) : Rt := .gen fun v H => ∃ q vs, v = .ref q ∧ H q = some (.lst vs) ∧ vs.length ≤ 100 ∧ ∀ v ∈ vs, IsKn K v H
def rAllKinds (K : PySem.W.Frag) : Rl := fun vs H r => vs = [] ∧ r = Kns K
theorem sc_allkinds : FnScope ["lines"] [] (defScope (top 49)) := ⟨rfl, rfl, rfl, by decide +kernel, rfl, by decide +kernel, by decide +kernel⟩
theorem ok_allkinds (T : Top w K mg base) : DF P w K mg base 2 "all_kinds" [] (rAllKinds K) := by
  obtain ⟨f, fd, hm, F⟩ := T.defG "all_kinds" 49
  have S := sc_allkinds
  refine ⟨f, fg_of F S (fun vs H r h => ?_) (fun _ _ _ _ _ _ us hl => match us, hl with | [], _ => rfl) (fun cdv A outer s H E vs r hr h => ?_), hm, F.kp⟩
  · obtain ⟨rfl, _⟩ := h
    rfl
  · obtain ⟨rfl, rfl⟩ := h
    refine q_set 0 S.nd (x_lstA (Pq := AKn K 3) (a_kn .clue T fun _ _ => a_kn .only T fun _ _ => a_kn .place T fun _ _ => a_kn0) (fun vs H1 H2 g e => g.mono e) (fun vs H1 g => by rw [g.1]; decide)) fun v H1 k1 gg => ?_
    obtain ⟨q, vs, rfl, hq, gk⟩ := gg
    refine q_ret (r := Kns K) k1 ((x_catG (Pa := AKn K 3) (Pb := AKn K 8) (Pc := AKn K 11) ((x_v (v := .ref q) 0).weak fun v H8 H9 e8 e9 g => ?_) (x_lstA (Pq := AKn K 8) (a_kn .count T fun _ _ => a_kn .step T fun _ _ => a_kn .sum T fun _ _ => a_kn .square T fun _ _ => a_kn .reach T fun _ _ => a_kn .turn T fun _ _ => a_kn .pair T fun _ _ => a_kn .ways T fun _ _ => a_kn0) (fun vs H1 H2 g e => g.mono e) (fun vs H1 g => by rw [g.1]; decide)) (fun xs ys H1 g1 g2 => ⟨by rw [g1.1, g2.1]; decide, by rw [List.length_append, g1.1, g2.1], fun v hv => ?_⟩) (fun vs H1 H2 g e => g.mono e) (fun vs H1 H2 g e => g.mono e)).weak fun v H8 H9 e8 e9 g => ?_)
    · cases g
      exact ⟨q, vs, rfl, (e8.trans e9) q _ hq, gk.mono (e8.trans e9)⟩
    · rcases List.mem_append.mp hv with h | h
      · exact g1.2 v h
      · exact g2.2 v h
    · obtain ⟨q, vs, rfl, hq, g1, g2⟩ := g
      exact ⟨q, vs, rfl, hq, by rw [g1]; decide, g2⟩
open Classical in
noncomputable def kOf (K : PySem.W.Frag) (H : Hp) (x : V) : Kn := if h : ∃ κ a, x = .ref a ∧ KnAt K H a κ then Classical.choose h else .clue
open Classical in
theorem kOf_is {x : V} {H : Hp} (h : IsKn K x H) : ∃ a, x = .ref a ∧ KnAt K H a (kOf K H x) := by
  have h' : ∃ κ a, x = .ref a ∧ KnAt K H a κ := by
    obtain ⟨a, κ, e, g⟩ := h
    exact ⟨κ, a, e, g⟩
  unfold kOf
  rw [dif_pos h']
  exact Classical.choose_spec h'
def rKindsBy (K : PySem.W.Frag) : Rl := fun vs H r => ∃ (q : Addr) (ws : List Str), vs = [.ref q] ∧ H q = some (.lst (ws.map V.str)) ∧ r = .gen fun v H => ∃ q vs, v = .ref q ∧ H q = some (.lst vs) ∧ vs.length ≤ 1000 ∧ ∀ v ∈ vs, IsKn K v H
theorem sc_kindsby : FnScope ["words", "kind"] ["words"] (defScope (top 50)) := ⟨rfl, rfl, rfl, by decide +kernel, rfl, by decide +kernel, by decide +kernel⟩
theorem ok_kindsby (T : Top w K mg base) : DF P w K mg base 3 "kinds_by" ["words"] (rKindsBy K) := by
  obtain ⟨f, fd, hm, F⟩ := T.defG "kinds_by" 50
  have S := sc_kindsby
  refine ⟨f, fg_of F S (fun vs H r h => ?_) (fun _ _ _ _ _ _ us hl => match us, hl with | [_], _ => rfl) (fun cdv A outer s H E vs r hr h => ?_), hm, F.kp⟩
  · obtain ⟨_, _, rfl, _⟩ := h
    rfl
  · obtain ⟨q, ws, rfl, hq, rfl⟩ := h
    refine q_ret (Ex.refl H) (x_l (l_VG 1 (IsKn K) (fun v H1 H2 g e => g.mono e) S.nd (@blkOk_by ["words", "kind"] (defScope (top 50)) _ _ (by decide +kernel)) (x_call0 (ok_allkinds T) hr fun H1 k1 => ⟨rfl, rfl⟩) fun v H1 k1 gg => ?_))
    obtain ⟨l, vs, rfl, hl, hz, hk⟩ := gg
    refine ⟨l, vs, fun x => inV (.str (kOf K H1 x).word) (ws.map V.str), rfl, SqL.of hl, by omega, hk, fun s' H0 cl C fp x i H2 hi k => ?_, fun s' H0 cl C fp x i H2 hi hp k => x_v 1⟩
    obtain ⟨a, ea, ka⟩ := kOf_is (hk x (List.mem_of_getElem? hi))
    rw [ea] at ka ⊢
    exact ts_one (t_c (c_inL (x_word T hr (x_v 1) (ka.mono k)) (x_v 0) (.inl (SqL.of ((k1.trans k) q _ hq))) rfl (flat_strs _)))
end
end Ck

set_option maxRecDepth 100000
set_option maxHeartbeats 4000000
namespace Ck
open PySem PySem.Spec PyProof.Rows L2 Evl
theorem kn_word {κ : Kn} (h : κ.word = ("clue" : Str)) : κ = .clue := by
  cases κ <;> first | rfl | exact absurd h (by decide +kernel)
theorem in_cells {n c : Int} (h : c ∈ cellsF n) : 0 ≤ c ∧ c < n := by
  unfold cellsF at h
  obtain ⟨i, hi, rfl⟩ := List.mem_map.mp h
  have := List.mem_range.mp hi
  omega
section
variable {P : Program} {w : World} {K : PySem.W.Frag} {mg : Str → Option Value} {base : Heap}
def MayV (K : PySem.W.Frag) (D : PuD) (ms : List Int) (v : V) (H : Hp) : Prop := v = .non ∨ ∃ (th m : Addr) (t : Th) (wd : Str), v = .ref th ∧ ThAt H th m wd t ∧ Good D ms t
theorem MayV.mono {D : PuD} {ms : List Int} {v : V} {H H' : Hp} (h : MayV K D ms v H) (e : Ex H H') : MayV K D ms v H' := by
  rcases h with h | ⟨th, m, t, wd, a, b, c⟩
  · exact .inl h
  · exact .inr ⟨th, m, t, wd, a, b.mono e, c⟩
def rNext (K : PySem.W.Frag) : Rl := fun vs H r => ∃ (p q l : Addr) (ws : List Str) (D : PuD) (ms : List Int), vs = [.ref p, .ref q, .ref l] ∧ PuAt K H p D ∧ MaAt D.F H q ms ∧ H l = some (.lst (ws.map V.str)) ∧ 0 < D.rules.length ∧ r = Maybe D ms
theorem sc_nextthought : FnScope ["puzzle", "masks", "kinds", "kind", "found", "number", "rule"] ["puzzle", "masks", "kinds"] (defScope (top 57)) := ⟨rfl, rfl, rfl, by decide +kernel, rfl, by decide +kernel, by decide +kernel⟩
theorem ok_nextthought (T : Top w K mg base) : DF P w K mg base 10 "next_thought" ["puzzle", "masks", "kinds"] (rNext K) := by
  obtain ⟨f, fd, hm, F⟩ := T.defG "next_thought" 57
  have S := sc_nextthought
  refine ⟨f, fg_of F S (fun vs H r h => ?_) (fun _ _ _ _ _ _ us hl => match us, hl with | [_, _, _], _ => rfl) (fun cdv A outer s H E vs r hr h => ?_), hm, F.kp⟩
  · obtain ⟨_, _, _, _, _, _, rfl, _⟩ := h
    rfl
  · obtain ⟨p, q, l, ws, D, ms, rfl, PA, MA, hl, hr1, rfl⟩ := h
    have fo := PA.1.fo
    have nn := fo.nn
    have hw := fo.hw
    obtain ⟨R0, hR0⟩ : ∃ R0, D.rules[0]? = some R0 := ⟨_, List.getElem?_eq_getElem hr1⟩
    have rl := PA.1.rl
    refine q_when (t_val (x_call (ok_clash T) (hr.mono (by decide)) (e_1 (x_v 1)) fun H1 k1 => ⟨q, ms, rfl, k1 q _ MA.1, rfl⟩)) (fun hb H1 k1 => ?_) (fun hb H1 k1 => ?_)
    · exact s_one (r_ret (r := Maybe D ms) k1 (x_non.weak fun v H8 H9 e8 e9 g => .inl g))
    · refine s_seq (s_forG 3 S.nd (x_call (ok_kindsby T) (hr.mono (by decide)) (e_1 (x_v 2)) fun H2 k2 => ⟨l, ws, rfl, (k1.trans k2) l _ hl, rfl⟩) fun v H2 k2 gg => ?_)
      obtain ⟨kl, ks, rfl, hkl, _, hks⟩ := gg
      have K2 := k1.trans k2
      refine ⟨kl, ks, fun i σ' H' => (∃ x0 x1 x2 x3, σ' = [some (.ref p), some (.ref q), some (.ref l), x0, x1, x2, x3]) ∧ Ex H2 H', rfl, SqL.of hkl, ⟨⟨none, none, none, none, rfl⟩, Ex.refl H2⟩, fun i σ' H' z => SqL.of (z.2 kl _ hkl), ?_, ?_⟩
      · rintro i y σ' H3 hy ⟨⟨x0, x1, x2, x3, rfl⟩, k3⟩
        obtain ⟨x, κ, rfl, KA0⟩ := hks y (List.mem_of_getElem? hy)
        have KA := KA0.mono k3
        have K3 := K2.trans k3
        refine q_setV 4 S.nd x_non fun H4 k4 => ?_
        have K4 := K3.trans k4
        refine s_cut (fun σ' H5 => ∃ v x2 x3, σ' = [some (.ref p), some (.ref q), some (.ref l), some (.ref x), some v, x2, x3] ∧ Ex H4 H5 ∧ MayV K D ms v H5) (s_if (t_c (c_eqS (x_word T hr (x_v 3) (KA.mono k4)) (x_ixT (x_glob (T.glo "KINDS") rfl) x_int (T.kinds _) (v := .str "clue") rfl))) (fun hb H5 k5 => ?_) (fun hb H5 k5 => ?_)) ?_
        · have ek := kn_word (of_decide_eq_true hb)
          have K5 := K4.trans k5
          refine s_one (s_set 4 S.nd (x_callA (r := Maybe D ms) (ok_firstof T) hr (a_v (x_v 0) (a_v (x_v 1) (a_v (x_v 3) (a_v x_int (a_cons (x_listR (x_many T hr (x_v 0) (PA.mono K5)) (by omega) (T.free "list") (T.free "range")) fun v H6 k6 gg => a_nil fun H7 k7 => ?_)))))) fun v H6 k6 gg => ⟨v, x2, x3, rfl, k5.trans k6, gg⟩)
          obtain ⟨cl, rfl, _, hcl⟩ := gg
          have K7 := (K5.trans k6).trans k7
          exact ⟨_, ⟨p, q, x, cl, 0, _, D, ms, κ, R0, rfl, PA.mono K7, MA.mono K7, KA.mono (((k4.trans k5).trans k6).trans k7), hR0, by rw [ek]; trivial, k7 cl _ hcl, fun c hc => in_cells hc, rfl⟩, fun _ _ _ z => z⟩
        · refine s_one (s_forR 5 S.nd (x_manyRules T hr (x_v 0) (PA.mono (K4.trans k5))) (by omega) (T.free "range") (fun j σ' H6 => (∃ v x2 x3, σ' = [some (.ref p), some (.ref q), some (.ref l), some (.ref x), some v, x2, x3] ∧ MayV K D ms v H6) ∧ Ex H4 H6)
            (fun H6 k6 => ⟨⟨.non, x2, x3, rfl, .inl rfl⟩, k5.trans k6⟩) ?_ ?_)
          · rintro j σ' H6 hj ⟨⟨v, x2, x3, rfl, hv⟩, k6⟩
            rw [Int.toNat_natCast] at hj
            obtain ⟨R, hR⟩ : ∃ R, D.rules[j]? = some R := ⟨_, List.getElem?_eq_getElem hj⟩
            have K6 := K4.trans k6
            refine q_set 6 S.nd (x_ruleAt T hr (x_v 0) (x_v 5) (PA.mono K6) hR) fun v7 H7 k7 gg => ?_
            obtain ⟨a, rfl, RA⟩ := gg
            have K7 := K6.trans k7
            have KA7 := KA.mono ((k4.trans k6).trans k7)
            refine s_one (s_whenG (t_andG (XT.g (t_c (c_isN (x_v 4)))) fun _ => t_valG (x_call (ok_isfor T) (hr.mono (by decide)) (e_cons (x_v 3) (e_1 (x_v 6))) fun H8 k8 => ⟨x, a, D.F, R, κ, rfl, KA7.mono k8, RA.mono k8, rfl⟩)) (fun hp H8 k8 => ?_) (fun H8 k8 => ⟨⟨v, _, _, rfl, hv.mono (k7.trans k8)⟩, (k6.trans k7).trans k8⟩))
            have K8 := K7.trans k8
            refine s_one (s_set 4 S.nd (x_callA (r := Maybe D ms) (ok_firstof T) hr (a_v (x_v 0) (a_v (x_v 1) (a_v (x_v 3) (a_v (x_v 5) (a_cons (x_sort2 (x_spots T hr (x_v 6) (RA.mono k8)) (T.free "sorted")) fun v H9 k9 gg => a_nil fun H10 k10 => ?_)))))) fun v9 H9 k9 gg => ⟨⟨v9, _, _, rfl, gg⟩, ((k6.trans k7).trans k8).trans k9⟩)
            obtain ⟨cl, ns, rfl, hcl, hp2, _⟩ := gg
            have K10 := (K8.trans k9).trans k10
            exact ⟨_, ⟨p, q, x, cl, j, ns, D, ms, κ, R, rfl, PA.mono K10, MA.mono K10, KA7.mono ((k8.trans k9).trans k10), hR, hp.2, k10 cl _ hcl, fun c hc => RA.1.inn c (hp2.mem_iff.mp hc), rfl⟩, fun _ _ _ z => z⟩
          · rintro σ' H6 ⟨⟨v, x2, x3, rfl, hv⟩, k6⟩
            exact ⟨v, x2, x3, rfl, k6, hv⟩
        · rintro σ' H5 ⟨v, x2, x3, rfl, k5, hv⟩
          have K5 := K4.trans k5
          rcases id hv with rfl | ⟨th, m, t, wd, rfl, TA, gd⟩
          · exact s_one (s_when (t_c (c_notN (x_v 4))) (fun hb H6 k6 => absurd hb (by simp)) (fun hb H6 k6 => ⟨⟨_, _, _, _, rfl⟩, ((k3.trans k4).trans k5).trans k6⟩))
          · refine s_one (s_when (t_c (c_notN (x_v 4))) (fun hb H6 k6 => ?_) (fun hb H6 k6 => ⟨⟨_, _, _, _, rfl⟩, ((k3.trans k4).trans k5).trans k6⟩))
            refine s_one (r_ret (K5.trans k6) ((x_v (v := .ref th) 4).weak fun v H8 H9 e8 e9 g => ?_))
            cases g
            exact .inr ⟨th, m, t, wd, rfl, TA.mono ((k6.trans e8).trans e9), gd⟩
      · rintro σ' H3 ⟨⟨x0, x1, x2, x3, rfl⟩, k3⟩
        exact s_one (r_ret (r := Maybe D ms) (K2.trans k3) (x_non.weak fun v H8 H9 e8 e9 g => .inl g))
end
/-! ### think -/
/-- what thinking makes of masks -/
inductive Steps (D : PuD) (ms : List Int) : List Int → Prop
  | refl : Steps D ms ms
  | step {ms' : List Int} {t : Th} : Steps D ms ms' → Good D ms' t → Steps D ms (struckF ms' t.c.toNat t.s)
theorem struck_num : ∀ (m : Fin 64) (s : Fin 6), standsF (m.val : Int) ((s.val : Int) + 1) = true → 0 ≤ (m.val : Int) - bitF ((s.val : Int) + 1) ∧ (m.val : Int) - bitF ((s.val : Int) + 1) < m.val := by decide +kernel
theorem struck_of {m s : Int} (h0 : 0 ≤ m) (h1 : m < 64) (s1 : 1 ≤ s) (s6 : s ≤ 6) (h : standsF m s = true) : 0 ≤ m - bitF s ∧ m - bitF s < m := by
  have := struck_num ⟨m.toNat, by omega⟩ ⟨(s - 1).toNat, by omega⟩
  rw [show ((⟨m.toNat, by omega⟩ : Fin 64).val : Int) = m from Int.toNat_of_nonneg h0, show ((⟨(s - 1).toNat, by omega⟩ : Fin 6).val : Int) + 1 = s by show (((s - 1).toNat : Nat) : Int) + 1 = s; omega] at this
  exact this h
def sumN (ms : List Int) : Nat := (ms.map Int.toNat).sum
theorem sum_set : ∀ (ms : List Int) (c : Nat) (x : Int), c < ms.length → x.toNat < (ms.getD c 0).toNat → sumN (ms.set c x) < sumN ms
  | [], _, _, h, _ => by simp at h
  | m :: ms, 0, x, _, h => by
    have h : x.toNat < m.toNat := h
    show x.toNat + (ms.map Int.toNat).sum < m.toNat + (ms.map Int.toNat).sum
    omega
  | m :: ms, c + 1, x, hc, h => by
    have := sum_set ms c x (by simpa using hc) (by simpa using h)
    unfold sumN at this ⊢
    simp only [List.set_cons_succ, List.map_cons, List.sum_cons]
    omega
structure MaOk (F : Fl) (ms : List Int) : Prop where
  len : (ms.length : Int) = F.h * F.w
  lt : ∀ m ∈ ms, 0 ≤ m ∧ m < 64
theorem struck_ok {D : PuD} {ms : List Int} {t : Th} (M : MaOk D.F ms) (g : Good D ms t) : MaOk D.F (struckF ms t.c.toNat t.s) ∧ sumN (struckF ms t.c.toNat t.s) < sumN ms := by
  have c0 := g.ok.c0
  have c1 := g.ok.c1
  have hc : t.c.toNat < ms.length := by have := M.len; omega
  have mm := M.lt _ (vF_mem c0 (by rw [M.len]; exact c1))
  have so := struck_of mm.1 mm.2 g.ok.s1 g.ok.s6 g.st
  unfold struckF
  rw [show ms.getD t.c.toNat 0 = vF ms t.c from rfl, if_pos g.st]
  refine ⟨⟨by rw [List.length_set]; exact M.len, fun m hm => ?_⟩, sum_set ms _ _ hc ?_⟩
  · rcases List.mem_or_eq_of_mem_set hm with h | h
    · exact M.lt m h
    · omega
  · rw [show ms.getD t.c.toNat 0 = vF ms t.c from rfl]
    omega
section
variable {P : Program} {w : World} {K : PySem.W.Frag} {mg : Str → Option Value} {base : Heap}
def rThink (K : PySem.W.Frag) : Rl := fun vs H r => ∃ (p q l : Addr) (ws : List Str) (D : PuD) (ms : List Int), vs = [.ref p, .ref q, .ref l] ∧ PuAt K H p D ∧ MaAt D.F H q ms ∧ H l = some (.lst (ws.map V.str)) ∧ 0 < D.rules.length ∧ sumN ms ≤ 2000 ∧
  r = .gen fun v H' => ∃ (g l b : Addr) (ms' : List Int), v = .ref g ∧ H' g = some (.tup [.ref l, .ref b]) ∧ H' l = some (.lst (ms'.map V.int)) ∧ Steps D ms ms' ∧ MaOk D.F ms'
theorem sc_think : FnScope ["puzzle", "masks", "kinds", "left", "book", "thought"] ["puzzle", "masks", "kinds"] (defScope (top 58)) := ⟨rfl, rfl, rfl, by decide +kernel, rfl, by decide +kernel, by decide +kernel⟩
theorem ok_think (T : Top w K mg base) : DF P w K mg base 11 "think" ["puzzle", "masks", "kinds"] (rThink K) := by
  obtain ⟨f, fd, hm, F⟩ := T.defG "think" 58
  have S := sc_think
  refine ⟨f, fg_of F S (fun vs H r h => ?_) (fun _ _ _ _ _ _ us hl => match us, hl with | [_, _, _], _ => rfl) (fun cdv A outer s H E vs r hr h => ?_), hm, F.kp⟩
  · obtain ⟨_, _, _, _, _, _, rfl, _⟩ := h
    rfl
  · obtain ⟨p, q, l, ws, D, ms, rfl, PA, MA, hl, hr1, hsum, rfl⟩ := h
    have hw := PA.1.fo.hw
    refine q_set 3 S.nd (x_list (x_v 1) (.inl (SqL.of MA.1)) (T.free "list")) fun v H1 k1 gg => ?_
    obtain ⟨lf, rfl, _, hlf⟩ := gg
    refine q_set 4 S.nd (x_lst (vs := []) e_nil (by decide)) fun v H2 k2 gg => ?_
    obtain ⟨bk, rfl, nbk, hbk⟩ := gg
    have n0 : H bk = none := fresh_back k1 nbk
    refine s_seq (s_while (fun m σ' H' => ∃ (lf : Addr) (ms' : List Int) (bs : List V) (x : Option V), σ' = [some (.ref p), some (.ref q), some (.ref l), some (.ref lf), some (.ref bk), x] ∧ Ex H H' ∧ H' lf = some (.lst (ms'.map V.int)) ∧ lf ≠ bk ∧ H' bk = some (.lst bs) ∧ Steps D ms ms' ∧ MaOk D.F ms' ∧ sumN ms' = m ∧ bs.length + m ≤ 2000)
      (sumN ms) ⟨lf, ms, [], none, rfl, k1.trans k2, k2 lf _ hlf, fun z => (by rw [z] at hlf; rw [hlf] at nbk; cases nbk), hbk, .refl, ⟨MA.2.1, MA.2.2⟩, rfl, by simpa using hsum⟩ ?_)
    rintro m σ' H3 ⟨lf, ms', bs, x, rfl, K3, hlf, lne, hbk, St, Mo, hm, hbl⟩
    have MA3 : MaAt D.F H3 lf ms' := ⟨hlf, Mo.len, Mo.lt⟩
    refine ⟨_, t_not (t_val (x_call (ok_clash T) (hr.mono (by decide)) (e_1 (x_v 3)) fun H4 k4 => ⟨lf, ms', rfl, k4 lf _ hlf, rfl⟩)), fun hb H4 k4 => ?_, fun hb H4 k4 => ?_⟩
    · have K4 := K3.trans k4
      refine ⟨fun σ' H' => ∃ m', m' < m ∧ ∃ (lf : Addr) (ms' : List Int) (bs : List V) (x : Option V), σ' = [some (.ref p), some (.ref q), some (.ref l), some (.ref lf), some (.ref bk), x] ∧ Ex H H' ∧ H' lf = some (.lst (ms'.map V.int)) ∧ lf ≠ bk ∧ H' bk = some (.lst bs) ∧ Steps D ms ms' ∧ MaOk D.F ms' ∧ sumN ms' = m' ∧ bs.length + m' ≤ 2000, fun σ2 H2 z => z, ?_⟩
      refine q_set 5 S.nd (x_call (ok_nextthought T) hr (e_cons (x_v 0) (e_cons (x_v 3) (e_1 (x_v 2)))) fun H5 k5 => ⟨p, lf, l, ws, D, ms', rfl, PA.mono (K4.trans k5), MA3.mono (k4.trans k5), (K4.trans k5) l _ hl, hr1, rfl⟩) fun v H5 k5 gg => ?_
      have K5 := K4.trans k5
      rcases gg with rfl | ⟨th, mm, t, wd, rfl, TA, gd⟩
      · refine q_when (t_c (c_isN (x_v 5))) (fun hb H6 k6 => ?_) (fun hb H6 k6 => absurd hb (by simp))
        refine s_one (s_brk ?_)
        refine s_one (r_ret (K5.trans k6) ((x_tup (vs := [.ref lf, .ref bk]) (e_cons (x_v 3) (e_1 (x_v 4))) (by simp)).weak fun v H8 H9 e8 e9 g => ?_))
        obtain ⟨g, rfl, _, hg⟩ := g
        exact ⟨g, lf, bk, ms', rfl, hg, ((((k4.trans k5).trans k6).trans e8).trans e9) lf _ hlf, St, Mo⟩
      · refine q_when (t_c (c_isN (x_v 5))) (fun hb H6 k6 => absurd hb (by simp)) (fun hb H6 k6 => ?_)
        have K6 := K5.trans k6
        have TA6 := TA.mono k6
        have so := struck_ok Mo gd
        have hc : t.c.toNat < ms'.length := by have := Mo.len; have := gd.ok.c0; have := gd.ok.c1; omega
        have hlf6 := ((k4.trans k5).trans k6) lf _ hlf
        refine q_set 3 S.nd (x_call (ok_struck T) (hr.mono (by decide)) (e_cons (x_v 3) (e_cons (v := .int (t.c.toNat : Nat)) (XG.is (x_ixT (v := .int t.c) (x_v 5) x_int (SqT.of TA6.1) rfl) (by rw [Int.toNat_of_nonneg gd.ok.c0])) (e_1 (x_ixT (v := .int t.s) (x_v 5) x_int (SqT.of TA6.1) rfl)))) fun H7 k7 => ⟨lf, ms', t.c.toNat, t.s, rfl, k7 lf _ hlf6, hc, by have := Mo.len; omega, gd.ok.s1, by have := gd.ok.s6; omega, rfl⟩) fun v H7 k7 gg => ?_
        obtain ⟨lf2, rfl, nlf2, hlf2⟩ := gg
        have hbk7 := (((k4.trans k5).trans k6).trans k7) bk _ hbk
        have hbk6 := ((k4.trans k5).trans k6) bk _ hbk
        have ne2 : lf2 ≠ bk := fun z => by rw [z, hbk6] at nlf2; cases nlf2
        refine s_one (s_app (xs := bs) hbk7 (x_v 4) (x_v (v := .ref th) 5) (by omega) fun v H8 k8 g => ?_)
        cases g
        refine ⟨_, by rw [← hm]; exact so.2, lf2, _, _, _, rfl, Ex.mut ((K6.trans k7).trans k8) n0, by rw [upd_ne ne2]; exact k8 lf2 _ hlf2, ne2, upd_same, .step St gd, so.1, rfl, ?_⟩
        have := so.2
        rw [List.length_append]
        simp
        omega
    · refine s_one (r_ret (K3.trans k4) ((x_tup (vs := [.ref lf, .ref bk]) (e_cons (x_v 3) (e_1 (x_v 4))) (by simp)).weak fun v H8 H9 e8 e9 g => ?_))
      obtain ⟨g, rfl, _, hg⟩ := g
      exact ⟨g, lf, bk, ms', rfl, hg, ((k4.trans e8).trans e9) lf _ hlf, St, Mo⟩
end
end Ck

set_option maxRecDepth 100000
set_option maxHeartbeats 4000000
namespace Ck
open PySem PySem.Spec PyProof.Rows L2 Evl
/-! ### texts -/
section
variable {X : Cx} {σ : L2.St} {H : Hp} {D : Ends} {e a b o : Expr} {es : List Expr} {p p2 pos apos : Pos} {r : Rt} {body : List Stmt}
theorem x_lenS {z : Str} (ha : XV X σ H e (.str z)) (hz : z.length ≤ 100000) (hm : X.mg "len" = none) (hg : Gl X "len" := by rfl) (he : starEach [e] X.env = (false, eval e X.env) :: starEach [] X.env := by rfl) (hpl : (backTo pos (starEach [] X.env)).any (·.1) = false := by rfl) :
    XV X σ H (.Call (.Name "len" p) [e] [] pos) (.int (z.length : Nat)) :=
  x_cbA call_len_str hm (by decide +kernel) (a_v ha (a_nil fun H1 e1 Q k => ⟨z, rfl, sz_of hz, k _ H1 (Ex.refl H1) rfl⟩) he) hg (by decide) (by decide) he hpl
theorem x_ixS {z : Str} {i : Int} {c : Nat} (ha : XV X σ H a (.str z)) (hb : XV X σ H b (.int i)) (hz : z.length ≤ 100000) (hi : atI z.cps.toList i = some c) (hs : PlainIx b := by exact fun _ _ => rfl) : XV X σ H (.Subscript a b pos) (.str ⟨#[c]⟩) := fun H1 e1 Q k =>
  to_e (pe_ix ix_str pe_sem pe_sem hs) (ha H1 e1 _ fun _ H2 e2 g2 => by
    cases g2
    exact hb H2 (e1.trans e2) _ fun _ H3 e3 g3 => by
      cases g3
      exact ⟨z, i, c, rfl, rfl, sz_of hz, hi, k _ H3 (e2.trans e3) rfl⟩)
theorem c_niSign {c : Nat} {z : Str} (ha : XV X σ H a (.str ⟨#[c]⟩)) (hb : XV X σ H b (.str z)) : XC X σ H .NotIn a b (.bl (!decide (c ∈ z.cps.toList))) := c_opV op_notIn_sign ha hb fun H1 _ Q q => ⟨c, z, rfl, rfl, q H1 (Ex.refl H1)⟩
theorem x_intS {z : Str} {n : Int} (ha : XV X σ H e (.str z)) (hn : PySem.intText? z = some n) (hz : z.length ≤ 640) (hm : X.mg "int" = none) (hg : Gl X "int" := by rfl) (he : starEach [e] X.env = (false, eval e X.env) :: starEach [] X.env := by rfl) (hpl : (backTo pos (starEach [] X.env)).any (·.1) = false := by rfl) :
    XV X σ H (.Call (.Name "int" p) [e] [] pos) (.int n) :=
  x_ctA call_int_str hm (by decide +kernel) (a_v ha (a_nil fun H1 e1 Q k => ⟨z, n, rfl, hn, hz, k _ H1 (Ex.refl H1) rfl⟩) he) hg (by decide) (by decide) he hpl
theorem x_strI {i : Int} (ha : XV X σ H e (.int i)) (hn : i.natAbs.log2 < 1920) (hm : X.mg "str" = none) (hg : Gl X "str" := by rfl) (he : starEach [e] X.env = (false, eval e X.env) :: starEach [] X.env := by rfl) (hpl : (backTo pos (starEach [] X.env)).any (·.1) = false := by rfl) :
    XV X σ H (.Call (.Name "str" p) [e] [] pos) (.str (toString i)) :=
  x_ctA call_str_int hm (by decide +kernel) (a_v ha (a_nil fun H1 e1 Q k => ⟨i, rfl, hn, k _ H1 (Ex.refl H1) rfl⟩) he) hg (by decide) (by decide) he hpl
theorem x_split {x y : Str} (ho : XV X σ H o (.str x)) (he : XV X σ H e (.str y)) (hy : (y.length == 0) = false) (hz : x.length + 2 ≤ 100000) (hs : starEach [e] X.env = [(false, eval e X.env)] := by rfl) (hbase : attributeBase o "split" X.env (eval o X.env) = eval o X.env := by rfl) (hline : (apos.endLine == pos.line) = true := by rfl) :
    XG X σ H (.Call (.Attribute o "split" apos) [e] [] pos) (.lst ((Txt.split x y).map V.str)) := fun H1 e1 Q k =>
  to_e (pe_split pe_sem pe_sem hs hbase hline) (ho H1 e1 _ fun _ H2 e2 g2 => by
    cases g2
    exact ⟨⟨x, rfl⟩, he H2 (e1.trans e2) _ fun _ H3 e3 g3 => by
      cases g3
      exact ⟨x, y, rfl, rfl, hy, sz_of hz, fun q hq => k _ _ ((e2.trans e3).trans (Ex.new hq)) ⟨q, rfl, fresh_back (e2.trans e3) hq, upd_same⟩⟩⟩)
theorem x_join {x : Str} {ys : List Str} (ho : XV X σ H o (.str x)) (he : XG X σ H e r) (hr : ∀ v H1, Ex H H1 → r.go H v H1 → ∃ l, v = .ref l ∧ SqL X.K H1 l (ys.map V.str)) (hz : (ys.map (·.length)).sum + ys.length * x.length ≤ 16777216) (hs : starEach [e] X.env = [(false, eval e X.env)] := by rfl) (hbase : attributeBase o "join" X.env (eval o X.env) = eval o X.env := by rfl) (hline : (apos.endLine == pos.line) = true := by rfl) :
    XV X σ H (.Call (.Attribute o "join" apos) [e] [] pos) (.str (Txt.join x ys)) := fun H1 e1 Q k =>
  to_e (pe_join pe_sem pe_sem hs hbase hline) (ho H1 e1 _ fun _ H2 e2 g2 => by
    cases g2
    exact ⟨⟨x, rfl⟩, he H2 (e1.trans e2) _ fun v H3 e3 g3 => by
      obtain ⟨l, rfl, hl⟩ := hr v H3 ((e1.trans e2).trans e3) (go_back (e1.trans e2) g3)
      exact ⟨x, l, ys, rfl, rfl, .inl hl, hz, k _ H3 (e2.trans e3) rfl⟩⟩)
theorem x_addS {x y : Str} (ha : XV X σ H a (.str x)) (hb : XV X σ H b (.str y)) (hz : x.length + y.length ≤ 100000) : XV X σ H (.BinOp a .Add b pos) (.str (x ++ y)) := x_op op_add_str ha hb fun H1 _ Q q => ⟨x, y, rfl, rfl, by exact sz_of hz, q _ H1 (Ex.refl H1) rfl⟩
/-- a built-in class's name -/
theorem x_ty {n : Str} (t : String) (hm : X.mg n = none) (hg : Gl X n) (hv : bootBuiltins n = some (.type t)) (hn : n ≠ "__name__" := by decide) (hd : (n == ("__debug__" : Str)) = false := by decide) : XV X σ H (.Name n pos) (.ty t) := fun H1 _ Q q => to_e (pe_bltn (v := .ty t) hg hm hv rfl hn hd) (q _ H1 (Ex.refl H1) rfl)
/-- isinstance(text, str) -/
theorem x_isStr {z : Str} (ha : XV X σ H e (.str z)) (hm : X.mg "isinstance" = none) (hm2 : X.mg "str" = none) (hg : Gl X "isinstance" := by rfl) (hg2 : Gl X "str" := by rfl) (he : starEach [e, .Name "str" p2] X.env = (false, eval e X.env) :: starEach [.Name "str" p2] X.env := by rfl) (he2 : starEach [.Name "str" p2] X.env = (false, eval (.Name "str" p2) X.env) :: starEach [] X.env := by rfl) (hpl : (backTo pos (starEach [.Name "str" p2] X.env)).any (·.1) = false := by rfl) :
    XV X σ H (.Call (.Name "isinstance" p) [e, .Name "str" p2] [] pos) (.bl true) :=
  x_cbA call_isi hm (by decide +kernel) (a_v ha (a_v (x_ty "str" hm2 hg2 (by decide +kernel)) (a_nil fun H1 e1 Q k => ⟨.str z, .ty "str", .type "str", .type "str", true, rfl, .ty "str", .base (.str z), kit_ty (by decide +kernel), k _ H1 (Ex.refl H1) rfl⟩) he2) he) hg (by decide) (by decide) he hpl
/-- isinstance(list, list) -/
theorem x_isList {q : Addr} {xs : List V} (ha : XV X σ H e (.ref q)) (hq : H q = some (.lst xs)) (hm : X.mg "isinstance" = none) (hm2 : X.mg "list" = none) (hg : Gl X "isinstance" := by rfl) (hg2 : Gl X "list" := by rfl) (he : starEach [e, .Name "list" p2] X.env = (false, eval e X.env) :: starEach [.Name "list" p2] X.env := by rfl) (he2 : starEach [.Name "list" p2] X.env = (false, eval (.Name "list" p2) X.env) :: starEach [] X.env := by rfl) (hpl : (backTo pos (starEach [.Name "list" p2] X.env)).any (·.1) = false := by rfl) :
    XV X σ H (.Call (.Name "isinstance" p) [e, .Name "list" p2] [] pos) (.bl true) :=
  x_cbA call_isi hm (by decide +kernel) (a_cons ha (fun v H1 e1 g => a_v (x_ty "list" hm2 hg2 (by decide +kernel)) (a_nil fun H2 e2 Q k => by
    cases g
    exact ⟨.ref q, .ty "list", .type "list", .type "list", true, rfl, .ty "list", .base (.lst ((e1.trans e2) q _ hq)), kit_ty (by decide +kernel), k _ H2 (Ex.refl H2) rfl⟩) he2) he) hg (by decide) (by decide) he hpl
/-- for x in a text -/
theorem s_forS {z : Str} (j : Nat) {n : Str} {tp : Pos} (hN : X.N.Nodup) (h : XV X σ H e (.str z)) (Pv : Nat → L2.St → Hp → Prop) (h0 : ∀ H1, Ex H H1 → Pv 0 σ H1)
    (hs : ∀ i c σ' H', z.cps[i]? = some c → Pv i σ' H' → semB X body { D with nx := Pv (i + 1), ct := Pv (i + 1), bk := D.nx } (σ'.set j (some (.str ⟨#[c]⟩))) H') (hd : ∀ σ' H', Pv z.cps.size σ' H' → D.nx σ' H') (hp : PassesOwn (model X.prog X.w) X.A X.env X.xe := by exact PassesOwn.never) (hc : X.calm = true := by rfl)
    (hj : X.N[j]? = some n := by rfl) (hxl : Loc X.env.scope n := by first | exact Or.inl rfl | exact Or.inr rfl) (hf : X.fn n = true ∨ X.env.scope.names.lookup n = some .local := by first | exact .inl rfl | exact .inr rfl) (hfo : ∀ x, foldedSetIterable e X.env x = pure x := by intro _; rfl) :
    semS X (.For (.Name n tp) e body [] pos) D σ H :=
  to_s (ps_for hp hc (pi_str pe_sem) (pg_name hN hj hxl hf) pb_sem hfo) (h H (Ex.refl H) _ fun _ H1 e1 g1 => by
    cases g1
    exact ⟨z, rfl, for_it walk_str Pv (h0 H1 e1) (fun _ _ _ _ _ => trivial) (fun i x σ' H2 H3 hi q y => by
      obtain ⟨rfl, c, hc, rfl⟩ := y
      exact hs i c σ' H3 hc q) hd⟩)
end
/-! ### making -/
section
variable {X : Cx} {σ : L2.St} {H : Hp} {D : Ends} {e o : Expr} {es : List Expr} {p pos pos' : Pos} {r : Rt}
/-- o.f = e -/
theorem s_fld {x C dx : Addr} {f : Str} {fs : List (Str × V)} (hx : H x = some (.ins C dx fs)) (c : Cls X.K C) (n : NoAttr X.K C f) (hz : fs.length < 1000) (h : XG X σ H e r) (ho : XV X σ H o (.ref x)) (k : ∀ v H1 H2, Ex H H1 → r.go H v H1 → Ex H1 H2 → D.nx σ (upd H2 x (.ins C dx (putF f v fs))))
    (hs : swapsWith e (some (.Attribute o f pos')) pos.line X.env = pure false := by rfl) : semS X (.Assign [.Attribute o f pos'] e pos) D σ H :=
  to_s (ps_fld pe_sem pe_sem hs) (h H (Ex.refl H) _ fun v H1 e1 g1 => ho H1 e1 _ fun _ H2 e2 g2 => by
    cases g2
    exact ⟨x, C, dx, fs, rfl, (e1.trans e2) x _ hx, c, n, hz, k v H1 H2 e1 g1 e2⟩)
/-- what an __init__ makes of x, told over the heap ahead of the making -/
abbrev IRl := List V → Hp → (Addr → Hp → Prop) → Prop
def spI (C : Addr) (IR : IRl) : Sp := fun vs H Q _ => ∃ (x dx : Addr) (args : List V) (H0 : Hp) (Po : Addr → Hp → Prop), vs = .ref x :: args ∧ H x = some (.ins C dx []) ∧ H0 x = none ∧ Ex H0 H ∧ IR args H0 Po ∧ ∀ H', Ex H0 H' → Po x H' → Q .non H'
/-- the class at C can be made, by an __init__ that does as IR tells -/
def IF (P : Program) (w : World) (K : PySem.W.Frag) (mg : Str → Option Value) (base : Heap) (k : Nat) (C : Addr) (ps : List Str) (IR : IRl) : Prop := ∃ f fd, Mk K C f ∧ FnOk P w K mg base CX0 k f fd ps (spI C IR) ∧ Binds K fd ps []
theorem x_mkA {n : Str} {C : Addr} {k : Nat} {ps : List Str} {IR : IRl} (F : IF X.prog X.w X.K X.mg X.base k C ps IR) (hr : Room (k + 1) X.A) (hm : X.mg n = some (.ref C)) (ha : XA X σ H (e :: es) fun vs H1 => ∃ Po, IR vs H1 Po ∧ ∀ x H2, Ex H1 H2 → Po x H2 → r.go H1 (.ref x) H2)
    (hg : Gl X n := by rfl) (hd : (n == ("__debug__" : Str)) = false := by decide) (he : starEach (e :: es) X.env = (false, eval e X.env) :: starEach es X.env := by rfl) (hpl : (backTo pos (starEach es X.env)).any (·.1) = false := by rfl) : XG X σ H (.Call (.Name n p) (e :: es) [] pos) r := by
  obtain ⟨f, fd, M, F, b⟩ := F
  exact fun H1 e1 Q q => to_e (pe_make (dvs := []) M F hr hg hm b .nil pass0 pa_sem hd he hpl) (ha H1 e1 _ fun vs H2 e2 g x dx hx hdx ne => by
    obtain ⟨Po, h1, h2⟩ := g
    have n0 : (upd H2 dx (.own x)) x = none := by rw [upd_ne (Ne.symm ne)]; exact hx
    exact ⟨x, dx, vs ++ [], H2, Po, rfl, upd_same, hx, (Ex.new hdx).trans (Ex.new n0), by rw [List.append_nil]; exact h1, fun H' e' hp => ⟨rfl, q _ H' (e2.trans e') (go_back e2 (h2 x H' e' hp))⟩⟩)
end
section
variable {P : Program} {w : World} {K : PySem.W.Frag} {mg : Str → Option Value} {base : Heap}
def endsI (H0 : Hp) (x : Addr) (Po : Addr → Hp → Prop) : Ends := { nx := fun _ H' => Ex H0 H' ∧ Po x H', rt := fun _ _ => False }
theorem if_of {x qual : Str} {params : Arguments} {body : List Stmt} {scope : Scope} {C f : Addr} {fd : FuncData} {N ps : List Str} {k : Nat} {IR : IRl} (M : Mk K C f) (F : FunD K x qual params body scope [] [] f fd) (S : FnScope N ps scope) (len : ∀ vs H Po, IR vs H Po → vs.length + 1 = ps.length)
    (hb : ∀ (kV doc pm : Value) (an : Option Addr) (cdv ct : Value) (us : List Value), us.length = ps.length → bindArgs (PySem.W.fnOf x qual params body scope .none kV doc pm an cdv ct) ⟨us, []⟩ = pure (ps.zip us))
    (run : ∀ (cdv : Value) (A : Around) (outer : List Env) (s : Shared) (H : Hp) (E : XK) (x dx : Addr) (args : List V) (H0 : Hp) (Po : Addr → Hp → Prop), Room k (A.deeper (envOfC qual scope s.heap.objs.size f cdv)) → H x = some (.ins C dx []) → H0 x = none → Ex H0 H → IR args H0 Po →
      semB (Bd P w K mg base N qual scope f cdv A outer s H E) body (endsI H0 x Po) (start N (.ref x :: args)) H) : IF P w K mg base (k + 1) C ps IR := by
  refine ⟨f, fd, M, F.ok S (fun vs H Q E h => ?_) (fun cdv A outer s H vs Q E hr h => ?_), F.bindsN hb⟩
  · obtain ⟨x, dx, args, H0, Po, rfl, _, _, _, h, _⟩ := h
    exact len _ _ _ h
  · obtain ⟨x, dx, args, H0, Po, rfl, h1, h2, h3, h4, h5⟩ := h
    exact ⟨_, PSs.nox pb_sem, sem_mono (run cdv A outer s H E x dx args H0 Po hr h1 h2 h3 h4) (fun _ H' q => h5 H' q.1 q.2) (fun v H' q => q.elim) (fun _ _ q => q) (fun _ _ q => q)⟩
end
end Ck

set_option maxRecDepth 100000
set_option maxHeartbeats 4000000
namespace Ck
open PySem PySem.Spec PyProof.Rows L2 Evl
/-! ### reading rows of words, making rules and puzzles -/
def figS (n : Int) : Str := Str.ofString (toString n)
theorem fig_tl {n : Nat} : TL.tl (figS (n : Int)) = TL.numL n := TL.tl_num n
theorem fig_len {n : Nat} (h : n < 100) : 1 ≤ (figS (n : Int)).length ∧ (figS (n : Int)).length ≤ 2 := by
  rw [TL.len_tl, fig_tl]
  refine ⟨?_, TL.numL_len (k := 2) (by decide) (by omega)⟩
  have := TL.numL_ne n
  cases e : TL.numL n with
  | nil => exact absurd e this
  | cons a l => simp
theorem fig_head : ∀ n : Fin 100, (decide ((TL.numL n.val).headD 0 = 48) && decide (1 < (TL.numL n.val).length)) = false := by decide +kernel
theorem fig_dig {n : Nat} {c : Nat} (h : c ∈ TL.numL n) : c ∈ TL.tl ("0123456789" : Str) := by
  have hd := TL.numL_digits n
  have : 48 ≤ c ∧ c ≤ 57 := by
    refine ⟨?_, ?_⟩
    · by_cases hh : c < 48
      · exact absurd h (TL.numL_free (.inl hh))
      · omega
    · by_cases hh : 57 < c
      · exact absurd h (TL.numL_free (.inr hh))
      · omega
  have e : TL.tl ("0123456789" : Str) = [48, 49, 50, 51, 52, 53, 54, 55, 56, 57] := by decide +kernel
  rw [e]
  have : c = 48 ∨ c = 49 ∨ c = 50 ∨ c = 51 ∨ c = 52 ∨ c = 53 ∨ c = 54 ∨ c = 55 ∨ c = 56 ∨ c = 57 := by omega
  rcases this with h | h | h | h | h | h | h | h | h | h <;> rw [h] <;> decide
section
variable {P : Program} {w : World} {K : PySem.W.Frag} {mg : Str → Option Value} {base : Heap}
def rNumber : Rl := fun vs H r => ∃ n : Nat, n < 100 ∧ vs = [.str (figS (n : Int))] ∧ r = .val (.int (n : Int))
theorem sc_numberof : FnScope ["word", "sign"] ["word"] (defScope (top 76)) := ⟨rfl, rfl, rfl, by decide +kernel, rfl, by decide +kernel, by decide +kernel⟩
theorem ok_numberof (T : Top w K mg base) : DF P w K mg base 1 "number_of" ["word"] rNumber := by
  obtain ⟨f, fd, hm, F⟩ := T.defG "number_of" 76
  have S := sc_numberof
  refine ⟨f, fg_of F S (fun vs H r h => ?_) (fun _ _ _ _ _ _ us hl => match us, hl with | [_], _ => rfl) (fun cdv A outer s H E vs r hr h => ?_), hm, F.kp⟩
  · obtain ⟨_, _, rfl, _⟩ := h
    rfl
  · obtain ⟨n, hn, rfl, rfl⟩ := h
    obtain ⟨l1, l2⟩ := fig_len hn
    obtain ⟨c, cs, hc⟩ : ∃ c cs, TL.numL n = c :: cs := by
      cases e : TL.numL n with
      | nil => exact absurd e (TL.numL_ne n)
      | cons a l => exact ⟨a, l, rfl⟩
    obtain ⟨tf, hf⟩ := T.figs
    have hh := fig_head ⟨n, hn⟩
    have ecps : (figS (n : Int)).cps.toList = c :: cs := by
      have := fig_tl (n := n)
      rw [hc] at this
      exact this
    refine q_when (t_or (t_not (t_chainLe x_int (x_lenS (x_v 0) (by omega) (T.free "len")) (T.gint rfl "LONGEST" 2))) fun _ => t_and (t_c (c_eqS (x_ixS (c := c) (x_v 0) x_int (by omega) (by rw [ecps]; exact at0)) x_str)) fun _ => t_c (c_gt (x_lenS (x_v 0) (by omega) (T.free "len")) x_int)) (fun hb H1 k1 => ?_) (fun hb H1 k1 => ?_)
    · exfalso
      simp only [Bool.or_eq_true, Bool.not_eq_true', Bool.and_eq_true, Bool.and_eq_false_iff, decide_eq_true_eq, decide_eq_false_iff_not] at hb
      rcases hb with hb | ⟨h1, h2⟩
      · omega
      · have e48 : c = 48 := by
          have := congrArg (fun s : Str => s.cps.toList) h1
          have e : (("0" : Str)).cps.toList = [48] := by decide +kernel
          simp only [e] at this
          simpa using this
        rw [TL.len_tl, fig_tl] at h2
        rw [hc] at h2
        have hh : (decide ((TL.numL n).headD 0 = 48) && decide (1 < (TL.numL n).length)) = false := hh
        rw [hc, e48] at hh
        rw [e48] at h2
        cases cs with
        | nil => simp at h2
        | cons a l => simp at hh
    · refine s_seq (s_forS 1 S.nd (x_v 0) (fun i σ' H' => (∃ x, σ' = [some (.str (figS (n : Int))), x]) ∧ Ex H H') (fun H2 k2 => ⟨⟨none, rfl⟩, k1.trans k2⟩) ?_ ?_)
      · rintro i c σ' H2 hi ⟨⟨x, rfl⟩, k2⟩
        have hm : c ∈ TL.numL n := by
          rw [← fig_tl]
          have : (TL.tl (figS (n : Int)))[i]? = some c := by rw [show TL.tl (figS (n : Int)) = (figS (n : Int)).cps.toList from rfl, Array.getElem?_toList]; exact hi
          exact List.mem_of_getElem? this
        refine s_one (s_when (t_c (c_niSign (x_v 1) (x_glob hf ⟨tf, rfl⟩))) (fun hb H3 k3 => ?_) (fun hb H3 k3 => ⟨⟨_, rfl⟩, k2.trans k3⟩))
        rw [show decide (c ∈ (("0123456789" : Str)).cps.toList) = true from decide_eq_true (fig_dig hm)] at hb
        cases hb
      · rintro σ' H2 ⟨⟨x, rfl⟩, k2⟩
        exact s_one (r_ret k2 (x_intS (z := figS (n : Int)) (x_v 0) (TL.int_num (by rw [← fig_tl, ← TL.len_tl]; omega)) (by omega) (T.free "int")))
def rSignTold : Rl := fun vs H r => ∃ (g l : Addr) (F : Fl) (ns : List Int) (i : Nat), vs = [.ref g, .ref l, .int i] ∧ FlAt H g F ∧ H l = some (.lst (ns.map V.int)) ∧ i < ns.length ∧ 1 ≤ ns.getD i 0 ∧ ns.getD i 0 ≤ F.s ∧ r = .val (.int (ns.getD i 0))
theorem sc_signtold : FnScope ["floor", "numbers", "at"] ["floor", "numbers", "at"] (defScope (top 77)) := ⟨rfl, rfl, rfl, by decide +kernel, rfl, by decide +kernel, by decide +kernel⟩
theorem ok_signtold (T : Top w K mg base) : DF P w K mg base 1 "sign_told" ["floor", "numbers", "at"] rSignTold := by
  obtain ⟨f, fd, hm, F⟩ := T.defG "sign_told" 77
  have S := sc_signtold
  refine ⟨f, fg_of F S (fun vs H r h => ?_) (fun _ _ _ _ _ _ us hl => match us, hl with | [_, _, _], _ => rfl) (fun cdv A outer s H E vs r hr h => ?_), hm, F.kp⟩
  · obtain ⟨_, _, _, _, _, rfl, _⟩ := h
    rfl
  · obtain ⟨g, l, F, ns, i, rfl, hg, hl, hi, h1, h2, rfl⟩ := h
    refine q_when (t_or (t_c (c_ge (x_v 2) (x_len (x_v 1) (.inl (SqL.of hl)) (T.free "len")))) fun _ => t_not (t_chainLe x_int (x_ixL (x_v 1) (x_v 2) (SqL.of hl) (at_ints hi)) (x_ixT (x_v 0) x_int (SqT.of hg) at_fl.2.2))) (fun hb H1 k1 => ?_) (fun hb H1 k1 => ?_)
    · exfalso
      simp only [Bool.or_eq_true, Bool.not_eq_true', Bool.and_eq_false_iff, decide_eq_true_eq, decide_eq_false_iff_not, List.length_map] at hb
      omega
    · exact q_ret k1 (x_ixL (x_v 1) (x_v 2) (SqL.of (k1 l _ hl)) (at_ints hi))
def CellsOk (F : Fl) (ns : List Int) : Prop := ns ≠ [] ∧ ns.Nodup ∧ ∀ c ∈ ns, 0 ≤ c ∧ c < F.h * F.w
def rCellsTold : Rl := fun vs H r => ∃ (g l : Addr) (F : Fl) (ns : List Int), vs = [.ref g, .ref l] ∧ FlAt H g F ∧ FlOk F ∧ H l = some (.lst (ns.map V.int)) ∧ ns.length ≤ 100 ∧ CellsOk F ns ∧ r = .val (.ref l)
theorem c_geMax {X : Cx} {σ : L2.St} {H : Hp} {a b : Expr} {Pm : Int → Prop} {j : Int} (ha : XG X σ H a (.gen fun v _ => ∃ m, v = .int m ∧ Pm m)) (hb : XV X σ H b (.int j)) (hp : ∀ m, Pm m → m < j) : XC X σ H .GtE a b (.bl false) :=
  c_op op_ge ha (fun v H1 e1 g => hb.mono e1) fun v H1 e1 g H2 e2 Q q => by
    obtain ⟨m, rfl, hm⟩ := g
    refine ⟨m, j, rfl, rfl, ?_⟩
    have := hp m hm
    show Q (.bl (decide (j ≤ m))) H2
    rw [decide_eq_false (by omega)]
    exact q H2 (Ex.refl H2)
theorem sc_cellstold : FnScope ["floor", "numbers"] ["floor", "numbers"] (defScope (top 78)) := ⟨rfl, rfl, rfl, by decide +kernel, rfl, by decide +kernel, by decide +kernel⟩
theorem ok_cellstold (T : Top w K mg base) : DF P w K mg base 2 "cells_told" ["floor", "numbers"] rCellsTold := by
  obtain ⟨f, fd, hm, F⟩ := T.defG "cells_told" 78
  have S := sc_cellstold
  refine ⟨f, fg_of F S (fun vs H r h => ?_) (fun _ _ _ _ _ _ us hl => match us, hl with | [_, _], _ => rfl) (fun cdv A outer s H E vs r hr h => ?_), hm, F.kp⟩
  · obtain ⟨_, _, _, _, rfl, _⟩ := h
    rfl
  · obtain ⟨g, l, F, ns, rfl, hg, fo, hl, hz, ⟨h1, h2, h3⟩, rfl⟩ := h
    have hne : 0 < ns.length := by
      cases ns with
      | nil => exact absurd rfl h1
      | cons a l => simp
    refine q_when (t_w (w_or (t_c (c_eqNil hr.units (x_v 1) hl (x_lst e_nil (by decide)))) fun _ => w_or (t_c (c_neI (x_lenSet (ns := ns) (x_v 1) (hrL hl) (by omega) (T.free "len") (T.free "set")) (x_len (x_v 1) (.inl (SqL.of hl)) (T.free "len")))) fun _ => w_or1 (t_c (c_geMax (x_max (ns := ns) (x_v 1) (hrL hl) hne (T.free "max")) (x_call (ok_many T) hr (e_1 (x_v 0)) fun H1 k1 => ⟨g, F, rfl, k1 g _ hg, fo, rfl⟩) fun m hm => (h3 m hm.1).2)))) (fun hb H1 k1 => ?_) (fun hb H1 k1 => ?_)
    · exfalso
      rw [(unlikes_eq ns).mpr h2, List.length_map] at hb
      simp at hb
      exact h1 hb
    · exact q_ret k1 (x_v 1)
end
end Ck

set_option maxRecDepth 100000
set_option maxHeartbeats 4000000
namespace Ck
open PySem PySem.Spec PyProof.Rows L2 Evl
def IsInts (ns : List Int) : Rt := .gen fun v H => ∃ l : Addr, v = .ref l ∧ H l = some (.lst (ns.map V.int))
def IsRule (K : PySem.W.Frag) (F : Fl) (R : Ru) : Rt := .gen fun v H' => ∃ p, v = .ref p ∧ RuAt K F H' p R
section
variable {P : Program} {w : World} {K : PySem.W.Frag} {mg : Str → Option Value} {base : Heap}
def irRule (K : PySem.W.Frag) (k : Kd) : IRl := fun args H0 Po => ∃ (g c : Addr) (n s : Int) (cs : List Int), args = [.ref g, .ref c, .int n, .int s] ∧ H0 c = some (.lst (cs.map V.int)) ∧ Po = fun x H' => ∃ dx l, H' x = some (.ins (ga K k.cls) dx (ruFs g l n s)) ∧ H' l = some (.lst (cs.map V.int))
theorem put1 {g : V} : putF "ground" g [] = [(("ground" : Str), g)] := rfl
theorem put2 {g c : V} : putF "cells" c [(("ground" : Str), g)] = [(("ground" : Str), g), (("cells" : Str), c)] := rfl
theorem put3 {g c n : V} : putF "wanted" n [(("ground" : Str), g), (("cells" : Str), c)] = [(("ground" : Str), g), (("cells" : Str), c), (("wanted" : Str), n)] := rfl
theorem put4 {g c n s : V} : putF "of_sign" s [(("ground" : Str), g), (("cells" : Str), c), (("wanted" : Str), n)] = [(("ground" : Str), g), (("cells" : Str), c), (("wanted" : Str), n), (("of_sign" : Str), s)] := rfl
theorem ok_mkRule (T : Top w K mg base) (k : Kd) : IF P w K mg base 1 (ga K k.cls) ["self", "ground", "cells", "wanted", "of_sign"] (irRule K k) := by
  obtain ⟨f, fd, M, F⟩ := T.mkr k.cls "Rule.__init__" 62 0 (by cases k <;> decide +kernel) (by cases k <;> decide +kernel)
  have S : FnScope ["self", "ground", "cells", "wanted", "of_sign"] ["self", "ground", "cells", "wanted", "of_sign"] (defScope (mth 62 0)) := ⟨rfl, rfl, rfl, by decide +kernel, rfl, by decide +kernel, by decide +kernel⟩
  refine if_of M F S (fun vs H Po h => ?_) (fun _ _ _ _ _ _ us hl => match us, hl with | [_, _, _, _, _], _ => rfl) (fun cdv A outer s H E x dx args H0 Po hr hx n0 e0 h => ?_)
  · obtain ⟨_, _, _, _, _, rfl, _⟩ := h
    rfl
  · obtain ⟨g, c, n, sg, cs, rfl, hc, rfl⟩ := h
    have cl := T.rcls k
    have na : ∀ f : Str, (k.cls, f) ∈ noats → NoAttr K (ga K k.cls) f := fun f h => T.noat k.cls f h
    have xc : x ≠ c := fun z => by rw [z, hc] at n0; cases n0
    refine s_seq (s_fld hx cl (na _ (by cases k <;> decide +kernel)) (by simp) (x_v (v := .ref g) 1) (x_v 0) fun v H1 H2 k1 g1 k2 => ?_)
    cases g1
    rw [put1]
    have e2 := Ex.mut (o := .ins (ga K k.cls) dx [("ground", .ref g)]) ((e0.trans k1).trans k2) n0
    refine s_seq (s_fld (x := x) (C := ga K k.cls) (dx := dx) upd_same cl (na _ (by cases k <;> decide +kernel)) (by simp) (x_list (x_v 2) (.inl (SqL.of (e2 c _ hc))) (T.free "list")) (x_v 0) fun v H3 H4 k3 g3 k4 => ?_)
    obtain ⟨l, rfl, nl, hl⟩ := g3
    rw [put2]
    have xl : l ≠ x := fun z => by rw [z, upd_same] at nl; cases nl
    have e4 := Ex.mut (o := .ins (ga K k.cls) dx [("ground", .ref g), ("cells", .ref l)]) ((e2.trans k3).trans k4) n0
    refine s_seq (s_fld (x := x) (C := ga K k.cls) (dx := dx) upd_same cl (na _ (by cases k <;> decide +kernel)) (by simp) (x_v (v := .int n) 3) (x_v 0) fun v H5 H6 k5 g5 k6 => ?_)
    cases g5
    rw [put3]
    have e6 := Ex.mut (o := .ins (ga K k.cls) dx [("ground", .ref g), ("cells", .ref l), ("wanted", .int n)]) ((e4.trans k5).trans k6) n0
    have hl6 : (upd H6 x (.ins (ga K k.cls) dx [("ground", .ref g), ("cells", .ref l), ("wanted", .int n)])) l = some (.lst (cs.map V.int)) := by
      rw [upd_ne xl]
      exact k6 l _ (k5 l _ (by rw [upd_ne xl]; exact k4 l _ hl))
    refine s_one (s_fld (x := x) (C := ga K k.cls) (dx := dx) upd_same cl (na _ (by cases k <;> decide +kernel)) (by simp) (x_v (v := .int sg) 4) (x_v 0) fun v H7 H8 k7 g7 k8 => ?_)
    cases g7
    rw [put4]
    exact ⟨Ex.mut ((e6.trans k7).trans k8) n0, dx, l, upd_same, by rw [upd_ne xl]; exact k8 l _ (k7 l _ hl6)⟩
end
section
variable {X : Cx} {σ : L2.St} {H : Hp} {a b c d e : Expr} {p pos : Pos} {k : Nat} {g : Addr} {F : Fl}
theorem x_mkRule {x : Str} {cs : List Int} {n s : Int} (kd : Kd) (T : Top X.w X.K X.mg X.base) (hr : Room k X.A) (ha : XV X σ H a (.ref g)) (hb : XG X σ H b (IsInts cs)) (hc : XV X σ H c (.int n)) (hd : XV X σ H d (.int s)) (hg : FlAt H g F) (ok : RuOk F ⟨kd, cs, n, s⟩) (hk : 2 ≤ k := by decide) (hx : kd.cls = x := by rfl) (hgl : x ∈ globs := by decide +kernel) (hgx : Gl X x := by rfl) (hdb : (x == ("__debug__" : Str)) = false := by decide)
    (he : starEach [a, b, c, d] X.env = (false, eval a X.env) :: starEach [b, c, d] X.env := by rfl) (he2 : starEach [b, c, d] X.env = (false, eval b X.env) :: starEach [c, d] X.env := by rfl) (he3 : starEach [c, d] X.env = (false, eval c X.env) :: starEach [d] X.env := by rfl) (he4 : starEach [d] X.env = (false, eval d X.env) :: starEach [] X.env := by rfl) (hpl : (backTo pos (starEach [b, c, d] X.env)).any (·.1) = false := by rfl) :
    XG X σ H (.Call (.Name x p) [a, b, c, d] [] pos) (IsRule X.K F ⟨kd, cs, n, s⟩) := by
  subst hx
  exact x_mkA (ok_mkRule T kd) (hr.mono hk) (T.glo kd.cls hgl) (a_v ha (a_cons hb (fun v H1 e1 gb => a_v (hc.mono e1) (a_v (hd.mono e1) (a_nil fun H2 e2 => by
    obtain ⟨l, rfl, hl⟩ := gb
    refine ⟨_, ⟨g, l, n, s, cs, rfl, e2 l _ hl, rfl⟩, fun y H3 e3 hp => ?_⟩
    obtain ⟨dx, l2, h1, h2⟩ := hp
    exact ⟨y, rfl, ok, dx, g, l2, h1, ((e1.trans e2).trans e3) g _ hg, h2⟩) he4) he3) he2) he) hgx hdb he hpl
theorem x_cellsTold {cs : List Int} (T : Top X.w X.K X.mg X.base) (hr : Room k X.A) (ha : XV X σ H a (.ref g)) (hb : XG X σ H b (IsInts cs)) (hg : FlAt H g F) (fo : FlOk F) (hz : cs.length ≤ 100) (ok : CellsOk F cs) (hk : 2 ≤ k := by decide) (hgx : Gl X "cells_told" := by rfl)
    (he : starEach [a, b] X.env = (false, eval a X.env) :: starEach [b] X.env := by rfl) (he2 : starEach [b] X.env = (false, eval b X.env) :: starEach [] X.env := by rfl) (hpl : (backTo pos (starEach [b] X.env)).any (·.1) = false := by rfl) :
    XG X σ H (.Call (.Name "cells_told" p) [a, b] [] pos) (IsInts cs) :=
  x_callA (ok_cellstold T) (hr.mono hk) (a_v ha (a_cons hb (fun v H1 e1 gb => a_nil fun H2 e2 => by
    obtain ⟨l, rfl, hl⟩ := gb
    exact ⟨_, ⟨g, l, F, cs, rfl, (e1.trans e2) g _ hg, fo, e2 l _ hl, hz, ok, rfl⟩, fun v H3 e3 z => by
      cases z
      exact ⟨l, rfl, (e2.trans e3) l _ hl⟩⟩) he2) he) hgx (by decide) he hpl
end
section
variable {P : Program} {w : World} {K : PySem.W.Frag} {mg : Str → Option Value} {base : Heap}
theorem whole_ok {F : Fl} (fo : FlOk F) {k : Kd} {s : Int} (h1 : 1 ≤ s) (h2 : s ≤ F.s) : RuOk F ⟨k, cellsF (F.h * F.w), 0, s⟩ where
  nd := by
    unfold cellsF
    exact List.Pairwise.map _ (fun a b (h : a ≠ b) => show (a : Int) ≠ (b : Int) by omega) List.nodup_range
  inn := fun c hc => in_cells hc
  n0 := ⟨Int.le_refl 0, by show (0 : Int) ≤ 1000; decide⟩
  s0 := ⟨by show 0 ≤ s; omega, h2⟩
  s1 := fun _ => h1
  all := fun _ => rfl
def rWhole (K : PySem.W.Frag) : Rl := fun vs H r => ∃ (g l : Addr) (F : Fl) (k : Kd) (s : Int), vs = [.ref g, .str k.word, .ref l] ∧ FlAt H g F ∧ FlOk F ∧ (k = .joined ∨ k = .nosquare ∨ k = .ring) ∧ H l = some (.lst ([s].map V.int)) ∧ 1 ≤ s ∧ s ≤ F.s ∧ r = IsRule K F ⟨k, cellsF (F.h * F.w), 0, s⟩
theorem sc_wholerule : FnScope ["floor", "word", "numbers", "sign", "cells"] ["floor", "word", "numbers"] (defScope (top 79)) := ⟨rfl, rfl, rfl, by decide +kernel, rfl, by decide +kernel, by decide +kernel⟩
theorem ok_wholerule (T : Top w K mg base) : DF P w K mg base 3 "whole_rule" ["floor", "word", "numbers"] (rWhole K) := by
  obtain ⟨f, fd, hm, F⟩ := T.defG "whole_rule" 79
  have S := sc_wholerule
  refine ⟨f, fg_of F S (fun vs H r h => ?_) (fun _ _ _ _ _ _ us hl => match us, hl with | [_, _, _], _ => rfl) (fun cdv A outer s H E vs r hr h => ?_), hm, F.kp⟩
  · obtain ⟨_, _, _, _, _, rfl, _⟩ := h
    rfl
  · obtain ⟨g, l, F, kd, sg, rfl, hg, fo, hk, hl, h1, h2, rfl⟩ := h
    have nn := fo.nn
    have hw := fo.hw
    refine q_when (t_c (c_neI (x_len (x_v 2) (.inl (SqL.of hl)) (T.free "len")) x_int)) (fun hb H1 k1 => absurd hb (by simp)) (fun hb H1 k1 => ?_)
    refine q_setV 3 S.nd (x_call (r := .val (.int sg)) (ok_signtold T) (hr.mono (by decide)) (e_cons (x_v 0) (e_cons (x_v 2) (e_1 x_int))) fun H2 k2 => ⟨g, l, F, [sg], 0, rfl, (k1.trans k2) g _ hg, (k1.trans k2) l _ hl, by simp, h1, h2, rfl⟩) fun H2 k2 => ?_
    have K2 := k1.trans k2
    refine q_set 4 S.nd (x_listR (x_call (ok_many T) (hr.mono (by decide)) (e_1 (x_v 0)) fun H3 k3 => ⟨g, F, rfl, (K2.trans k3) g _ hg, fo, rfl⟩) (by omega) (T.free "list") (T.free "range")) fun v H3 k3 gg => ?_
    obtain ⟨c, rfl, _, hc⟩ := gg
    have K3 := K2.trans k3
    refine q_when (t_c (c_eqS (x_v 1) x_str)) (fun hb H4 k4 => ?_) (fun hb H4 k4 => ?_)
    · obtain rfl := word_yes (j := .joined) (of_decide_eq_true hb)
      exact s_one (r_ret (K3.trans k4) (x_mkRule .joined T hr (x_v 0) (XG.ofV (x_v 4) (k4 c _ hc)) x_int (x_v 3) ((K3.trans k4) g _ hg) (whole_ok fo h1 h2)))
    · refine q_when (t_c (c_eqS (x_v 1) x_str)) (fun hb2 H5 k5 => ?_) (fun hb2 H5 k5 => ?_)
      · obtain rfl := word_yes (j := .nosquare) (of_decide_eq_true hb2)
        exact s_one (r_ret ((K3.trans k4).trans k5) (x_mkRule .nosquare T hr (x_v 0) (XG.ofV (x_v 4) ((k4.trans k5) c _ hc)) x_int (x_v 3) (((K3.trans k4).trans k5) g _ hg) (whole_ok fo h1 h2)))
      · obtain rfl : kd = .ring := by
          rcases hk with rfl | rfl | rfl
          · exact absurd rfl (of_decide_eq_false hb)
          · exact absurd rfl (of_decide_eq_false hb2)
          · rfl
        exact q_ret ((K3.trans k4).trans k5) (x_mkRule .ring T hr (x_v 0) (XG.ofV (x_v 4) ((k4.trans k5) c _ hc)) x_int (x_v 3) (((K3.trans k4).trans k5) g _ hg) (whole_ok fo h1 h2))
end
end Ck

set_option maxRecDepth 100000
set_option maxHeartbeats 4000000
namespace Ck
open PySem PySem.Spec PyProof.Rows L2 Evl
/-! ### a rule's row of words, read -/
def rowN (R : Ru) : List Int := match R.k with
  | .joined | .nosquare | .ring => [R.s]
  | .unlike | .rising => R.cells
  | .count => R.n :: R.s :: R.cells
  | .sum | .seen => R.n :: R.cells
def rowW (R : Ru) : List Str := R.k.word :: (rowN R).map figS
def lineOf (R : Ru) : Str := Txt.join " " (rowW R)
structure RowOk (F : Fl) (R : Ru) : Prop where
  ok : RuOk F R
  ne : R.cells ≠ []
  lt : ∀ n ∈ rowN R, 0 ≤ n ∧ n < 100
  z : match R.k with
    | .joined | .nosquare | .ring => R.n = 0
    | .unlike | .rising => R.n = 0 ∧ R.s = 0
    | .sum | .seen => R.s = 0
    | .count => True
theorem joinL_len (S : List Nat) (hS : S.length ≤ 1) : ∀ ps : List (List Nat), (TL.joinL S ps).length ≤ (ps.map List.length).sum + ps.length := fun ps => by
  induction ps with
  | nil => show (0 : Nat) ≤ _; omega
  | cons p ps ih =>
    cases ps with
    | nil => show p.length ≤ _; simp
    | cons q qs =>
      show (p ++ (S ++ TL.joinL S (q :: qs))).length ≤ _
      simp only [List.length_append, List.map_cons, List.sum_cons, List.length_cons] at ih ⊢
      omega
theorem sp_tl : TL.tl (" " : Str) = 32 :: [] := by decide +kernel
theorem words_free (k : Kd) : 32 ∉ TL.tl k.word := by cases k <;> decide +kernel
theorem words_len (k : Kd) : k.word.length ≤ 8 := by cases k <;> decide +kernel
theorem fig_nat {n : Int} (h : 0 ≤ n) : figS n = figS ((n.toNat : Nat) : Int) := by rw [Int.toNat_of_nonneg h]
theorem fig_free {n : Int} (h : 0 ≤ n) : 32 ∉ TL.tl (figS n) := by
  rw [fig_nat h, fig_tl]
  exact TL.numL_free (.inl (by decide))
theorem rowN_len {F : Fl} (fo : FlOk F) {R : Ru} (o : RuOk F R) : (rowN R).length ≤ 18 := by
  have := o.len fo
  unfold rowN
  cases R.k <;> simp <;> omega
theorem line_split {F : Fl} {R : Ru} (h : RowOk F R) : Txt.split (lineOf R) " " = rowW R := by
  unfold lineOf
  refine TL.split_join sp_tl (by decide +kernel) (by unfold rowW; exact List.cons_ne_nil _ _) fun p hp => ?_
  unfold rowW at hp
  rcases List.mem_cons.mp hp with rfl | hp
  · exact words_free R.k
  · obtain ⟨n, hn, rfl⟩ := List.mem_map.mp hp
    exact fig_free (h.lt n hn).1
theorem sum_le {l : List Nat} {b : Nat} (h : ∀ x ∈ l, x ≤ b) : l.sum ≤ l.length * b := by
  induction l with
  | nil => simp
  | cons a l ih =>
    have h1 := h a List.mem_cons_self
    have h2 := ih fun x hx => h x (List.mem_cons_of_mem _ hx)
    rw [List.sum_cons, List.length_cons, Nat.add_mul]
    omega
theorem line_len {F : Fl} (fo : FlOk F) {R : Ru} (h : RowOk F R) : (lineOf R).length ≤ 500 := by
  have l1 := rowN_len fo h.ok
  unfold lineOf
  rw [TL.join_eq, TL.len_tl, TL.tl_join, sp_tl]
  refine Nat.le_trans (joinL_len [32] (by decide) _) ?_
  have b : (((rowW R).map TL.tl).map List.length).sum ≤ ((rowW R).map TL.tl).length * 8 := by
    have := sum_le (l := ((rowW R).map TL.tl).map List.length) (b := 8) fun x hx => ?_
    · rwa [List.length_map] at this
    · obtain ⟨y, hy, rfl⟩ := List.mem_map.mp hx
      obtain ⟨z, hz, rfl⟩ := List.mem_map.mp hy
      rw [← TL.len_tl]
      unfold rowW at hz
      rcases List.mem_cons.mp hz with rfl | hz
      · exact words_len R.k
      · obtain ⟨n, hn, rfl⟩ := List.mem_map.mp hz
        obtain ⟨n0, n1⟩ := h.lt n hn
        rw [fig_nat n0]
        have := (fig_len (n := n.toNat) (by omega)).2
        omega
  have l2 : ((rowW R).map TL.tl).length ≤ 19 := by unfold rowW; simp; omega
  omega
def numV : V → V
  | .str z => match PySem.intText? z with
    | some n => .int n
    | none => .non
  | _ => .non
theorem num_fig {n : Int} (h0 : 0 ≤ n) (h1 : n < 100) : numV (.str (figS n)) = .int n := by
  have e := TL.int_num (n := n.toNat) (by have := (fig_len (n := n.toNat) (by omega)).2; rw [TL.len_tl, fig_tl] at this; omega)
  rw [Int.toNat_of_nonneg h0] at e
  show (match PySem.intText? (figS n) with | some n => V.int n | none => .non) = _
  rw [show PySem.intText? (figS n) = some n from e]
theorem cells_ok {F : Fl} {R : Ru} (h : RowOk F R) : CellsOk F R.cells := ⟨h.ne, h.ok.nd, h.ok.inn⟩
section
variable {P : Program} {w : World} {K : PySem.W.Frag} {mg : Str → Option Value} {base : Heap}
def rRead (K : PySem.W.Frag) : Rl := fun vs H r => ∃ (g : Addr) (F : Fl) (R : Ru), vs = [.ref g, .str (lineOf R)] ∧ FlAt H g F ∧ FlOk F ∧ RowOk F R ∧ r = IsRule K F R
theorem sc_readrule : FnScope ["floor", "line", "words", "word", "numbers", "sign", "cells", "one"] ["floor", "line"] (defScope (top 80)) := ⟨rfl, rfl, rfl, by decide +kernel, rfl, by decide +kernel, by decide +kernel⟩
theorem ok_readrule (T : Top w K mg base) : DF P w K mg base 4 "read_rule" ["floor", "line"] (rRead K) := by
  obtain ⟨f, fd, hm, F⟩ := T.defG "read_rule" 80
  have S := sc_readrule
  refine ⟨f, fg_of F S (fun vs H r h => ?_) (fun _ _ _ _ _ _ us hl => match us, hl with | [_, _], _ => rfl) (fun cdv A outer s H E vs r hr h => ?_), hm, F.kp⟩
  · obtain ⟨_, _, _, rfl, _⟩ := h
    rfl
  · obtain ⟨g, F, R, rfl, hg, fo, ro, rfl⟩ := h
    have ll := line_len fo ro
    have rl := rowN_len fo ro.ok
    have cl := ro.ok.len fo
    refine q_when (t_not (t_val (x_isStr (x_v 1) (T.free "isinstance") (T.free "str")))) (fun hb H1 k1 => absurd hb (by simp)) (fun hb H1 k1 => ?_)
    refine q_set 2 S.nd (x_split (x := lineOf R) (y := " ") (x_v 1) x_str (by decide +kernel) (by omega)) fun v H2 k2 gg => ?_
    obtain ⟨l, rfl, _, hl⟩ := gg
    rw [line_split ro] at hl
    have K2 := k1.trans k2
    refine q_setV 3 S.nd (x_ixL (v := .str R.k.word) (x_v 2) x_int (SqL.of hl) at0) fun H3 k3 => ?_
    refine q_when (t_c (c_niU (xs := [.str "unlike", .str "sum", .str "rising", .str "seen", .str "count", .str "joined", .str "nosquare", .str "ring"]) (x_v 3) (x_tup (e_cons x_str (e_cons x_str (e_cons x_str (e_cons x_str (e_cons x_str (e_cons x_str (e_cons x_str (e_1 x_str)))))))) (by decide)) rfl rfl)) (fun hb H4 k4 => ?_) (fun hb H4 k4 => ?_)
    · exfalso
      cases e : R.k <;> rw [e] at hb <;> exact absurd hb (by decide +kernel)
    · have K4 := (K2.trans k3).trans k4
      refine q_l (i := 4) (l_V (xs := (rowN R).map fun n => V.str (figS n)) 7 (fun _ => true) numV S.nd (@blkOk_by ["floor", "line", "words", "word", "numbers", "sign", "cells", "one"] (defScope (top 80)) _ _ (by decide +kernel)) (x_from (k := 1) (x_v 2) x_int (SqL.of ((k3.trans k4) l _ hl))) (fun v H5 k5 g => ?_) (by rw [List.length_map]; omega) (fun s' H0 cl C fp x i H5 hi k => ts_nil) (fun s' H0 cl C fp x i H5 hi hp k => ?_)) fun v H5 k5 gg => ?_
      · obtain ⟨q, rfl, _, hq⟩ := g
        refine ⟨q, rfl, SqL.of ?_⟩
        rw [hq]
        unfold rowW
        rw [List.map_cons, List.drop_one, List.tail_cons, List.map_map]
        rfl
      · rw [List.getElem?_map] at hi
        obtain ⟨n, hn, rfl⟩ : ∃ n, (rowN R)[i]? = some n ∧ x = .str (figS n) := by
          cases e : (rowN R)[i]? with
          | none => rw [e] at hi; cases hi
          | some n => rw [e] at hi; exact ⟨n, rfl, (Option.some.inj hi).symm⟩
        obtain ⟨n0, n1⟩ := ro.lt n (List.mem_of_getElem? hn)
        rw [num_fig n0 n1]
        refine XG.is (x := .int n) (x_call (r := .val (.int ((n.toNat : Nat) : Int))) (ok_numberof T) (hr.mono (by decide)) (e_1 (XG.is (x := .str (figS ((n.toNat : Nat) : Int))) (x_v (v := .str (figS n)) 7) (by rw [← fig_nat n0]))) fun _ _ => ⟨n.toNat, by omega, rfl, rfl⟩) (by rw [Int.toNat_of_nonneg n0])
      · obtain ⟨m, rfl, _, hm⟩ := gg
        have en : (rowN R).map (numV ∘ fun n => V.str (figS n)) = (rowN R).map V.int := List.map_congr_left fun n hn => num_fig (ro.lt n hn).1 (ro.lt n hn).2
        rw [all_true, List.map_map, en] at hm
        have K5 := K4.trans k5
        have g5 := K5 g _ hg
        obtain ⟨kd, cs, n, sg⟩ := R
        have ok := ro.ok
        have cz : cs.length ≤ 16 := cl
        have co : CellsOk F cs := cells_ok ro
        clear en rl cl ll
        cases kd
        · obtain ⟨rfl, rfl⟩ : n = 0 ∧ sg = 0 := ro.z
          refine q_when (t_c (c_inU (xs := [.str "joined", .str "nosquare", .str "ring"]) (x_v 3) (x_tup (e_cons x_str (e_cons x_str (e_1 x_str))) (by decide)) rfl rfl)) (fun hb H6 k6 => absurd hb (by dsimp only; decide +kernel)) (fun hb H6 k6 => ?_)
          have K6 := K5.trans k6
          have g6 := k6 g _ g5
          have hm6 := k6 m _ hm
          refine q_when (t_c (c_eqS (x_v 3) x_str)) (fun hb H7 k7 => ?_) (fun hb H7 k7 => absurd (by dsimp only; decide +kernel) (of_decide_eq_false hb))
          have K7 := K6.trans k7
          have g7 := k7 g _ g6
          have hm7 := k7 m _ hm6
          exact s_one (r_ret K7 (x_mkRule .unlike T hr (x_v 0) (x_cellsTold (cs := cs) T hr (x_v 0) (XG.ofV (xs := cs.map V.int) (x_v 4) hm7) g7 fo (by omega) co) x_int x_int g7 ok))
        · obtain rfl : sg = 0 := ro.z
          refine q_when (t_c (c_inU (xs := [.str "joined", .str "nosquare", .str "ring"]) (x_v 3) (x_tup (e_cons x_str (e_cons x_str (e_1 x_str))) (by decide)) rfl rfl)) (fun hb H6 k6 => absurd hb (by dsimp only; decide +kernel)) (fun hb H6 k6 => ?_)
          have K6 := K5.trans k6
          have g6 := k6 g _ g5
          have hm6 := k6 m _ hm
          refine q_when (t_c (c_eqS (x_v 3) x_str)) (fun hb H7 k7 => absurd (of_decide_eq_true hb) (by dsimp only; decide +kernel)) (fun hb H7 k7 => ?_)
          have K7 := K6.trans k7
          have g7 := k7 g _ g6
          have hm7 := k7 m _ hm6
          refine q_when (t_c (c_eqS (x_v 3) x_str)) (fun hb H8 k8 => absurd (of_decide_eq_true hb) (by dsimp only; decide +kernel)) (fun hb H8 k8 => ?_)
          have K8 := K7.trans k8
          have g8 := k8 g _ g7
          have hm8 := k8 m _ hm7
          refine q_when (t_c (c_eqS (x_v 3) x_str)) (fun hb H9 k9 => absurd (of_decide_eq_true hb) (by dsimp only; decide +kernel)) (fun hb H9 k9 => ?_)
          have K9 := K8.trans k9
          have g9 := k9 g _ g8
          have hm9 := k9 m _ hm8
          refine q_set 6 S.nd (x_cellsTold (cs := cs) T hr (x_v 0) (XG.ofL (x_from (k := 1) (x_v 4) x_int (SqL.of hm9))) g9 fo (by omega) co) fun v H10 k10 gg => ?_
          obtain ⟨c, rfl, hc⟩ := gg
          have K10 := K9.trans k10
          have g10 := k10 g _ g9
          have hm10 := k10 m _ hm9
          refine q_when (t_c (c_eqS (x_v 3) x_str)) (fun hb H11 k11 => ?_) (fun hb H11 k11 => absurd (by dsimp only; decide +kernel) (of_decide_eq_false hb))
          have K11 := K10.trans k11
          have g11 := k11 g _ g10
          have hm11 := k11 m _ hm10
          exact s_one (r_ret K11 (x_mkRule .sum T hr (x_v 0) (XG.ofV (x_v 6) (k11 c _ hc)) (x_ixL (x_v 4) x_int (SqL.of hm11) at0) x_int g11 ok))
        · obtain ⟨rfl, rfl⟩ : n = 0 ∧ sg = 0 := ro.z
          refine q_when (t_c (c_inU (xs := [.str "joined", .str "nosquare", .str "ring"]) (x_v 3) (x_tup (e_cons x_str (e_cons x_str (e_1 x_str))) (by decide)) rfl rfl)) (fun hb H6 k6 => absurd hb (by dsimp only; decide +kernel)) (fun hb H6 k6 => ?_)
          have K6 := K5.trans k6
          have g6 := k6 g _ g5
          have hm6 := k6 m _ hm
          refine q_when (t_c (c_eqS (x_v 3) x_str)) (fun hb H7 k7 => absurd (of_decide_eq_true hb) (by dsimp only; decide +kernel)) (fun hb H7 k7 => ?_)
          have K7 := K6.trans k7
          have g7 := k7 g _ g6
          have hm7 := k7 m _ hm6
          refine q_when (t_c (c_eqS (x_v 3) x_str)) (fun hb H8 k8 => ?_) (fun hb H8 k8 => absurd (by dsimp only; decide +kernel) (of_decide_eq_false hb))
          have K8 := K7.trans k8
          have g8 := k8 g _ g7
          have hm8 := k8 m _ hm7
          exact s_one (r_ret K8 (x_mkRule .rising T hr (x_v 0) (x_cellsTold (cs := cs) T hr (x_v 0) (XG.ofV (xs := cs.map V.int) (x_v 4) hm8) g8 fo (by omega) co) x_int x_int g8 ok))
        · obtain rfl : sg = 0 := ro.z
          refine q_when (t_c (c_inU (xs := [.str "joined", .str "nosquare", .str "ring"]) (x_v 3) (x_tup (e_cons x_str (e_cons x_str (e_1 x_str))) (by decide)) rfl rfl)) (fun hb H6 k6 => absurd hb (by dsimp only; decide +kernel)) (fun hb H6 k6 => ?_)
          have K6 := K5.trans k6
          have g6 := k6 g _ g5
          have hm6 := k6 m _ hm
          refine q_when (t_c (c_eqS (x_v 3) x_str)) (fun hb H7 k7 => absurd (of_decide_eq_true hb) (by dsimp only; decide +kernel)) (fun hb H7 k7 => ?_)
          have K7 := K6.trans k7
          have g7 := k7 g _ g6
          have hm7 := k7 m _ hm6
          refine q_when (t_c (c_eqS (x_v 3) x_str)) (fun hb H8 k8 => absurd (of_decide_eq_true hb) (by dsimp only; decide +kernel)) (fun hb H8 k8 => ?_)
          have K8 := K7.trans k8
          have g8 := k8 g _ g7
          have hm8 := k8 m _ hm7
          refine q_when (t_c (c_eqS (x_v 3) x_str)) (fun hb H9 k9 => absurd (of_decide_eq_true hb) (by dsimp only; decide +kernel)) (fun hb H9 k9 => ?_)
          have K9 := K8.trans k9
          have g9 := k9 g _ g8
          have hm9 := k9 m _ hm8
          refine q_set 6 S.nd (x_cellsTold (cs := cs) T hr (x_v 0) (XG.ofL (x_from (k := 1) (x_v 4) x_int (SqL.of hm9))) g9 fo (by omega) co) fun v H10 k10 gg => ?_
          obtain ⟨c, rfl, hc⟩ := gg
          have K10 := K9.trans k10
          have g10 := k10 g _ g9
          have hm10 := k10 m _ hm9
          refine q_when (t_c (c_eqS (x_v 3) x_str)) (fun hb H11 k11 => absurd (of_decide_eq_true hb) (by dsimp only; decide +kernel)) (fun hb H11 k11 => ?_)
          have K11 := K10.trans k11
          have g11 := k11 g _ g10
          have hm11 := k11 m _ hm10
          exact q_ret K11 (x_mkRule .seen T hr (x_v 0) (XG.ofV (x_v 6) (k11 c _ hc)) (x_ixL (x_v 4) x_int (SqL.of hm11) at0) x_int g11 ok)
        · refine q_when (t_c (c_inU (xs := [.str "joined", .str "nosquare", .str "ring"]) (x_v 3) (x_tup (e_cons x_str (e_cons x_str (e_1 x_str))) (by decide)) rfl rfl)) (fun hb H6 k6 => absurd hb (by dsimp only; decide +kernel)) (fun hb H6 k6 => ?_)
          have K6 := K5.trans k6
          have g6 := k6 g _ g5
          have hm6 := k6 m _ hm
          refine q_when (t_c (c_eqS (x_v 3) x_str)) (fun hb H7 k7 => absurd (of_decide_eq_true hb) (by dsimp only; decide +kernel)) (fun hb H7 k7 => ?_)
          have K7 := K6.trans k7
          have g7 := k7 g _ g6
          have hm7 := k7 m _ hm6
          refine q_when (t_c (c_eqS (x_v 3) x_str)) (fun hb H8 k8 => absurd (of_decide_eq_true hb) (by dsimp only; decide +kernel)) (fun hb H8 k8 => ?_)
          have K8 := K7.trans k8
          have g8 := k8 g _ g7
          have hm8 := k8 m _ hm7
          refine q_when (t_c (c_eqS (x_v 3) x_str)) (fun hb H9 k9 => ?_) (fun hb H9 k9 => absurd (by dsimp only; decide +kernel) (of_decide_eq_false hb))
          have K9 := K8.trans k9
          have g9 := k9 g _ g8
          have hm9 := k9 m _ hm8
          refine q_setV 5 S.nd (x_call (r := .val (.int sg)) (ok_signtold T) (hr.mono (by decide)) (e_cons (x_v 0) (e_cons (x_v 4) (e_1 x_int))) fun H10 k10 => ⟨g, m, F, n :: sg :: cs, 1, rfl, k10 g _ g9, k10 m _ hm9, by simp, ok.s1 (.inl rfl), ok.s0.2, rfl⟩) fun H10 k10 => ?_
          exact s_one (r_ret (K9.trans k10) (x_mkRule .count T hr (x_v 0) (x_cellsTold (cs := cs) T hr (x_v 0) (XG.ofL (x_from (k := 2) (x_v 4) x_int (SqL.of (k10 m _ hm9)))) (k10 g _ g9) fo (by omega) co) (x_ixL (x_v 4) x_int (SqL.of (k10 m _ hm9)) at0) (x_v 5) (k10 g _ g9) ok))
        · obtain rfl : n = 0 := ro.z
          obtain rfl : cs = cellsF (F.h * F.w) := ok.all (.inl rfl)
          refine q_when (t_c (c_inU (xs := [.str "joined", .str "nosquare", .str "ring"]) (x_v 3) (x_tup (e_cons x_str (e_cons x_str (e_1 x_str))) (by decide)) rfl rfl)) (fun hb H6 k6 => ?_) (fun hb H6 k6 => absurd hb (by dsimp only; decide +kernel))
          have K6 := K5.trans k6
          have g6 := k6 g _ g5
          have hm6 := k6 m _ hm
          exact s_one (r_ret K6 (x_call (ok_wholerule T) hr (e_cons (x_v 0) (e_cons (x_v 3) (e_1 (x_v 4)))) fun H7 k7 => ⟨g, m, F, .joined, sg, rfl, k7 g _ g6, fo, .inl rfl, k7 m _ hm6, ok.s1 (.inr (.inl rfl)), ok.s0.2, rfl⟩))
        · obtain rfl : n = 0 := ro.z
          obtain rfl : cs = cellsF (F.h * F.w) := ok.all (.inr (.inl rfl))
          refine q_when (t_c (c_inU (xs := [.str "joined", .str "nosquare", .str "ring"]) (x_v 3) (x_tup (e_cons x_str (e_cons x_str (e_1 x_str))) (by decide)) rfl rfl)) (fun hb H6 k6 => ?_) (fun hb H6 k6 => absurd hb (by dsimp only; decide +kernel))
          have K6 := K5.trans k6
          have g6 := k6 g _ g5
          have hm6 := k6 m _ hm
          exact s_one (r_ret K6 (x_call (ok_wholerule T) hr (e_cons (x_v 0) (e_cons (x_v 3) (e_1 (x_v 4)))) fun H7 k7 => ⟨g, m, F, .nosquare, sg, rfl, k7 g _ g6, fo, .inr (.inl rfl), k7 m _ hm6, ok.s1 (.inr (.inr (.inl rfl))), ok.s0.2, rfl⟩))
        · obtain rfl : n = 0 := ro.z
          obtain rfl : cs = cellsF (F.h * F.w) := ok.all (.inr (.inr rfl))
          refine q_when (t_c (c_inU (xs := [.str "joined", .str "nosquare", .str "ring"]) (x_v 3) (x_tup (e_cons x_str (e_cons x_str (e_1 x_str))) (by decide)) rfl rfl)) (fun hb H6 k6 => ?_) (fun hb H6 k6 => absurd hb (by dsimp only; decide +kernel))
          have K6 := K5.trans k6
          have g6 := k6 g _ g5
          have hm6 := k6 m _ hm
          exact s_one (r_ret K6 (x_call (ok_wholerule T) hr (e_cons (x_v 0) (e_cons (x_v 3) (e_1 (x_v 4)))) fun H7 k7 => ⟨g, m, F, .ring, sg, rfl, k7 g _ g6, fo, .inr (.inr rfl), k7 m _ hm6, ok.s1 (.inr (.inr (.inr rfl))), ok.s0.2, rfl⟩))
end
end Ck

set_option maxRecDepth 100000
set_option maxHeartbeats 4000000
namespace Ck
open PySem PySem.Spec PyProof.Rows L2 Evl
/-! ### fillings, puzzles made, meets -/
def fillB (F : Fl) (fl : List Int) : Bool := (fl.map fun x => decide (0 ≤ x) && decide (x ≤ F.s)).all id
theorem fillB_yes {F : Fl} {fl : List Int} (h : ∀ x ∈ fl, 0 ≤ x ∧ x ≤ F.s) : fillB F fl = true := by
  unfold fillB
  rw [List.all_map, List.all_eq_true]
  intro x hx
  obtain ⟨a, b⟩ := h x hx
  simp [a, b]
section
variable {P : Program} {w : World} {K : PySem.W.Frag} {mg : Str → Option Value} {base : Heap}
def rIsFilling : Rl := fun vs H r => ∃ (g q : Addr) (F : Fl) (fl : List Int), vs = [.ref g, .ref q] ∧ FlAt H g F ∧ FlOk F ∧ H q = some (.lst (fl.map V.int)) ∧ (fl.length : Int) = F.h * F.w ∧ r = .val (.bl (fillB F fl))
theorem sc_isfilling : FnScope ["floor", "filling", "sign"] ["floor", "filling"] (defScope (top 60)) := ⟨rfl, rfl, rfl, by decide +kernel, rfl, by decide +kernel, by decide +kernel⟩
theorem ok_isfilling (T : Top w K mg base) : DF P w K mg base 2 "is_filling" ["floor", "filling"] rIsFilling := by
  obtain ⟨f, fd, hm, F⟩ := T.defG "is_filling" 60
  have S := sc_isfilling
  refine ⟨f, fg_of F S (fun vs H r h => ?_) (fun _ _ _ _ _ _ us hl => match us, hl with | [_, _], _ => rfl) (fun cdv A outer s H E vs r hr h => ?_), hm, F.kp⟩
  · obtain ⟨_, _, _, _, rfl, _⟩ := h
    rfl
  · obtain ⟨g, q, F, fl, rfl, hg, fo, hq, hl, rfl⟩ := h
    have hw := fo.hw
    refine q_when (t_c (c_neI (x_len (x_v 1) (.inl (SqL.of hq)) (T.free "len")) (x_call (ok_many T) hr (e_1 (x_v 0)) fun H1 k1 => ⟨g, F, rfl, k1 g _ hg, fo, rfl⟩))) (fun hb H1 k1 => ?_) (fun hb H1 k1 => ?_)
    · exfalso
      rw [List.length_map, hl] at hb
      simp at hb
    · refine q_retV k1 (x_all (bs := fl.map fun x => decide (0 ≤ x) && decide (x ≤ F.s)) (x_l (l_I 2 (fun _ => true) (fun x => V.bl (decide (0 ≤ x) && decide (x ≤ F.s))) S.nd (@blkOk_by ["floor", "filling", "sign"] (defScope (top 60)) _ _ (by decide +kernel)) (x_v 1) (hrL (k1 q _ hq)) (by omega) (fun s' H0 cl C fp y H2 hy k => ts_nil)
        (fun s' H0 cl C fp y H2 hy hp k => x_chainLe x_int (x_v 2) (x_ixT (x_v 0) x_int (SqT.of ((k1.trans k) g _ hg)) at_fl.2.2)))) (hrA (by rw [all_true, List.map_map]; rfl)) (T.free "all")) rfl
/-! the rules of a puzzle -/
def RuE (K : PySem.W.Frag) (F : Fl) (PR : Ru → Prop) (y : V) (H : Hp) : Prop := ∃ (p : Addr) (R : Ru), y = .ref p ∧ RuAt K F H p R ∧ R.cells ≠ [] ∧ PR R
theorem RuE.ext {F : Fl} {PR : Ru → Prop} {y : V} {H H' : Hp} (h : RuE K F PR y H) (e : Ex H H') : RuE K F PR y H' := by
  obtain ⟨p, R, a, b, c, d⟩ := h
  exact ⟨p, R, a, b.mono e, c, d⟩
theorem RuE.upd {F : Fl} {PR : Ru → Prop} {y : V} {H : Hp} {Dl : Addr} {xs : List V} {o : HO} (h : RuE K F PR y H) (hD : H Dl = some (.lst xs)) (hx : ∀ x ∈ xs, ∃ p, x = V.ref p) : RuE K F PR y (upd H Dl o) := by
  obtain ⟨p, R, a, ⟨ok, dx, g, c, h1, h2, h3⟩, hne, d⟩ := h
  have n1 : p ≠ Dl := fun z => by rw [z, hD] at h1; cases h1
  have n2 : g ≠ Dl := fun z => by rw [z] at h2; rw [show H Dl = _ from h2] at hD; cases hD
  have n3 : c ≠ Dl := fun z => by
    rw [z, hD] at h3
    have e := HO.lst.inj (Option.some.inj h3)
    cases hc : R.cells with
    | nil => exact hne hc
    | cons i r =>
      rw [hc] at e
      obtain ⟨q, hq⟩ := hx (V.int i) (by rw [e]; exact List.mem_cons_self)
      cases hq
  exact ⟨p, R, a, ⟨ok, dx, g, c, by rw [upd_ne n1]; exact h1, by show (L2.upd H Dl o) g = _; rw [upd_ne n2]; exact h2, by rw [upd_ne n3]; exact h3⟩, hne, d⟩
end
section
theorem lw_turnR {K : PySem.W.Frag} {F : Fl} {PR : Ru → Prop} {tt : TT} {te : TE} {H H' : Hp} {Dl : Addr} {xs : List V} {i : Nat} {x : V} {σ2 : L2.St} (hi : xs[i]? = some x) (hz : i < 50000) (q : Lw H Dl xs (fun _ => true) (fun _ y H => RuE K F PR y H) i H')
    (ht : ∀ H1, Ex H H1 → ∀ Q : Bool → Hp → Prop, (∀ H2, Ex H1 H2 → Q true H2) → tt σ2 H1 Q) (he : ∀ H1, Ex H H1 → ∀ Q : VK, (∀ y H2, Ex H1 H2 → RuE K F PR y H2 → Q y H2) → te σ2 H1 Q) :
    tt σ2 H' fun b H3 => if b = true then te σ2 H3 fun y H4 => ∃ acc, H4 Dl = some (.lst acc) ∧ acc.length < sizeLine ∧ Lw H Dl xs (fun _ => true) (fun _ y H => RuE K F PR y H) (i + 1) (upd H4 Dl (.lst (acc ++ [y]))) else Lw H Dl xs (fun _ => true) (fun _ y H => RuE K F PR y H) (i + 1) H3 := by
  obtain ⟨q1, q2, ys, q3, q4⟩ := q
  have hx : xs.take (i + 1) = xs.take i ++ [x] := by rw [List.take_add_one, hi]; rfl
  have refs : ∀ {l m : List V} {H : Hp}, Paired (fun (_ : V) y => RuE K F PR y H) l m → ∀ y ∈ m, ∃ p, y = V.ref p := fun {l m H} h y hy => by
    obtain ⟨_, p, R, e, _⟩ := paired_mem h y hy
    exact ⟨p, e⟩
  refine ht H' q2 _ fun H3 e3 => ?_
  refine iteT (he H3 (q2.trans e3) _ fun y H4 e4 hE => ⟨ys, e4 Dl _ (e3 Dl _ q3), sz_lt ?_, q1, Ex.mut ((q2.trans e3).trans e4) q1, ys ++ [y], upd_same, ?_⟩)
  · have h1 := Paired.length q4
    have h2 := List.length_filter_le (fun _ => true) (xs.take i)
    rw [List.length_take] at h2
    omega
  · rw [hx, List.filter_append]
    refine Paired.snoc (Paired.imp2 q4 fun a b z => (RuE.ext z (e3.trans e4)).upd (e4 Dl _ (e3 Dl _ q3)) (refs q4)) (hE.upd (e4 Dl _ (e3 Dl _ q3)) (refs q4))
variable {X : Cx} {σ : L2.St} {H : Hp} {r : Rt}
/-- [elt for n in xs], each element a rule -/
theorem l_RU {xs : List V} {F : Fl} {PR : Ru → Prop} (j : Nat) {n : Str} {tp : Pos} {elt iter : Expr} {scope : Scope} (hN : X.N.Nodup) (ok : BlkOk X.N X.env.scope scope [(n, j)]) (h : XG X σ H iter r) (hr : ∀ v H1, Ex H H1 → r.go H v H1 → ∃ q, v = .ref q ∧ SqL X.K H1 q xs) (hz : xs.length ≤ 1000)
    (he : ∀ (s : Shared) (H0 : Hp) (cl : List (Str × Addr)) (C : Addr) (fp : List Addr) (x : V) (i : Nat) H1, xs[i]? = some x → Ex H H1 → XG (Bk X s H0 scope cl C fp) ((σ.set j none).set j (some x)) H1 elt (.gen fun y H2 => RuE X.K F PR y H2))
    (hc : X.calm = true := by rfl) (hs : ∀ x, foldedSetIterable iter X.env x = pure x := by intro _; rfl)
    (hj : X.N[j]? = some n := by rfl) (hx : (relS scope X.env.scope).names.lookup n = some .local := by rfl) :
    XLc X σ H j n tp elt iter [] scope (.gen fun v H' => ∃ (l : Addr) (ys : List V), v = .ref l ∧ H l = none ∧ H' l = some (.lst ys) ∧ ys.length = xs.length ∧ ∀ y ∈ ys, RuE X.K F PR y H') :=
  ⟨hN, ok, hj, hx, hs, hc, _, pi_list pe_sem, fun H1 e1 Q kk =>
    (h H1 e1 _ fun v H2 e2 g2 => by
      obtain ⟨q, rfl, hq⟩ := hr v H2 (e1.trans e2) (go_back e1 g2)
      refine ⟨q, rfl, ⟨xs, hq⟩, fun Dl hD => ?_⟩
      refine lc_list (K := X.K) (a := q) (xs := xs) (g := gName j) (vs := [j]) (σ := σ) (tt := cTs X scope []) (te := cE X scope elt) (Qd := fun H' => Q (.ref Dl) H') (Lw H2 Dl xs (fun _ => true) (fun _ y H => RuE X.K F PR y H)) ⟨hD, Ex.new hD, [], upd_same, .nil⟩ (fun i H' _ w => ex_l w.2.1 hq) (fun i x H' hi w => ⟨wipe1, ?_⟩) fun H' w => ?_
      · have hil := (List.getElem?_eq_some_iff.mp hi).1
        exact lw_turnR (σ2 := (σ.set j none).set j (some x)) (tt := cTs X scope []) (te := cE X scope elt) hi (by omega) w
          (fun H3 e3 Q q s H0 cl C fp => ts_nil H3 (Ex.refl H3) Q q) (fun H3 e3 Q q s H0 cl C fp => he s H0 cl C fp x i H3 hi ((e1.trans e2).trans e3) H3 (Ex.refl H3) Q fun y H4 e4 g => q y H4 e4 g)
      · obtain ⟨w1, w2, ys, w3, w4⟩ := w
        rw [List.take_length] at w4
        refine kk _ H' (e2.trans w2) ⟨Dl, ys, rfl, fresh_back (e1.trans e2) w1, w3, ?_, fun y hy => ?_⟩
        · rw [← Paired.length w4, all_true]
        · obtain ⟨_, hh⟩ := paired_mem w4 y hy
          exact hh)⟩
end
section
variable {P : Program} {w : World} {K : PySem.W.Frag} {mg : Str → Option Value} {base : Heap}
theorem ruE_all {F : Fl} {PR : Ru → Prop} {H : Hp} : ∀ ys : List V, (∀ y ∈ ys, RuE K F PR y H) → ∃ (ps : List Addr) (Rs : List Ru), ys = ps.map V.ref ∧ Paired (fun p R => RuAt K F H p R) ps Rs ∧ Rs.length = ys.length ∧ ∀ R ∈ Rs, PR R
  | [], _ => ⟨[], [], rfl, .nil, rfl, fun R h => nomatch h⟩
  | y :: ys, h => by
    obtain ⟨ps, Rs, a, b, c, d⟩ := ruE_all ys fun y hy => h y (List.mem_cons_of_mem _ hy)
    obtain ⟨p, R, e, f, _, g⟩ := h y List.mem_cons_self
    exact ⟨p :: ps, R :: Rs, by rw [e, a]; rfl, .cons f b, by rw [List.length_cons, c, List.length_cons], fun R' hR' => by
      rcases List.mem_cons.mp hR' with rfl | hR'
      · exact g
      · exact d R' hR'⟩
def irPuzzle (K : PySem.W.Frag) : IRl := fun args H0 Po => ∃ (f ls cq : Addr) (F : Fl) (lines : List Str) (cl : List Int) (PR : Ru → Prop), args = [.ref f, .ref ls, .ref cq] ∧ FlAt H0 f F ∧ FlOk F ∧ H0 ls = some (.lst (lines.map V.str)) ∧ lines.length ≤ 12 ∧ (∀ z ∈ lines, ∃ R, z = lineOf R ∧ RowOk F R ∧ PR R) ∧
  H0 cq = some (.lst (cl.map V.int)) ∧ (cl.length : Int) = F.h * F.w ∧ (∀ x ∈ cl, 0 ≤ x ∧ x ≤ F.s) ∧ Po = fun x H' => ∃ Rs : List Ru, PuAt K H' x ⟨F, Rs, cl⟩ ∧ Rs.length = lines.length ∧ ∀ R ∈ Rs, PR R
theorem pput1 {g : V} : putF "ground" g [] = [(("ground" : Str), g)] := rfl
theorem pput2 {g c : V} : putF "rule_list" c [(("ground" : Str), g)] = [(("ground" : Str), g), (("rule_list" : Str), c)] := rfl
theorem pput3 {g c n : V} : putF "clue_list" n [(("ground" : Str), g), (("rule_list" : Str), c)] = [(("ground" : Str), g), (("rule_list" : Str), c), (("clue_list" : Str), n)] := rfl
theorem ok_mkPuzzle (T : Top w K mg base) : IF P w K mg base 6 (ga K "Puzzle") ["self", "floor", "lines", "clues"] (irPuzzle K) := by
  obtain ⟨f, fd, M, F⟩ := T.mkr "Puzzle" "Puzzle.__init__" 83 0
  have S : FnScope ["self", "floor", "lines", "clues", "line"] ["self", "floor", "lines", "clues"] (defScope (mth 83 0)) := ⟨rfl, rfl, rfl, by decide +kernel, rfl, by decide +kernel, by decide +kernel⟩
  refine if_of M F S (fun vs H Po h => ?_) (fun _ _ _ _ _ _ us hl => match us, hl with | [_, _, _, _], _ => rfl) (fun cdv A outer s H E x dx args H0 Po hr hx n0 e0 h => ?_)
  · obtain ⟨_, _, _, _, _, _, _, rfl, _⟩ := h
    rfl
  · obtain ⟨fa, ls, cq, F, lines, cl, PR, rfl, hf, fo, hls, lz, hlines, hcq, hcl, hcb, rfl⟩ := h
    have kc : Cls K (ga K "Puzzle") := T.cls _
    refine q_when (t_c (c_neI (x_len (xs := F.vs) (x_v 1) (.inr (SqT.of (e0 fa _ hf))) (T.free "len")) x_int)) (fun hb H1 k1 => absurd hb (by show ¬ (!decide (((3 : Nat) : Int) = 3)) = true; decide)) (fun hb H1 k1 => ?_)
    have f1 := (e0.trans k1) fa _ hf
    refine s_seq (s_fld (k1 x _ hx) kc (T.noat _ _) (by decide) (x_call (ok_floorOf T) (hr.mono (by decide)) (e_cons (x_ixT (x_v 1) x_int (SqT.of f1) at_fl.1) (e_cons (x_ixT (x_v 1) x_int (SqT.of f1) at_fl.2.1) (e_1 (x_ixT (x_v 1) x_int (SqT.of f1) at_fl.2.2)))) fun H2 k2 => ⟨F, rfl, fo, rfl⟩) (x_v 0) fun v H2 H3 k2 g2 k3 => ?_)
    obtain ⟨g, rfl, ng, hg⟩ := g2
    rw [pput1]
    have gx : g ≠ x := fun z => by rw [z, k1 x _ hx] at ng; cases ng
    have e3 := Ex.mut (o := .ins (ga K "Puzzle") dx [("ground", .ref g)]) (((e0.trans k1).trans k2).trans k3) n0
    have hx3 : (upd H3 x (.ins (ga K "Puzzle") dx [("ground", .ref g)])) x = some (.ins (ga K "Puzzle") dx [("ground", .ref g)]) := upd_same
    have hg3 : (upd H3 x (.ins (ga K "Puzzle") dx [("ground", .ref g)])) g = some (.tup F.vs) := by rw [upd_ne gx]; exact k3 g _ hg
    generalize upd H3 x (.ins (ga K "Puzzle") dx [("ground", .ref g)]) = H4 at e3 hx3 hg3 ⊢
    refine q_when (t_c (c_gt (x_len (x_v 2) (.inl (SqL.of (e3 ls _ hls))) (T.free "len")) (T.gint rfl "MOST_RULES" 12))) (fun hb H5 k5 => ?_) (fun hb H5 k5 => ?_)
    · exfalso
      have := of_decide_eq_true hb
      rw [List.length_map] at this
      omega
    · have e5 := e3.trans k5
      refine s_seq (s_fld (k5 x _ hx3) kc (T.noat _ _) (by simp) (x_l (l_RU (F := F) (PR := PR) 4 S.nd (@blkOk_by ["self", "floor", "lines", "clues", "line"] (defScope (mth 83 0)) _ _ (by decide +kernel)) (x_v 2) (hrL (e5 ls _ hls)) (by rw [List.length_map]; omega) (fun s' H0' cl' C fp y i H6 hi k6 => ?_))) (x_v 0) fun v H6 H7 k6 g6 k7 => ?_)
      · obtain ⟨z, hz, rfl⟩ : ∃ z, lines[i]? = some z ∧ y = .str z := by
          rw [List.getElem?_map] at hi
          cases e : lines[i]? with
          | none => rw [e] at hi; cases hi
          | some z => rw [e] at hi; exact ⟨z, rfl, (Option.some.inj hi).symm⟩
        obtain ⟨R, rfl, ro, hP⟩ := hlines z (List.mem_of_getElem? hz)
        refine (x_call (r := IsRule K F R) (ok_readrule T) (hr.mono (by decide)) (e_cons (x_fld (x_v 0) ((k5.trans k6) x _ hx3) kc (T.noat _ _) rfl) (e_1 (x_v 4))) fun H7 k7 => ⟨g, F, R, rfl, ((k5.trans k6).trans k7) g _ hg3, fo, ro, rfl⟩).weak fun v H7 H8 e7 e8 gg => ?_
        obtain ⟨p, rfl, RA⟩ := gg
        exact ⟨p, R, rfl, RA, ro.ne, hP⟩
      · obtain ⟨rl, ys, rfl, nrl, hrl, ylen, hys⟩ := g6
        rw [pput2]
        have rx : rl ≠ x := fun z => by rw [z, k5 x _ hx3] at nrl; cases nrl
        obtain ⟨ps, Rs, rfl, hps, rlen, hPR⟩ := ruE_all ys hys
        simp only [List.length_map] at ylen rlen
        have hps7 := Paired.mapP hps fun p R z => z.mono k7
        have hx7 := k7 x _ (k6 x _ (k5 x _ hx3))
        have outx : ∀ {p : Addr} {R : Ru} {H' : Hp} {fs fs' : List (Str × V)}, fs.length ≤ 3 → H' x = some (.ins (ga K "Puzzle") dx fs) → RuAt K F H' p R → RuAt K F (upd H' x (.ins (ga K "Puzzle") dx fs')) p R := fun {p R H' fs fs'} hz hx' RA => by
          obtain ⟨ok, dx', g', c, h1, h2, h3⟩ := RA
          have n1 : p ≠ x := fun z => by
            rw [z, hx'] at h1
            injection h1 with h1
            injection h1 with _ _ h1
            rw [h1] at hz
            exact absurd hz (by unfold ruFs; simp)
          have n2 : g' ≠ x := fun z => by rw [z] at h2; rw [show H' x = _ from h2] at hx'; cases hx'
          have n3 : c ≠ x := fun z => by rw [z, hx'] at h3; cases h3
          exact ⟨ok, dx', g', c, by rw [upd_ne n1]; exact h1, by show (L2.upd H' x _) g' = _; rw [upd_ne n2]; exact h2, by rw [upd_ne n3]; exact h3⟩
        have hps8 := Paired.mapP hps7 fun p R z => outx (fs' := [("ground", .ref g), ("rule_list", .ref rl)]) (by simp) hx7 z
        have e7 := Ex.mut (o := .ins (ga K "Puzzle") dx [("ground", .ref g), ("rule_list", .ref rl)]) ((e5.trans k6).trans k7) n0
        have hx8 : (upd H7 x (.ins (ga K "Puzzle") dx [("ground", .ref g), ("rule_list", .ref rl)])) x = some (.ins (ga K "Puzzle") dx [("ground", .ref g), ("rule_list", .ref rl)]) := upd_same
        have hg8 : (upd H7 x (.ins (ga K "Puzzle") dx [("ground", .ref g), ("rule_list", .ref rl)])) g = some (.tup F.vs) := by rw [upd_ne gx]; exact ((k5.trans k6).trans k7) g _ hg3
        have hrl8 : (upd H7 x (.ins (ga K "Puzzle") dx [("ground", .ref g), ("rule_list", .ref rl)])) rl = some (.lst (ps.map V.ref)) := by rw [upd_ne rx]; exact k7 rl _ hrl
        generalize upd H7 x (.ins (ga K "Puzzle") dx [("ground", .ref g), ("rule_list", .ref rl)]) = H8 at e7 hx8 hg8 hrl8 hps8 ⊢
        refine q_when (t_not (t_val (x_call (r := .val (.bl true)) (ok_isfilling T) (hr.mono (by decide)) (e_cons (x_fld (x_v 0) hx8 kc (T.noat _ _) rfl) (e_1 (x_v 3))) fun H9 k9 => ⟨g, cq, F, cl, rfl, k9 g _ hg8, fo, (e7.trans k9) cq _ hcq, hcl, by rw [fillB_yes hcb]⟩))) (fun hb H9 k9 => absurd hb (by simp)) (fun hb H9 k9 => ?_)
        refine s_one (s_fld (k9 x _ hx8) kc (T.noat _ _) (by simp) (x_list (x_v 3) (.inl (SqL.of ((e7.trans k9) cq _ hcq))) (T.free "list")) (x_v 0) fun v H10 H11 k10 g10 k11 => ?_)
        obtain ⟨c, rfl, nc, hc⟩ := g10
        rw [pput3]
        have cx : c ≠ x := fun z => by rw [z, k9 x _ hx8] at nc; cases nc
        have hx11 := k11 x _ (k10 x _ (k9 x _ hx8))
        have hps11 := Paired.mapP (Paired.mapP hps8 fun p R z => z.mono ((k9.trans k10).trans k11)) fun p R z => outx (fs' := [("ground", .ref g), ("rule_list", .ref rl), ("clue_list", .ref c)]) (by simp) hx11 z
        refine ⟨Ex.mut (((e7.trans k9).trans k10).trans k11) n0, Rs, ⟨⟨fo, hcl, by show Rs.length ≤ 12; omega⟩, dx, g, rl, c, ps, upd_same, ?_, ?_, hps11, ?_⟩, by omega, hPR⟩
        · show (L2.upd H11 x _) g = _
          rw [upd_ne gx]
          exact ((k9.trans k10).trans k11) g _ hg8
        · rw [upd_ne rx]
          exact ((k9.trans k10).trans k11) rl _ hrl8
        · rw [upd_ne cx]
          exact k11 c _ hc
/-- puzzle.meets(filling), where it does -/
def rMeets (K : PySem.W.Frag) : Rl := fun vs H r => ∃ (p q : Addr) (D : PuD) (fl : List Int), vs = [.ref p, .ref q] ∧ PuAt K H p D ∧ FiAt D.F H q fl ∧ (∀ x ∈ fl, 1 ≤ x ∧ x ≤ D.F.s) ∧ (∀ (i : Nat) c x, D.clues[i]? = some c → fl[i]? = some x → c = 0 ∨ c = x) ∧ (∀ R ∈ D.rules, holdsP D.F R fl) ∧ r = .val (.bl true)
theorem ok_meets (T : Top w K mg base) : MF P w K mg base 6 (ga K "Puzzle") "meets" ["self", "filling"] (rMeets K) := by
  obtain ⟨f, fd, M, F⟩ := T.defM "Puzzle" "meets" "Puzzle.meets" 83 9
  have S : FnScope ["self", "filling", "clue", "sign", "rule"] ["self", "filling"] (defScope (mth 83 9)) := ⟨rfl, rfl, rfl, by decide +kernel, rfl, by decide +kernel, by decide +kernel⟩
  refine ⟨f, fg_of F S (fun vs H r h => ?_) (fun _ _ _ _ _ _ us hl => match us, hl with | [_, _], _ => rfl) (fun cdv A outer s H E vs r hr h => ?_), M⟩
  · obtain ⟨_, _, _, _, rfl, _⟩ := h
    rfl
  · obtain ⟨p, q, D, fl, rfl, PA, FA, hfl, hcl, hh, rfl⟩ := h
    obtain ⟨po, dx, g, rl, cl, ps, h1, h2, h3, h4, h5⟩ := id PA
    have fo := po.fo
    have kc : Cls K (ga K "Puzzle") := T.cls _
    refine q_when (t_or (t_not (t_val (x_call (r := .val (.bl true)) (ok_isfilling T) (hr.mono (by decide)) (e_cons (x_fld (x_v 0) h1 kc (T.noat _ _) pu_ground) (e_1 (x_v 1))) fun H1 k1 => ⟨g, q, D.F, fl, rfl, k1 g _ h2, fo, k1 q _ FA.1, FA.2, by rw [fillB_yes fun x hx => ⟨by have := (hfl x hx).1; omega, (hfl x hx).2⟩]⟩))) fun _ => t_c (c_inI x_int (x_v 1) FA.1)) (fun hb H1 k1 => ?_) (fun hb H1 k1 => ?_)
    · exfalso
      simp only [Bool.not_true, Bool.false_or, decide_eq_true_eq] at hb
      have := (hfl 0 hb).1
      omega
    · refine s_seq (s_forZ 2 3 S.nd (T.free "zip") (a_v (x_fld (x_v 0) (k1 p _ h1) kc (T.noat _ _) pu_clues) (a_v (x_v 1) (a_nil fun H2 k2 => ?_))))
      refine ⟨cl, q, D.clues.map V.int, fl.map V.int, fun t σ' H' => (∃ x y, σ' = [some (.ref p), some (.ref q), x, y, none]) ∧ Ex H1 H', rfl, SqL.of ((k1.trans k2) cl _ h5), SqL.of ((k1.trans k2) q _ FA.1), ⟨⟨none, none, rfl⟩, k2⟩, fun t σ' H' z => ⟨SqL.of ((k1.trans z.2) cl _ h5), SqL.of ((k1.trans z.2) q _ FA.1)⟩, ?_, ?_⟩
      · rintro t x y σ' H' H3 hx hy ⟨⟨x0, y0, rfl⟩, hE⟩ k3
        obtain ⟨c, hc, rfl⟩ := at_intsI hx
        obtain ⟨z, hz, rfl⟩ := at_intsI hy
        refine s_one (s_when (t_and (t_c (c_neI (x_v 2) x_int)) fun _ => t_c (c_neI (x_v 2) (x_v 3))) (fun hb H4 k4 => ?_) (fun hb H4 k4 => ⟨⟨_, _, rfl⟩, (hE.trans k3).trans k4⟩))
        exfalso
        simp only [Bool.and_eq_true, Bool.not_eq_true', decide_eq_false_iff_not] at hb
        rcases hcl t c z hc hz with e | e
        · exact hb.1 e
        · exact hb.2 e
      · rintro σ' H' ⟨⟨x0, y0, rfl⟩, hE⟩
        have K1 := k1.trans hE
        have pz : ps.length ≤ 12 := by rw [Paired.length h4]; exact po.rl
        refine s_one (r_ret (r := .val (.bl true)) K1 (XG.is (x := .bl true) (x_all (bs := ps.map fun _ => true) (x_l (l_V (xs := ps.map V.ref) 4 (fun _ => true) (fun _ => V.bl true) S.nd (@blkOk_by ["self", "filling", "clue", "sign", "rule"] (defScope (mth 83 9)) _ _ (by decide +kernel)) (x_fld (x_v 0) (K1 p _ h1) kc (T.noat _ _) pu_rules) (hrL (K1 rl _ h3)) (by rw [List.length_map]; omega) (fun s' H0 cl C fp x i H5 hi k => ts_nil) (fun s' H0 cl C fp x i H5 hi hp k => ?_))) (hrA (by rw [all_true, List.map_map, List.map_map]; rfl)) (T.free "all")) (by rw [List.all_map]; simp)))
        obtain ⟨a, ha, rfl⟩ := at_refs hi
        obtain ⟨R, hR, RA⟩ := paired_at h4 ha
        exact XG.is (x_holds T hr (x_v 4) (x_v 1) (RA.mono (K1.trans k)) fo (FA.mono (K1.trans k))) (by rw [holds_yes (hh R (List.mem_of_getElem? hR))])
end
end Ck

set_option maxRecDepth 100000
set_option maxHeartbeats 4000000
namespace Ck
open PySem PySem.Spec PyProof.Rows L2 Evl
section
variable {X : Cx} {σ : L2.St} {H H' : Hp} {D : Ends} {e a b o : Expr} {r : Rt} {v : V} {pos p p' p2 apos bpos : Pos}
/-- xs.extend(e), e a list made on the way -/
theorem s_ext {l : Addr} {xs zs : List V} (hl : H l = some (.lst xs)) (ha : XV X σ H o (.ref l)) (h : XG X σ H e (.lst zs)) (hz : xs.length + zs.length ≤ 100000) (k : ∀ H1, Ex H H1 → D.nx σ (upd H1 l (.lst (xs ++ zs))))
    (hs : swapsWith (.Call (.Attribute o "extend" apos) [e] [] p) none pos.line X.env = pure false := by rfl)
    (hbase : attributeBase o "extend" X.env (eval o X.env) = eval o X.env := by rfl)
    (hfew : ((backTo p (starEach [e] X.env)).all (fun x => !x.1) && (backToKw p (keywordEach [] X.env)).all (fun x => x.1.isSome)
      && decide ([e].length + ([] : List Keyword).length + (if ([] : List Keyword).isEmpty then 0 else 1) < 30)) = true := by rfl)
    (hline : (apos.endLine == p.line) = true := by rfl) (hst : starEach [e] X.env = (false, eval e X.env) :: starEach [] X.env := by rfl) (hplain : (backTo p (starEach [] X.env)).any (·.1) = false := by rfl) :
    semS X (.Expr (.Call (.Attribute o "extend" apos) [e] [] p) pos) D σ H :=
  to_s (ps_expr (pe_bm PySem.F.plainAttrs_list PySem.F.slot_list_extend PySem.F.type_list_extend mt_extend pe_sem (pa_cons pe_sem pa_nil hst) hbase hfew hline hst hplain) hs) (ha H (Ex.refl H) _ fun _ H1 e1 g1 => by
    cases g1
    exact ⟨Or.inl ⟨rfl, xs, sq_of (e1 l _ hl)⟩, h H1 e1 _ fun v H2 e2 g2 => by
      obtain ⟨q, rfl, _, hq⟩ := g2
      exact ⟨l, q, xs, zs, rfl, rfl, e2 l _ (e1 l _ hl), hq, sz_of hz, k H2 (e1.trans e2)⟩⟩)
/-- found.append(left.pop(i)) -/
theorem s_appPop {f l : Addr} {xs ys : List V} {i : Int} {kk : Nat} {y : V} (hf : H f = some (.lst xs)) (hl : H l = some (.lst ys)) (ne : f ≠ l) (ho : XV X σ H o (.ref f)) (ha : XV X σ H a (.ref l)) (hb : XV X σ H b (.int i)) (hi : i = (kk : Int)) (hk : ys[kk]? = some y) (hz : xs.length < 1000) (hz2 : ys.length < 1000)
    (k : ∀ H1, Ex H H1 → D.nx σ (upd (upd H1 l (.lst (ys.eraseIdx kk))) f (.lst (xs ++ [y]))))
    (hs : swapsWith (.Call (.Attribute o "append" apos) [.Call (.Attribute a "pop" bpos) [b] [] p2] [] p) none pos.line X.env = pure false := by rfl)
    (hbase : attributeBase o "append" X.env (eval o X.env) = eval o X.env := by rfl)
    (hfew : ((backTo p (starEach [.Call (.Attribute a "pop" bpos) [b] [] p2] X.env)).all (fun x => !x.1) && (backToKw p (keywordEach [] X.env)).all (fun x => x.1.isSome)
      && decide ([Expr.Call (.Attribute a "pop" bpos) [b] [] p2].length + ([] : List Keyword).length + (if ([] : List Keyword).isEmpty then 0 else 1) < 30)) = true := by rfl)
    (hline : (apos.endLine == p.line) = true := by rfl) (hst : starEach [.Call (.Attribute a "pop" bpos) [b] [] p2] X.env = (false, eval (.Call (.Attribute a "pop" bpos) [b] [] p2) X.env) :: starEach [] X.env := by rfl) (hplain : (backTo p (starEach [] X.env)).any (·.1) = false := by rfl)
    (hbase2 : attributeBase a "pop" X.env (eval a X.env) = eval a X.env := by rfl)
    (hfew2 : ((backTo p2 (starEach [b] X.env)).all (fun x => !x.1) && (backToKw p2 (keywordEach [] X.env)).all (fun x => x.1.isSome)
      && decide ([b].length + ([] : List Keyword).length + (if ([] : List Keyword).isEmpty then 0 else 1) < 30)) = true := by rfl)
    (hline2 : (bpos.endLine == p2.line) = true := by rfl) (hst2 : starEach [b] X.env = (false, eval b X.env) :: starEach [] X.env := by rfl) (hplain2 : (backTo p2 (starEach [] X.env)).any (·.1) = false := by rfl) :
    semS X (.Expr (.Call (.Attribute o "append" apos) [.Call (.Attribute a "pop" bpos) [b] [] p2] [] p) pos) D σ H :=
  to_s (ps_expr (pe_bm PySem.F.plainAttrs_list PySem.F.slot_list_append PySem.F.type_list_append mt_append pe_sem (pa_cons (pe_bm PySem.F.plainAttrs_list PySem.F.slot_list_pop PySem.F.type_list_pop mt_popAt pe_sem (pa_cons pe_sem pa_nil hst2) hbase2 hfew2 hline2 hst2 hplain2) pa_nil hst) hbase hfew hline hst hplain) hs) (ho H (Ex.refl H) _ fun _ H1 e1 g1 => by
    cases g1
    refine ⟨Or.inl ⟨rfl, xs, sq_of (e1 f _ hf)⟩, ha H1 e1 _ fun _ H2 e2 g2 => ?_⟩
    cases g2
    refine ⟨Or.inl ⟨rfl, ys, sq_of ((e1.trans e2) l _ hl)⟩, hb H2 (e1.trans e2) _ fun _ H3 e3 g3 => ?_⟩
    cases g3
    have hlt := (List.getElem?_eq_some_iff.mp hk).1
    refine ⟨l, ys, i, kk, y, rfl, rfl, ((e1.trans e2).trans e3) l _ hl, by omega, by omega, ?_, hk, ?_⟩
    · have := (ixN_seq (n := ys.length) (i := i) (j := kk) (by unfold ixN; rw [hi, if_pos (by omega), if_pos (by omega), Int.toNat_natCast])).1
      exact this
    · exact ⟨f, xs, y, rfl, rfl, by rw [upd_ne ne]; exact ((e1.trans e2).trans e3) f _ hf, sz_lt (by omega), k H3 ((e1.trans e2).trans e3)⟩)
end
end Ck

set_option maxRecDepth 100000
set_option maxHeartbeats 4000000
namespace Ck
open PySem PySem.Spec PyProof.Rows L2 Evl
/-! ### the law's own helpers -/
def lbeF (h w c : Int) : List Int := ((([] ++ (if 0 < c % w then [c - 1] else [])) ++ (if c % w < w - 1 then [c + 1] else [])) ++ (if w ≤ c then [c - w] else [])) ++ (if c + w < h * w then [c + w] else [])
theorem div_pos_iff {w c : Int} (hw : 0 < w) : 0 < c / w ↔ w ≤ c := by
  have d := Int.emod_add_mul_ediv c w
  have m0 := Int.emod_nonneg c (by omega : w ≠ 0)
  have m1 := Int.emod_lt_of_pos c hw
  refine ⟨fun h => ?_, fun h => ?_⟩
  · have : w * 1 ≤ w * (c / w) := Int.mul_le_mul_of_nonneg_left (by omega) (by omega)
    omega
  · refine Classical.byContradiction fun hn => ?_
    have : w * (c / w) ≤ w * 0 := Int.mul_le_mul_of_nonneg_left (by omega) (by omega)
    omega
theorem div_lt_iff {h w c : Int} (hw : 0 < w) : c / w < h - 1 ↔ c + w < h * w := by
  have d := Int.emod_add_mul_ediv c w
  have m0 := Int.emod_nonneg c (by omega : w ≠ 0)
  have m1 := Int.emod_lt_of_pos c hw
  have e : h * w = w * h := Int.mul_comm _ _
  refine ⟨fun hh => ?_, fun hh => ?_⟩
  · have : w * (c / w + 2) ≤ w * h := Int.mul_le_mul_of_nonneg_left (by omega) (by omega)
    rw [Int.mul_add] at this
    omega
  · refine Classical.byContradiction fun hn => ?_
    have : w * (h - 1) ≤ w * (c / w) := Int.mul_le_mul_of_nonneg_left (by omega) (by omega)
    rw [Int.mul_sub] at this
    omega
theorem perm4 {α : Type} (A B C D : List α) : (((A ++ B) ++ C) ++ D).Perm (C ++ (A ++ (B ++ D))) := by
  have := (List.perm_append_comm (l₁ := A ++ B) (l₂ := C)).append_right D
  simpa [List.append_assoc] using this
theorem erase_map {α β : Type} (f : α → β) : ∀ (L : List α) (k : Nat), (L.map f).eraseIdx k = (L.eraseIdx k).map f
  | [], _ => rfl
  | a :: L, 0 => rfl
  | a :: L, k + 1 => by
    show f a :: (L.map f).eraseIdx k = f a :: (L.eraseIdx k).map f
    rw [erase_map f L k]
theorem erase_perm {α : Type} : ∀ (L : List α) (k : Nat) (h : k < L.length), (L[k] :: L.eraseIdx k).Perm L
  | [], _, h => absurd h (by simp)
  | a :: L, 0, _ => .refl _
  | a :: L, k + 1, h => by
    have ih := erase_perm L k (by simpa using h)
    have hk : k < L.length := by simpa using h
    show (L[k]'hk :: a :: L.eraseIdx k).Perm (a :: L)
    exact (List.Perm.swap a _ _).trans (ih.cons a)
theorem lbe_perm {F : Fl} (fo : FlOk F) (c : Int) : (lbeF F.h F.w c).Perm (besideF F c) := by
  have w1 := fo.w1
  unfold lbeF besideF
  simp only [div_pos_iff (show 0 < F.w by omega), div_lt_iff (show 0 < F.w by omega), List.nil_append]
  exact perm4 _ _ _ _
theorem lbe_nodup (h : Int) {w c : Int} (hw : 1 ≤ w) : (lbeF h w c).Nodup := by
  have m0 := Int.emod_nonneg c (by omega : w ≠ 0)
  have m1 := Int.emod_lt_of_pos c (by omega : 0 < w)
  unfold lbeF
  split <;> split <;> split <;> split <;> simp <;> omega
theorem lbe_len (h w c : Int) : (lbeF h w c).length ≤ 4 := by
  unfold lbeF
  simp only [List.length_append]
  split <;> split <;> split <;> split <;> simp
section
variable {P : Program} {w : World} {K : PySem.W.Frag} {mg : Str → Option Value} {base : Heap}
def rCellAt (K : PySem.W.Frag) : Rl := fun vs H r => ∃ (l : Addr) (ns : List Int) (k : Nat), vs = [.ref l, .int k] ∧ SqL K H l (ns.map V.int) ∧ r = .val (.int (ns.getD k 0))
theorem sc_lawcellat : FnScope ["_law_script", "_law_k"] ["_law_script", "_law_k"] (defScope (top 85)) := ⟨rfl, rfl, rfl, by decide +kernel, rfl, by decide +kernel, by decide +kernel⟩
theorem ok_lawcellat (T : Top w K mg base) : DF P w K mg base 1 "_law_cell_at" ["_law_script", "_law_k"] (rCellAt K) := by
  obtain ⟨f, fd, hm, F⟩ := T.defG "_law_cell_at" 85
  have S := sc_lawcellat
  refine ⟨f, fg_of F S (fun vs H r h => ?_) (fun _ _ _ _ _ _ us hl => match us, hl with | [_, _], _ => rfl) (fun cdv A outer s H E vs r hr h => ?_), hm, F.kp⟩
  · obtain ⟨_, _, _, rfl, _⟩ := h
    rfl
  · obtain ⟨l, ns, k, rfl, hl, rfl⟩ := h
    refine q_when (t_c (c_lt (x_v 1) (x_len (x_v 0) (.inl hl) (T.free "len")))) (fun hb H1 k1 => ?_) (fun hb H1 k1 => ?_)
    · have hb := of_decide_eq_true hb
      rw [List.length_map] at hb
      exact s_one (r_ret k1 (x_ixL (x_v 0) (x_v 1) (ex_l k1 hl) (at_ints (by omega))))
    · have hb := of_decide_eq_false hb
      rw [List.length_map] at hb
      refine q_retV k1 x_int ?_
      rw [List.getD_eq_getElem?_getD, List.getElem?_eq_none (by omega)]
      rfl
def Perms (cs : List Int) : Rt := .gen fun v H => ∃ (q : Addr) (ns : List Int), v = .ref q ∧ H q = some (.lst (ns.map V.int)) ∧ ns.Perm cs
def rOrder : Rl := fun vs H r => ∃ num many : Int, vs = [.int num, .int many] ∧ 0 ≤ many ∧ many ≤ 100 ∧ r = Perms (cellsF many)
theorem cells_len (n : Int) : (cellsF n).length = n.toNat := by unfold cellsF; simp
theorem sc_laworder : FnScope ["_law_number", "_law_many", "_law_left", "_law_found", "_law_k"] ["_law_number", "_law_many"] (defScope (top 86)) := ⟨rfl, rfl, rfl, by decide +kernel, rfl, by decide +kernel, by decide +kernel⟩
theorem ok_laworder (T : Top w K mg base) : DF P w K mg base 1 "_law_order" ["_law_number", "_law_many"] rOrder := by
  obtain ⟨f, fd, hm, F⟩ := T.defG "_law_order" 86
  have S := sc_laworder
  refine ⟨f, fg_of F S (fun vs H r h => ?_) (fun _ _ _ _ _ _ us hl => match us, hl with | [_, _], _ => rfl) (fun cdv A outer s H E vs r hr h => ?_), hm, F.kp⟩
  · obtain ⟨_, _, rfl, _⟩ := h
    rfl
  · obtain ⟨num, many, rfl, m0, m1, rfl⟩ := h
    refine q_set 2 S.nd (x_listR (x_v 1) (by omega) (T.free "list") (T.free "range")) fun v H1 k1 gg => ?_
    obtain ⟨l, rfl, nl, hl⟩ := gg
    refine q_set 3 S.nd (x_lst (vs := []) e_nil (by decide)) fun v H2 k2 gg => ?_
    obtain ⟨g, rfl, ng, hg⟩ := gg
    have gl : g ≠ l := fun z => by rw [z, hl] at ng; cases ng
    have ng0 : H g = none := fresh_back k1 ng
    refine s_seq (s_forR 4 S.nd (x_v 1) (by omega) (T.free "range") (fun i σ' H' => (∃ x, σ' = [some (.int num), some (.int many), some (.ref l), some (.ref g), x]) ∧ Ex H H' ∧ ∃ L Fd : List Int, H' l = some (.lst (L.map V.int)) ∧ H' g = some (.lst (Fd.map V.int)) ∧ (Fd ++ L).Perm (cellsF many) ∧ Fd.length = i)
      (fun H3 k3 => ⟨⟨none, rfl⟩, (k1.trans k2).trans k3, cellsF many, [], k3 l _ (k2 l _ hl), k3 g _ hg, .refl _, rfl⟩) ?_ ?_)
    · rintro i σ' H3 hi ⟨⟨x, rfl⟩, hE, L, Fd, hL, hF, hp, hlen⟩
      have hll := hp.length_eq
      rw [List.length_append, cells_len] at hll
      have lp : (0 : Int) < ((L.map V.int).length : Nat) := by rw [List.length_map]; omega
      have r0 := Int.emod_nonneg (num / (2 * (i : Int) + 3)) (show (((L.map V.int).length : Nat) : Int) ≠ 0 by omega)
      have r1 := Int.emod_lt_of_pos (num / (2 * (i : Int) + 3)) lp
      have hk : ((num / (2 * (i : Int) + 3)) % (((L.map V.int).length : Nat) : Int)).toNat < L.length := by
        have := List.length_map V.int (as := L)
        omega
      refine s_one (s_appPop (y := .int (L[((num / (2 * (i : Int) + 3)) % (((L.map V.int).length : Nat) : Int)).toNat])) hF hL gl (x_v 3) (x_v 2) (x_mod (x_div (x_v 0) (x_add (x_mul x_int (x_v 4) (.inl ⟨by omega, by omega⟩)) x_int) (by omega)) (x_len (x_v 2) (.inl (SqL.of hL)) (T.free "len")) lp) (Int.toNat_of_nonneg r0).symm (by rw [List.getElem?_map, List.getElem?_eq_getElem hk]; rfl) (by rw [List.length_map]; omega) (by rw [List.length_map]; omega) fun H4 k4 => ?_)
      generalize hkk : ((num / (2 * (i : Int) + 3)) % (((L.map V.int).length : Nat) : Int)).toNat = kk at hk ⊢
      refine ⟨⟨_, rfl⟩, Ex.mut (Ex.mut (hE.trans k4) nl) ng0, L.eraseIdx kk, Fd ++ [L[kk]], ?_, ?_, ?_, by simp; omega⟩
      · rw [upd_ne (Ne.symm gl), upd_same, erase_map]
      · rw [upd_same, List.map_append]
        rfl
      · rw [List.append_assoc]
        exact ((erase_perm L kk hk).append_left Fd).trans hp
    · rintro σ' H3 ⟨⟨x, rfl⟩, hE, L, Fd, hL, hF, hp, hlen⟩
      have hll := hp.length_eq
      rw [List.length_append, cells_len] at hll
      have eL : L = [] := List.length_eq_zero_iff.mp (by omega)
      rw [eL, List.append_nil] at hp
      exact s_one (r_ret (r := Perms (cellsF many)) hE ((x_v (v := .ref g) 3).weak fun v H8 H9 e8 e9 gg => by
        cases gg
        exact ⟨g, Fd, rfl, (e8.trans e9) g _ hF, hp⟩))
def rLbe : Rl := fun vs H r => ∃ h w c : Int, vs = [.int h, .int w, .int c] ∧ 1 ≤ w ∧ w ≤ 10 ∧ r = .lst ((lbeF h w c).map V.int)
theorem sc_lawbeside : FnScope ["_law_high", "_law_wide", "_law_cell", "_law_found"] ["_law_high", "_law_wide", "_law_cell"] (defScope (top 87)) := ⟨rfl, rfl, rfl, by decide +kernel, rfl, by decide +kernel, by decide +kernel⟩
theorem ok_lawbeside (T : Top w K mg base) : DF P w K mg base 1 "_law_beside" ["_law_high", "_law_wide", "_law_cell"] rLbe := by
  obtain ⟨f, fd, hm, F⟩ := T.defG "_law_beside" 87
  have S := sc_lawbeside
  refine ⟨f, fg_of F S (fun vs H r h => ?_) (fun _ _ _ _ _ _ us hl => match us, hl with | [_, _, _], _ => rfl) (fun cdv A outer s H E vs r hr h => ?_), hm, F.kp⟩
  · obtain ⟨_, _, _, rfl, _⟩ := h
    rfl
  · obtain ⟨hh, ww, c, rfl, w1, w2, rfl⟩ := h
    refine q_set 3 S.nd (x_lst (vs := []) e_nil (by decide)) fun v H1 k1 gg => ?_
    obtain ⟨l, rfl, nl, hl⟩ := gg
    have m : ∀ (X : Cx) (a b : Expr), True := fun _ _ _ => trivial
    refine q_appIf hl k1 nl (t_c (c_gt (x_mod (x_v 2) (x_v 1) (by omega)) x_int)) (x_v 3) (x_sub (x_v 2) x_int) (by decide) fun H4 e4 h4 => ?_
    refine q_appIf h4 e4 nl (t_c (c_lt (x_mod (x_v 2) (x_v 1) (by omega)) (x_sub (x_v 1) x_int))) (x_v 3) (x_add (x_v 2) x_int) (by split <;> simp) fun H5 e5 h5 => ?_
    refine q_appIf h5 e5 nl (t_c (c_ge (x_v 2) (x_v 1))) (x_v 3) (x_sub (x_v 2) (x_v 1)) (by split <;> split <;> simp) fun H6 e6 h6 => ?_
    refine q_appIf h6 e6 nl (t_c (c_lt (x_add (x_v 2) (x_v 1)) (x_mul (x_v 0) (x_v 1) (.inr ⟨by omega, by omega⟩)))) (x_v 3) (x_add (x_v 2) (x_v 1)) (by split <;> split <;> split <;> simp) fun H7 e7 h7 => ?_
    refine s_one (s_ret (x_v 3) fun v H8 e8 g => ?_)
    cases g
    refine ⟨e7.trans e8, l, rfl, nl, ?_⟩
    rw [e8 l _ h7]
    unfold lbeF
    simp only [List.map_append, List.nil_append, apply_ite (List.map V.int), List.map_cons, List.map_nil]
end
/-! ### a region that is met by a walk meets the rule -/
theorem firstMet_nodup (val : Nat → Int) : ∀ n, (PyProof.Rows.firstMet val n).Nodup
  | 0 => List.nodup_nil
  | n + 1 => by
    have ih := firstMet_nodup val n
    rw [PyProof.Rows.firstMet_succ]
    unfold PyProof.Rows.step_dedup
    split
    · exact ih
    · next h => exact List.nodup_append.mpr ⟨ih, by simp, fun a ha b hb e => h (by rw [List.mem_singleton] at hb; rw [← hb, ← e]; exact List.any_eq_true.mpr ⟨a, ha, by simp⟩)⟩
theorem all_in {ns cs : List Int} (h : unlikes ns = cs.length) (hs : ∀ x ∈ ns, x ∈ cs) (hc : cs.Nodup) : ∀ x ∈ cs, x ∈ ns := by
  intro x hx
  refine Classical.byContradiction fun hn => ?_
  have em : ∀ k, k ∈ PyProof.Rows.firstMet (fun i => ns.getD i 0) ns.length → k ∈ ns := fun k hk => by
    obtain ⟨i, hi, rfl⟩ := List.mem_map.mp ((met_mem ns ns.length k).mp hk)
    have hi := List.mem_range.mp hi
    rw [List.getD_eq_getElem?_getD, List.getElem?_eq_getElem hi]
    exact List.getElem_mem hi
  have nd := firstMet_nodup (fun i => ns.getD i 0) ns.length
  have := nodup_len (xs := x :: PyProof.Rows.firstMet (fun i => ns.getD i 0) ns.length) (ys := cs) (List.nodup_cons.mpr ⟨fun z => hn (em x z), nd⟩) fun y hy => by
    rcases List.mem_cons.mp hy with rfl | hy
    · exact hx
    · exact hs y (em y hy)
  unfold unlikes at h
  rw [List.length_cons] at this
  omega
theorem rawC_cells (n : Nat) : rawC n = cellsF (n : Int) := by
  unfold rawC cellsF
  rw [Int.toNat_natCast]
  exact List.map_congr_left fun i _ => Int.zero_add _
/-- the cells with the sign -/
def withC (fl : List Int) (s : Int) : List Int := (rawC fl.length).filter fun c => decide (vF fl c = s)
def regionR (F : Fl) (k : Kd) (s : Int) : Ru := ⟨k, cellsF (F.h * F.w), 0, s⟩
theorem withC_is {F : Fl} {k : Kd} {s : Int} {fl : List Int} (hl : (fl.length : Int) = F.h * F.w) : withF (regionR F k s) fl = withC fl s := by
  unfold withF withC regionR
  rw [rawC_cells, hl]
theorem cells_nodup (n : Int) : (cellsF n).Nodup := by
  unfold cellsF
  exact List.Pairwise.map _ (fun a b (h : a ≠ b) => show (a : Int) ≠ (b : Int) by omega) List.nodup_range
theorem withC_nodup (fl : List Int) (s : Int) : (withC fl s).Nodup := by
  unfold withC
  rw [rawC_cells]
  exact (cells_nodup _).sublist List.filter_sublist
def threeF (w c : Int) : List Int := [c + 1, c + w, c + w + 1]
structure RegF (F : Fl) (k : Kd) (s : Int) (fl : List Int) (c : Int) : Prop where
  ring : k = .ring → ((lbeF F.h F.w c).filter fun x => decide (x ∈ withC fl s)).length = 2
  sq : k = .nosquare → ¬ (c % F.w < F.w - 1 ∧ ((threeF F.w c).filter fun x => decide (x ∈ withC fl s)).length = 3)
theorem reg_joined {F : Fl} {s : Int} {fl ns : List Int} (hu : unlikes ns = (withC fl s).length) (hs : ∀ a r, withC fl s = a :: r → ∀ x ∈ ns, Reach F (withC fl s) a x) (hin : ∀ x ∈ ns, x ∈ withC fl s) : JoinedP F (withC fl s) := fun a r e x hx => hs a r e x (all_in hu hin (withC_nodup fl s) x hx)
theorem reg_holds {F : Fl} (fo : FlOk F) {k : Kd} (hk : k = .joined ∨ k = .nosquare ∨ k = .ring) {s : Int} {fl : List Int} (hl : (fl.length : Int) = F.h * F.w) (h : ∀ c ∈ withC fl s, RegF F k s fl c) (hj : k = .nosquare ∨ JoinedP F (withC fl s)) : holdsP F (regionR F k s) fl := by
  have ew := withC_is (F := F) (k := k) (s := s) hl
  rcases hk with rfl | rfl | rfl
  · show JoinedP F (withF (regionR F .joined s) fl)
    rw [ew]
    rcases hj with hj | hj
    · cases hj
    · exact hj
  · show ∀ q ∈ squaresF F, ¬ (q.filter fun c => decide (vF fl c = s)).length = 4
    intro q hq h4
    obtain ⟨_, hin⟩ := sq_in fo hq
    obtain ⟨c, hc, hcor, rfl⟩ := mem_squares hq
    have hall : ∀ x ∈ squareF F c, vF fl x = s := by
      have : (squareF F c).filter (fun c => decide (vF fl c = s)) = squareF F c := by
        refine List.filter_sublist.eq_of_length ?_
        rw [h4]
        rfl
      intro x hx
      rw [← this] at hx
      exact of_decide_eq_true (List.mem_filter.mp hx).2
    have mem : ∀ x ∈ squareF F c, x ∈ withC fl s := fun x hx => by
      have hb := hin x hx
      unfold withC
      refine List.mem_filter.mpr ⟨?_, decide_eq_true (hall x hx)⟩
      rw [rawC_cells, hl]
      unfold cellsF
      exact List.mem_map.mpr ⟨x.toNat, List.mem_range.mpr (by omega), by omega⟩
    refine (h c (mem c (by unfold squareF; simp))).sq rfl ⟨?_, ?_⟩
    · unfold isCorner at hcor
      exact of_decide_eq_true (Bool.and_eq_true_iff.mp hcor).2
    · unfold threeF
      rw [List.filter_eq_self.mpr]
      · rfl
      · intro x hx
        exact decide_eq_true (mem x (by unfold squareF; simp at hx ⊢; exact .inr hx))
  · show (∀ c ∈ withF (regionR F .ring s) fl, ((besideF F c).filter fun x => decide (x ∈ withF (regionR F .ring s) fl)).length = 2) ∧ JoinedP F (withF (regionR F .ring s) fl)
    rw [ew]
    refine ⟨fun c hc => ?_, ?_⟩
    · rw [← ((lbe_perm fo c).filter _).length_eq]
      exact (h c hc).ring rfl
    · rcases hj with hj | hj
      · cases hj
      · exact hj
end Ck

set_option maxRecDepth 100000
set_option maxHeartbeats 4000000
namespace Ck
open PySem PySem.Spec PyProof.Rows L2 Evl
section
variable {P : Program} {w : World} {K : PySem.W.Frag} {mg : Str → Option Value} {base : Heap}
def rRegion : Rl := fun vs H r => ∃ (F : Fl) (k : Kd) (s : Int) (q : Addr) (fl : List Int), vs = [.int F.h, .int F.w, .str k.word, .int s, .ref q] ∧ FlOk F ∧ (k = .joined ∨ k = .nosquare ∨ k = .ring) ∧ FiAt F H q fl ∧ r = Yes (holdsP F (regionR F k s) fl)
theorem sc_lawregion : FnScope ["_law_high", "_law_wide", "_law_word", "_law_sign", "_law_filling", "_law_cell", "_law_cells", "_law_near", "_law_three", "_law_reach", "_law_k", "_law_other", "_law_one"] ["_law_high", "_law_wide", "_law_word", "_law_sign", "_law_filling"] (defScope (top 88)) := ⟨rfl, rfl, rfl, by decide +kernel, rfl, by decide +kernel, by decide +kernel⟩
theorem ok_lawregion (T : Top w K mg base) : DF P w K mg base 2 "_law_region" ["_law_high", "_law_wide", "_law_word", "_law_sign", "_law_filling"] rRegion := by
  obtain ⟨f, fd, hm, F⟩ := T.defG "_law_region" 88
  have S := sc_lawregion
  refine ⟨f, fg_of F S (fun vs H r h => ?_) (fun _ _ _ _ _ _ us hl => match us, hl with | [_, _, _, _, _], _ => rfl) (fun cdv A outer s H E vs r hr h => ?_), hm, F.kp⟩
  · obtain ⟨_, _, _, _, _, rfl, _⟩ := h
    rfl
  · obtain ⟨F, kd, sg, q, fl, rfl, fo, hk, ⟨hq, hl⟩, rfl⟩ := h
    have hw := fo.hw
    have w1 := fo.w1
    have w6 := fo.w6
    have nd := withC_nodup fl sg
    have wl : (withC fl sg).length ≤ 16 := by
      refine Nat.le_trans (List.length_filter_le _ _) ?_
      rw [rawC_cells, cells_len]
      omega
    refine q_set 6 S.nd (x_l (l_RI (lo := 0) (m := fl.length) 5 (fun c => decide (vF fl c = sg)) V.int S.nd (@blkOk_by ["_law_high", "_law_wide", "_law_word", "_law_sign", "_law_filling", "_law_cell", "_law_cells", "_law_near", "_law_three", "_law_reach", "_law_k", "_law_other", "_law_one"] (defScope (top 88)) _ _ (by decide +kernel)) (pi_range1 rfl (T.free "range") (pa_cons pe_sem pa_nil))
      (fun H1 k R q' => pr_1 (x_len (x_v 4) (.inl (SqL.of (k q _ hq))) (T.free "len")) (by rw [List.length_map]; omega) H1 (Ex.refl H1) R fun H2 k2 => by rw [List.length_map, Int.toNat_natCast]; exact q' H2 k2) (by omega)
      (fun s' H0 cl C fp i H1 hi k => ts_one (t_c (c_eqI (x_ixL (x_v 4) (x_v 5) (SqL.of (k q _ hq)) (may_at hi)) (x_v 3)))) fun s' H0 cl C fp i H1 hi hp k => x_v 5)) fun v H1 k1 gg => ?_
    obtain ⟨l, rfl, _, hc⟩ := gg
    have hc : H1 l = some (.lst ((withC fl sg).map V.int)) := hc
    refine s_seq (s_forL 5 S.nd (x_v 6) (SqL.of hc) (fun i σ' H' => (∃ x0 x1 x2, σ' = [some (.int F.h), some (.int F.w), some (.str kd.word), some (.int sg), some (.ref q), x0, some (.ref l), x1, x2, none, none, none, none]) ∧ Ex H1 H' ∧ ∀ j c, j < i → (withC fl sg)[j]? = some c → RegF F kd sg fl c)
      (fun H2 k2 => ⟨⟨none, none, none, rfl⟩, k2, fun j _ hj => by omega⟩) (fun i σ' H' _ z => SqL.of (z.2.1 l _ hc)) ?_ ?_)
    · rintro i y σ' H2 hy ⟨⟨x0, x1, x2, rfl⟩, k2, hno⟩
      obtain ⟨c, hcx, rfl⟩ := at_intsI hy
      have bl := lbe_len F.h F.w c
      refine q_setV 7 S.nd (x_lenN (x_l (l_I 11 (fun y => decide (y ∈ withC fl sg)) V.int S.nd (@blkOk_by ["_law_high", "_law_wide", "_law_word", "_law_sign", "_law_filling", "_law_cell", "_law_cells", "_law_near", "_law_three", "_law_reach", "_law_k", "_law_other", "_law_one"] (defScope (top 88)) _ _ (by decide +kernel)) (x_call (ok_lawbeside T) hr (e_cons (x_v 0) (e_cons (x_v 1) (e_1 (x_v 5)))) fun H3 k3 => ⟨F.h, F.w, c, rfl, w1, by omega, rfl⟩) hrN (by omega)
        (fun s' H0 cl C fp y H3 hy k => ts_one (t_c (c_inI (x_v 11) (x_v 6) (k l _ (k2 l _ hc))))) (fun s' H0 cl C fp y H3 hy hp k => x_v 11))) (T.free "len")) fun H3 k3 => ?_
      have hc3 := (k2.trans k3) l _ hc
      refine q_when (t_and (t_c (c_eqS (x_v 2) x_str)) fun _ => t_c (c_neI (x_v 7) x_int)) (fun hb H4 k4 => ?_) (fun hb H4 k4 => ?_)
      · exact s_one (r_ret (((k1.trans k2).trans k3).trans k4) (XG.yes x_bl fun z => by cases z))
      · refine q_set 8 S.nd (x_lst (vs := (threeF F.w c).map V.int) (e_cons (x_add (x_v 5) x_int) (e_cons (x_add (x_v 5) (x_v 1)) (e_1 (x_add (x_add (x_v 5) (x_v 1)) x_int)))) (by unfold threeF; simp)) fun v H5 k5 gg => ?_
        obtain ⟨t, rfl, _, ht⟩ := gg
        have hc5 := (k4.trans k5) l _ hc3
        refine s_one (s_when (t_w (w_and (t_c (c_eqS (x_v 2) x_str)) fun _ => w_and (t_c (c_lt (x_mod (x_v 5) (x_v 1) (by omega)) (x_sub (x_v 1) x_int))) fun _ => w_and1 (t_c (c_eqI (x_lenN (x_l (l_I 12 (fun y => decide (y ∈ withC fl sg)) V.int S.nd (@blkOk_by ["_law_high", "_law_wide", "_law_word", "_law_sign", "_law_filling", "_law_cell", "_law_cells", "_law_near", "_law_three", "_law_reach", "_law_k", "_law_other", "_law_one"] (defScope (top 88)) _ _ (by decide +kernel)) (x_v 8) (hrL ht) (by unfold threeF; simp)
          (fun s' H0 cl C fp y H6 hy k => ts_one (t_c (c_inI (x_v 12) (x_v 6) (k l _ hc5)))) (fun s' H0 cl C fp y H6 hy hp k => x_v 12))) (T.free "len")) x_int)))) (fun hb2 H6 k6 => ?_) (fun hb2 H6 k6 => ?_))
        · exact s_one (r_ret (((((k1.trans k2).trans k3).trans k4).trans k5).trans k6) (XG.yes x_bl fun z => by cases z))
        · refine ⟨⟨_, _, _, rfl⟩, (((k2.trans k3).trans k4).trans k5).trans k6, fun j c' hj hcj => ?_⟩
          by_cases hji : j < i
          · exact hno j c' hji hcj
          · have ej : j = i := by omega
            have ec : c' = c := Option.some.inj (hcj.symm.trans (by rw [ej]; exact hcx))
            rw [ec]
            simp only [List.length_map, Bool.and_eq_false_iff, decide_eq_false_iff_not, Bool.not_eq_false', decide_eq_true_eq] at hb hb2
            refine ⟨fun e => ?_, fun e z => ?_⟩
            · subst e
              rcases hb with hb | hb
              · exact absurd rfl hb
              · omega
            · subst e
              rcases hb2 with hb2 | hb2 | hb2
              · exact absurd rfl hb2
              · exact hb2 z.1
              · exact hb2 (by have := z.2; omega)
    · rintro σ' H2 ⟨⟨x0, x1, x2, rfl⟩, k2, hno⟩
      have hreg : ∀ c ∈ withC fl sg, RegF F kd sg fl c := fun c hcm => by
        obtain ⟨j, hj⟩ := List.mem_iff_getElem?.mp hcm
        exact hno j c (by rw [List.length_map]; exact (List.getElem?_eq_some_iff.mp hj).1) hj
      have hc2 := k2 l _ hc
      refine q_set 9 S.nd (x_to (k := 1) (x_v 6) x_int (SqL.of hc2)) fun v H3 k3 gg => ?_
      obtain ⟨g, rfl, ng, hg⟩ := gg
      have K3 := (k1.trans k2).trans k3
      have ng0 : H1 g = none := fresh_back k2 ng
      have gl : g ≠ l := fun z => by rw [z, hc] at ng0; cases ng0
      refine s_seq (s_forR 10 S.nd (x_len (x_v 6) (.inl (SqL.of (k3 l _ hc2))) (T.free "len")) (by rw [List.length_map]; omega) (T.free "range") (fun i σ' H' => (∃ y0 y3, σ' = [some (.int F.h), some (.int F.w), some (.str kd.word), some (.int sg), some (.ref q), y0, some (.ref l), x1, x2, some (.ref g), y3, none, none]) ∧ Ex H1 H' ∧ ∃ ns : List Int, H' g = some (.lst (ns.map V.int)) ∧ ns.Nodup ∧ (∀ x ∈ ns, x ∈ withC fl sg) ∧ ∀ a r, withC fl sg = a :: r → ∀ x ∈ ns, Reach F (withC fl sg) a x)
        (fun H4 k4 => ⟨⟨x0, none, rfl⟩, (k2.trans k3).trans k4, (withC fl sg).take 1, by rw [List.map_take]; exact k4 g _ hg, nd.sublist (List.take_sublist _ _), fun x hx => List.mem_of_mem_take hx, fun a r e x hx => ?_⟩) ?_ ?_)
      · rw [e] at hx ⊢
        have : x = a := by simpa using hx
        rw [this]
        exact .base List.mem_cons_self
      · rintro i σ' H4 hi ⟨⟨y0, y3, rfl⟩, hE, ns, hns, hnd, hin, hre⟩
        have nl := nodup_len hnd hin
        refine s_one (s_forN 5 S.nd (x_list (x_v 9) (.inl (SqL.of hns)) (T.free "list")) (fun m t σ' H' => (∃ y0, σ' = [some (.int F.h), some (.int F.w), some (.str kd.word), some (.int sg), some (.ref q), y0, some (.ref l), x1, x2, some (.ref g), some (.int i), none, none]) ∧ m ≠ g ∧ H' m = some (.lst (ns.map V.int)) ∧ Ex H1 H' ∧ ∃ ns' : List Int, H' g = some (.lst (ns'.map V.int)) ∧ ns'.Nodup ∧ (∀ x ∈ ns', x ∈ withC fl sg) ∧ ∀ a r, withC fl sg = a :: r → ∀ x ∈ ns', Reach F (withC fl sg) a x)
          (fun m H5 k5 nm hm => ⟨⟨y0, rfl⟩, fun z => (by rw [z, hns] at nm; cases nm), hm, hE.trans k5, ns, k5 g _ hns, hnd, hin, hre⟩) (fun m t σ' H' _ z => SqL.of z.2.2.1) ?_ ?_)
        · rintro m t y σ' H5 hy ⟨⟨y0, rfl⟩, mg_, hm, hE5, ns', hns', hnd', hin', hre'⟩
          obtain ⟨c, hcx, rfl⟩ := at_intsI hy
          have cm := List.mem_of_getElem? hcx
          have bl := lbe_len F.h F.w c
          have nl' := nodup_len hnd' hin'
          refine s_one (s_ext hns' (x_v 9) (x_l (l_I 12 (fun y => decide (y ∈ withC fl sg) && !decide (y ∈ ns')) V.int S.nd (@blkOk_by ["_law_high", "_law_wide", "_law_word", "_law_sign", "_law_filling", "_law_cell", "_law_cells", "_law_near", "_law_three", "_law_reach", "_law_k", "_law_other", "_law_one"] (defScope (top 88)) _ _ (by decide +kernel)) (x_call (ok_lawbeside T) hr (e_cons (x_v 0) (e_cons (x_v 1) (e_1 (x_v 5)))) fun H6 k6 => ⟨F.h, F.w, c, rfl, w1, by omega, rfl⟩) hrN (by omega)
            (fun s' H0 cl C fp y H6 hy k => ts_one (t_and (t_c (c_inI (x_v 12) (x_v 6) (k l _ (hE5 l _ hc)))) fun _ => t_c (c_niI (x_v 12) (x_v 9) (k g _ hns')))) (fun s' H0 cl C fp y H6 hy hp k => x_v 12))) (by
              have := List.length_filter_le (fun y => decide (y ∈ withC fl sg) && !decide (y ∈ ns')) (lbeF F.h F.w c)
              simp only [List.length_map]
              omega) fun H6 k6 => ?_)
          have fm : ∀ x ∈ (lbeF F.h F.w c).filter (fun y => decide (y ∈ withC fl sg) && !decide (y ∈ ns')), x ∈ lbeF F.h F.w c ∧ x ∈ withC fl sg ∧ x ∉ ns' := fun x hx => by
            obtain ⟨h1, h2⟩ := List.mem_filter.mp hx
            simp only [Bool.and_eq_true, Bool.not_eq_true', decide_eq_true_eq, decide_eq_false_iff_not] at h2
            exact ⟨h1, h2.1, h2.2⟩
          refine ⟨⟨_, rfl⟩, mg_, by rw [upd_ne mg_]; exact k6 m _ hm, Ex.mut (hE5.trans k6) ng0, ns' ++ (lbeF F.h F.w c).filter (fun y => decide (y ∈ withC fl sg) && !decide (y ∈ ns')), by rw [upd_same, List.map_append], ?_, ?_, ?_⟩
          · exact List.nodup_append.mpr ⟨hnd', (lbe_nodup F.h w1).sublist List.filter_sublist, fun a ha b hb e => (fm b hb).2.2 (by rw [← e]; exact ha)⟩
          · intro x hx
            rcases List.mem_append.mp hx with h | h
            · exact hin' x h
            · exact (fm x h).2.1
          · intro a r e x hx
            rcases List.mem_append.mp hx with h | h
            · exact hre' a r e x h
            · exact .step (hre a r e c cm) ((lbe_perm fo c).mem_iff.mp (fm x h).1) (fm x h).2.1
        · rintro m σ' H5 ⟨⟨y0, rfl⟩, mg_, hm, hE5, ns', hns', hnd', hin', hre'⟩
          exact ⟨⟨y0, _, rfl⟩, hE5, ns', hns', hnd', hin', hre'⟩
      · rintro σ' H4 ⟨⟨y0, y3, rfl⟩, hE, ns, hns, hnd, hin, hre⟩
        have nl := nodup_len hnd hin
        refine s_one (r_ret (k1.trans hE) (XG.yes (p := holdsP F (regionR F kd sg) fl) (x_or2 (x_c (c_eqS (x_v 2) x_str)) fun _ => x_c (c_eqI (x_lenSet (ns := ns) (x_v 9) (hrL hns) (by omega) (T.free "len") (T.free "set")) (x_len (x_v 6) (.inl (SqL.of (hE l _ hc))) (T.free "len")))) fun hb => reg_holds fo hk hl hreg ?_))
        simp only [Bool.or_eq_true, decide_eq_true_eq, List.length_map] at hb
        rcases hb with hb | hb
        · exact .inl (word_yes (j := .nosquare) hb)
        · exact .inr (reg_joined (by omega) hre hin)
end
end Ck

set_option maxRecDepth 100000
set_option maxHeartbeats 4000000
namespace Ck
open PySem PySem.Spec PyProof.Rows L2 Evl
/-! ### sorted(xs, key=lambda n: ns[n]) -/
def lamArgs (x : Str) (p : Pos) : Arguments := { posonlyargs := [], args := [{ arg := x, annotation := none, pos := p : PySem.Arg }], vararg := none, kwonlyargs := [], kw_defaults := [], kwarg := none, defaults := [] : PySem.Arguments }
def lamScope (x f : Str) : Scope := { kind := PySem.ScopeKind.function, names := [(x, PySem.NameKind.local), (f, PySem.NameKind.free)], isGenerator := false, isCoroutine := false, more := [] : PySem.Scope }
theorem lam_nocell : ∀ x ∈ (lamScope "_law_spot" "_law_filling").names, x.2 ≠ .cell := by decide +kernel
/-- the lambda called -/
theorem lam_call {prog : Program} {w : World} {A : Around} {s : Shared} {f c' cell fq : Addr} {qual : Str} {cl : List (Str × Addr)} {pm ctv : Value} {p0 p1 p2 p3 : Pos} {its : List Value} {i : Nat} {k : Int} {t tk : Tok}
    (ho : s.heap.get? f = some (PySem.W.kla_obj "<lambda>" qual (lamArgs "_law_spot" p0) (.Subscript (.Name "_law_filling" p1) (.Name "_law_spot" p2) p3) (lamScope "_law_spot" "_law_filling") cl pm c' ctv))
    (hrec : s.heap.CodeRec (.ref c') qual) (hroom : A.depth < recursionLimit) (hnl : s.heap.NoLimit) (hcl : cl.lookup ("_law_filling" : Str) = some cell) (hcell : s.heap.IsCell cell (some (.ref fq))) (hfl : s.heap.IsList fq its.toArray) (hi : its[i]? = some (.int k tk)) (hb : (i : Int) < 2 ^ 63) :
    wpAny (model prog w) A (call (.ref f) [.int (i : Int) t]) (PySem.W.KeyPure (.int k) s) (fun _ _ => False) s := by
  refine wpAny_call (PySem.W.kla_callFunE hroom ho rfl rfl rfl rfl hrec ?_)
  rw [show bindArgs (PySem.W.kla_fn "<lambda>" qual (lamArgs "_law_spot" p0) (.Subscript (.Name "_law_filling" p1) (.Name "_law_spot" p2) p3) (lamScope "_law_spot" "_law_filling") cl pm (.ref c') ctv) ⟨[.int (i : Int) t], []⟩ = pure [(("_law_spot" : Str), Value.int (i : Int) t)] from rfl]
  refine wpAny_pure (wpAny_newFunctionEnv lam_nocell (fun x hx => by rw [List.mem_singleton.mp hx]; rfl) (fun h₁ hns hsb => ⟨hnl.fresh _ hsb, ?_⟩) rfl)
  have kp : ∀ b o, s.heap.get? b = some o → h₁.get? b = some o := fun b o e => hsb.extBut b o (Nat.ne_of_lt (Heap.lt_size e)) (Heap.get?_push_of_some _ e)
  refine PySem.W.kla_codeExpr (wpAny_Subscript_Name PySem.slot_list_getitem.lookup (wpAny_Name (wpAny_loadName_free rfl rfl hcl (by obtain ⟨o, h1, h2⟩ := hcell; exact ⟨o, kp _ _ h1, h2⟩) (wpAny_Name (wpAny_loadName_local rfl rfl hns (v := .int (i : Int) t) rfl ?_)))))
  have hfl1 : h₁.IsList fq its.toArray := by
    obtain ⟨o, h1, h2⟩ := hfl
    exact ⟨o, kp _ _ h1, h2⟩
  refine ⟨hfl1.typeIs, wpAny_getItem_list hfl1 (by omega) hb (x := .int k tk) (by simpa using hi) ?_⟩
  exact ⟨h₁, _, rfl, kp, .int k tk⟩
/-- what sorted(xs, key=lambda n: ns[n]) asks, and what it gives -/
def tSL (T : List (Addr × Str)) (io ifl : Nat) : TE := fun σ H Q => ∃ (l fq : Addr) (ns fl : List Int), σ[io]? = some (some (.ref l)) ∧ σ[ifl]? = some (some (.ref fq)) ∧ H l = some (.lst (ns.map V.int)) ∧ H fq = some (.lst (fl.map V.int)) ∧ (∀ x ∈ ns, 0 ≤ x ∧ x < fl.length) ∧ LamX.Tabs T H ∧
  ∀ (H1 : Hp) (q : Addr) (ns' : List Int), LamX.ExtN H H1 → LamX.Tabs T H1 → H1 q = some (.lst (ns'.map V.int)) → ns'.Perm ns → ns'.Pairwise (fun a b => fl.getD a.toNat 0 ≤ fl.getD b.toNat 0) → Q (.ref q) H1
theorem cell_ne_lst {H : Hp} {T : List (Addr × Str)} : True := trivial
theorem ints_each : ∀ {ns : List Int} {its : List Value}, Vals (ns.map V.int) its → PySem.W.EachIs (fun v (x : Int) => ∃ t, v = Value.int x t) its ns
  | [], _, .nil => .nil
  | x :: ns, _, .cons h t => .cons h (ints_each t)
theorem each_ints : ∀ {ns : List Int} {its : List Value}, PySem.W.EachIs (fun v (x : Int) => ∃ t, v = Value.int x t) its ns → Vals (ns.map V.int) its
  | _, _, .nil => .nil
  | _, _, .cons h t => .cons h (each_ints t)
theorem pe_sortLam {X : Cx} {T : List (Addr × Str)} {c P : Addr} {io ifl : Nat} {p p1 p2 p3 p4 pl kp pos p0 : Pos} (TB : LamX.TabB X.base X.mg c P) (hcode : X.env.code = .ref c) (hm : (P, X.env.qual ++ "<lambda>") ∈ T) (hu : ∀ p ∈ T, p.1 = P → p.2 = X.env.qual ++ "<lambda>")
    (hr : Room 1 X.A) (hN : X.N[io]? = some "_law_order_here") (hv : Vis X.env.scope "_law_order_here") (hN2 : X.N[ifl]? = some "_law_filling") (hv2 : X.env.scope.names.lookup ("_law_filling" : Str) = some .cell)
    (hms : X.mg "sorted" = none) (hg : Gl X "sorted")
    (hst : starEach [.Name "_law_order_here" p1] X.env = (false, eval (.Name "_law_order_here" p1) X.env) :: starEach [] X.env)
    (he : backTo pos (starEach [.Name "_law_order_here" p1] X.env) = (false, eval (.Name "_law_order_here" p1) X.env) :: backTo pos (starEach [] X.env))
    (hpl : (backTo pos (starEach [.Name "_law_order_here" p1] X.env)).any (·.1) = false)
    (hall : (backToKw pos (keywordEach [⟨some "key", .Lambda (lamArgs "_law_spot" p0) (.Subscript (.Name "_law_filling" p2) (.Name "_law_spot" p3) p4) (lamScope "_law_spot" "_law_filling") pl, kp⟩] X.env)).all (·.1.isSome) = true)
    (hnone : (backToKw pos (keywordEach [⟨some "key", .Lambda (lamArgs "_law_spot" p0) (.Subscript (.Name "_law_filling" p2) (.Name "_law_spot" p3) p4) (lamScope "_law_spot" "_law_filling") pl, kp⟩] X.env)).any (·.1.isNone) = false)
    (hks : (backToKw pos (keywordEach [⟨some "key", .Lambda (lamArgs "_law_spot" p0) (.Subscript (.Name "_law_filling" p2) (.Name "_law_spot" p3) p4) (lamScope "_law_spot" "_law_filling") pl, kp⟩] X.env)).filterMap (·.1) = [Str.ofString "key"]) :
    PE X (.Call (.Name "sorted" p) [.Name "_law_order_here" p1] [⟨some "key", .Lambda (lamArgs "_law_spot" p0) (.Subscript (.Name "_law_filling" p2) (.Name "_law_spot" p3) p4) (lamScope "_law_spot" "_law_filling") pl, kp⟩] pos) (tSL T io ifl) := by
  refine ⟨fun pins s σ H Q I h => ?_⟩
  obtain ⟨l, fq, ns, fl, e1, e2, hl, hf, hin, hT, k⟩ := h
  refine wpAny_Call_Name_kw (ld_blt I hg hms (show bootBuiltins "sorted" = some (.builtin "sorted") by decide +kernel) ?_ (by decide) (by decide))
  have pa : PA X [.Name "_law_order_here" p1] (tCons (tVar io) tNil) := pa_cons (pe_var hN hv) pa_nil hst
  refine PyProof.Rows.callWith_kw (thn (pa.run pos pins s σ H (fun vs H1 => vs = [V.ref l] ∧ H1 = H) I ⟨.ref l, e1, rfl, rfl⟩) fun us s1 ⟨vs, H1, I1, r1, q1, q2⟩ => ?_) he hpl hall hnone
  subst q1 q2
  obtain rfl := Vals.ref1 r1
  obtain ⟨cell, hcell⟩ := I1.ok.has "_law_filling" (.inl hv2)
  show wpAny _ _ (evalAll ((do let v ← eval (.Lambda (lamArgs "_law_spot" p0) (.Subscript (.Name "_law_filling" p2) (.Name "_law_spot" p3) p4) (lamScope "_law_spot" "_law_filling") pl) X.env; standAt pos; pure v) :: [])) _ _ s1
  refine wpAny_evalAll_cons (wpAny_bind (LamX.lam_make2 I1 TB hcode hm hu hT rfl (fun y hy ey => ?_) fun f c' pm ctv H2 s2 I2 eN T2 hof hnf hfr hco => wpAny_bind (wpAny_standAt (wpAny_pure (wpAny_evalAll_nil ?_)))))
  · have hy : y ∈ [(("_law_spot" : Str), NameKind.local), (("_law_filling" : Str), NameKind.free)] := hy
    simp only [List.mem_cons, List.not_mem_nil, or_false] at hy
    rcases hy with rfl | rfl
    · cases ey
    · exact ⟨cell, hcell⟩
  · rw [hks]
    have nt : ∀ xs : List V, ∀ ps : Array Value, HO.lst xs ≠ .tbl ps := fun xs ps z => by cases z
    have hl2 := eN l _ hl (nt _)
    have hf2 := eN fq _ hf (nt _)
    obtain ⟨its, rv, pll, hz⟩ := I2.list (SqL.of hl2)
    obtain ⟨fits, rv2, pll2, hz2⟩ := I2.list (SqL.of hf2)
    have hcc : (cloFrom X.env.cells (lamScope "_law_spot" "_law_filling").names []).lookup ("_law_filling" : Str) = some cell := by
      show ([(("_law_filling" : Str), (X.env.cells.lookup ("_law_filling" : Str)).getD 0)] : List (Str × Addr)).lookup ("_law_filling" : Str) = some cell
      rw [hcell]
      rfl
    obtain ⟨m, hns, hloc⟩ := I2.loc
    obtain ⟨u, ru, lk⟩ := hloc ifl _ _ hN2 e2 (.inr (.inl hv2))
    obtain rfl : u = Value.ref fq := ru
    have hcv : s2.heap.IsCell cell (some (.ref fq)) := by
      rcases lk with ⟨z, _⟩ | ⟨_, c2, z1, z2⟩
      · have z : X.env.scope.names.lookup ("_law_filling" : Str) = some .local := z
        rw [hv2] at z
        cases z
      · rw [hcell] at z1
        cases z1
        exact z2
    obtain ⟨⟨oc, vs, t, hoc, hdc, hvc⟩, _, _⟩ := I2.hok c' _ hco
    have hu2 := hr.un
    have hd2 := hr.dp
    refine PySem.W.sorted_key_data (β := Int) (bs := ns) (R := fun v (x : Int) => ∃ t, v = Value.int x t) (kw := [(Str.ofString "key", .ref f)]) (b := false) (f := .ref f) (fun x : Int => PyData.int (fl.getD x.toNat 0)) pll.isList (ints_each rv) (PySem.W.AllAlike.of fun b b' => by simp [PySem.W.alike]) (PySem.W.Sortable.others fun b => ⟨fun z => (by cases z), fun xs z => (by cases z)⟩)
      (by rw [List.length_map] at hz; exact hz) (fun x _ => by show X.A.units + 2 + 0 < cLine; omega) (PyProof.Rows.ksk_s1 _ _) (fun _ => PyProof.Rows.ksk_l1 _ _) (fun _ => PyProof.Rows.ksk_t1 _ _) (fun v x hR hx h tk kp => ?_) fun out cc h' tk kp fr hout olen he2 => ?_
    · obtain ⟨t, rfl⟩ := hR
      obtain ⟨x0, x1⟩ := hin x hx
      obtain ⟨u, hu1, hu2'⟩ := rv2.get (i := x.toNat) (x := V.int (fl.getD x.toNat 0)) (by rw [List.getElem?_map, List.getElem?_eq_getElem (by omega), List.getD_eq_getElem?_getD, List.getElem?_eq_getElem (by omega)]; rfl)
      obtain ⟨tk2, rfl⟩ := hu2'
      have := lam_call (prog := X.prog) (w := X.w) (A := X.A.in1.in1) (s := { s2 with heap := h, toks := tk }) (i := x.toNat) (t := t) (kp _ _ hof) ⟨c', oc, vs, _, rfl, kp _ _ hoc, hdc, hvc⟩ (by show X.A.depth < recursionLimit; omega) (I2.nolimit.keeps kp) hcc (by obtain ⟨o, a, b⟩ := hcv; exact ⟨o, kp _ _ a, b⟩) (by obtain ⟨o, a, b⟩ := pll2.isList; exact ⟨o, kp _ _ a, b⟩) hu1 (by
        have := hz2
        rw [List.length_map] at this
        have := sizeLine_eq
        omega)
      rwa [Int.toNat_of_nonneg x0] at this
    · have vs' := each_ints he2
      have I3 := I2.laid (t' := tk) (a := s2.heap.objs.size + 1) (o := .lst ((ns.mergeSort (PySem.W.dataLe false fun x : Int => PyData.int (fl.getD x.toNat 0))).map V.int)) kp (Nat.le_succ _) (show ObjOk X.prog X.w _ _ _ (.lst _) from ⟨by rw [List.length_map, List.length_mergeSort]; rw [List.length_map] at hz; exact hz, out, cc, vs', hout⟩)
      have n2 := I2.hok.fresh (a := s2.heap.objs.size + 1) (Nat.le_succ _)
      refine ⟨.ref (s2.heap.objs.size + 1), _, I3, rfl, k _ _ _ ?_ ?_ upd_same (List.mergeSort_perm _ _) ?_⟩
      · exact fun b o hb nb => by
          have := eN b o hb nb
          rw [upd_ne (ne_of_none this n2)]
          exact this
      · exact T2.ext fun b o hb => by rw [upd_ne (ne_of_none hb n2)]; exact hb
      · rw [PySem.W.dataLe_int]
        have := List.pairwise_mergeSort (le := fun p q : Int => decide (fl.getD p.toNat 0 ≤ fl.getD q.toNat 0)) (fun a b c h1 h2 => by simp at *; omega) (fun a b => by simp; omega) ns
        exact this.imp fun h => of_decide_eq_true h
end Ck

set_option maxRecDepth 100000
set_option maxHeartbeats 4000000
namespace Ck
open PySem PySem.Spec PyProof.Rows L2 Evl
/-! ### seen, counted from the front -/
theorem seen_snoc : ∀ (l : List Int) (h x : Int), seenN h (l ++ [x]) = seenN h l + (if h < x ∧ ∀ y ∈ l, y < x then 1 else 0)
  | [], h, x => by
    show (if h < x then 1 + seenN x [] else seenN h []) = 0 + _
    simp [seenN]
  | a :: l, h, x => by
    show (if h < a then 1 + seenN a (l ++ [x]) else seenN h (l ++ [x])) = (if h < a then 1 + seenN a l else seenN h l) + _
    by_cases ha : h < a
    · rw [if_pos ha, if_pos ha, seen_snoc l a x]
      have e : (a < x ∧ ∀ y ∈ l, y < x) ↔ (h < x ∧ ∀ y ∈ a :: l, y < x) := by
        simp only [List.mem_cons, forall_eq_or_imp]
        constructor
        · rintro ⟨p, q⟩; exact ⟨by omega, p, q⟩
        · rintro ⟨_, p, q⟩; exact ⟨p, q⟩
      by_cases h1 : a < x ∧ ∀ y ∈ l, y < x
      · rw [if_pos h1, if_pos (e.mp h1)]; omega
      · rw [if_neg h1, if_neg fun z => h1 (e.mpr z)]; omega
    · rw [if_neg ha, if_neg ha, seen_snoc l h x]
      have e : (h < x ∧ ∀ y ∈ l, y < x) ↔ (h < x ∧ ∀ y ∈ a :: l, y < x) := by
        simp only [List.mem_cons, forall_eq_or_imp]
        constructor
        · rintro ⟨p, q⟩; exact ⟨p, by omega, q⟩
        · rintro ⟨p, _, q⟩; exact ⟨p, q⟩
      by_cases h1 : h < x ∧ ∀ y ∈ l, y < x
      · rw [if_pos h1, if_pos (e.mp h1)]
      · rw [if_neg h1, if_neg fun z => h1 (e.mpr z)]
def seenP (l : List Int) (k : Int) : Bool := decide (k = 0) || decide (∀ y ∈ l.take k.toNat, y < vF l k)
theorem seen_count (l : List Int) (h1 : ∀ x ∈ l, 0 < x) : (((rawC l.length).filter (seenP l)).length : Int) = seenN 0 l := by
  have key : ∀ i, i ≤ l.length → ((((List.range i).map fun i : Nat => (0 : Int) + (i : Int)).filter (seenP l)).length : Int) = seenN 0 (l.take i) := fun i => by
    induction i with
    | zero => intro _; rfl
    | succ i ih =>
      intro hi
      have hlt : i < l.length := hi
      rw [List.range_succ, List.map_append, List.filter_append, List.length_append, List.map_singleton, List.take_add_one, List.getElem?_eq_getElem hlt]
      show _ = seenN 0 (l.take i ++ [l[i]])
      rw [seen_snoc, Int.natCast_add, ih (by omega)]
      have ev : vF l ((0 : Int) + (i : Int)) = l[i] := by
        unfold vF
        rw [Int.zero_add, Int.toNat_natCast, List.getD_eq_getElem?_getD, List.getElem?_eq_getElem hlt]
        rfl
      have ep : seenP l ((0 : Int) + (i : Int)) = decide (0 < l[i] ∧ ∀ y ∈ l.take i, y < l[i]) := by
        unfold seenP
        rw [ev, Int.zero_add, Int.toNat_natCast]
        have hp := h1 l[i] (List.getElem_mem hlt)
        by_cases hi0 : i = 0
        · subst hi0
          simp [hp]
        · have : ¬ ((i : Int) = 0) := by omega
          simp only [decide_eq_false this, Bool.false_or, hp, true_and]
      rw [List.filter_cons, ep]
      by_cases hc : 0 < l[i] ∧ ∀ y ∈ l.take i, y < l[i]
      · rw [decide_eq_true hc, if_pos hc]; rfl
      · rw [decide_eq_false hc, if_neg hc]; rfl
  have := key l.length (Nat.le_refl _)
  rw [List.take_length] at this
  exact this
/-! ### rows that are met -/
def kd3 (c : Int) : Kd := if c % 3 = 0 then .joined else if c % 3 = 1 then .nosquare else .ring
def kd5 (c : Int) : Kd := if c % 5 = 0 then .unlike else if c % 5 = 1 then .sum else if c % 5 = 2 then .rising else if c % 5 = 3 then .count else .seen
theorem kd3_at (c : Int) : atI [V.str "joined", V.str "nosquare", V.str "ring"] (c % 3) = some (V.str (kd3 c).word) := by
  have h0 := Int.emod_nonneg c (by decide : (3 : Int) ≠ 0)
  have h1 := Int.emod_lt_of_pos c (by decide : (0 : Int) < 3)
  have : c % 3 = 0 ∨ c % 3 = 1 ∨ c % 3 = 2 := by omega
  unfold kd3
  rcases this with h | h | h <;> rw [h] <;> rfl
theorem kd5_at (c : Int) : atI [V.str "unlike", V.str "sum", V.str "rising", V.str "count", V.str "seen"] (c % 5) = some (V.str (kd5 c).word) := by
  have h0 := Int.emod_nonneg c (by decide : (5 : Int) ≠ 0)
  have h1 := Int.emod_lt_of_pos c (by decide : (0 : Int) < 5)
  have : c % 5 = 0 ∨ c % 5 = 1 ∨ c % 5 = 2 ∨ c % 5 = 3 ∨ c % 5 = 4 := by omega
  unfold kd5
  rcases this with h | h | h | h | h <;> rw [h] <;> rfl
theorem kd3_in (c : Int) : kd3 c = .joined ∨ kd3 c = .nosquare ∨ kd3 c = .ring := by
  unfold kd3
  split
  · exact .inl rfl
  · split
    · exact .inr (.inl rfl)
    · exact .inr (.inr rfl)
theorem kd5_in (c : Int) : kd5 c = .unlike ∨ kd5 c = .sum ∨ kd5 c = .rising ∨ kd5 c = .count ∨ kd5 c = .seen := by
  unfold kd5
  repeat' split
  all_goals simp
/-- spots in some order -/
structure Spots (F : Fl) (L : List Int) : Prop where
  nd : L.Nodup
  inn : ∀ c ∈ L, 0 ≤ c ∧ c < F.h * F.w
  ne : L ≠ []
def cntF (fl L : List Int) (s : Int) : Int := (((L.map (vF fl)).filter fun x => decide (x = s)).length : Nat)
/-- the numbers ahead of the cells -/
def numsF (k : Kd) (fl L : List Int) (s : Int) : List Int := match k with
  | .sum => [(L.map (vF fl)).sum]
  | .count => [cntF fl L s, s]
  | .seen => [seenN 0 (L.map (vF fl))]
  | _ => []
def rowR (k : Kd) (fl L : List Int) (s : Int) : Ru := match k with
  | .sum => ⟨.sum, L, (L.map (vF fl)).sum, 0⟩
  | .count => ⟨.count, L, cntF fl L s, s⟩
  | .seen => ⟨.seen, L, seenN 0 (L.map (vF fl)), 0⟩
  | k => ⟨k, L, 0, 0⟩
theorem rowR_n {k : Kd} (hk : k = .unlike ∨ k = .sum ∨ k = .rising ∨ k = .count ∨ k = .seen) (fl L : List Int) (s : Int) : (rowR k fl L s).k = k ∧ rowN (rowR k fl L s) = numsF k fl L s ++ L := by
  rcases hk with rfl | rfl | rfl | rfl | rfl <;> exact ⟨rfl, rfl⟩
theorem seenN_le : ∀ (l : List Int) (h : Int), 0 ≤ seenN h l ∧ seenN h l ≤ l.length
  | [], h => ⟨Int.le_refl 0, Int.le_refl 0⟩
  | a :: l, h => by
    have h1 := seenN_le l a
    have h2 := seenN_le l h
    show 0 ≤ (if h < a then 1 + seenN a l else seenN h l) ∧ (if h < a then 1 + seenN a l else seenN h l) ≤ ((l.length + 1 : Nat) : Int)
    split <;> omega
theorem sum_bd : ∀ (l : List Int) (b : Int), (∀ x ∈ l, 0 ≤ x ∧ x ≤ b) → 0 ≤ l.sum ∧ l.sum ≤ b * l.length
  | [], b, _ => by simp
  | a :: l, b, h => by
    have h1 := h a List.mem_cons_self
    have h2 := sum_bd l b fun x hx => h x (List.mem_cons_of_mem _ hx)
    rw [List.sum_cons, List.length_cons, Int.natCast_add, Int.mul_add]
    omega
theorem row_ok {F : Fl} (fo : FlOk F) {k : Kd} (hk : k = .unlike ∨ k = .sum ∨ k = .rising ∨ k = .count ∨ k = .seen) {fl L : List Int} {s : Int} (sp : Spots F L) (hs : 1 ≤ s ∧ s ≤ F.s) (hfl : ∀ x ∈ fl, 1 ≤ x ∧ x ≤ F.s) (hl : (fl.length : Int) = F.h * F.w)
    (hu : k = .unlike → (L.map (vF fl)).Nodup) (hr : k = .rising → (L.map (vF fl)).Pairwise (· < ·)) : RowOk F (rowR k fl L s) ∧ holdsP F (rowR k fl L s) fl := by
  have hv : ∀ x ∈ L.map (vF fl), 1 ≤ x ∧ x ≤ F.s := fun x hx => by
    obtain ⟨c, hc, rfl⟩ := List.mem_map.mp hx
    have := sp.inn c hc
    exact hfl _ (vF_mem this.1 (by omega))
  have f6 := fo.s6
  have hw := fo.hw
  have ll : L.length ≤ 16 := by
    have := nodup_len (ys := cellsF (F.h * F.w)) sp.nd fun c hc => by
      obtain ⟨a, b⟩ := sp.inn c hc
      unfold cellsF
      exact List.mem_map.mpr ⟨c.toNat, List.mem_range.mpr (by omega), by omega⟩
    rw [cells_len] at this
    omega
  have hsum := sum_bd (L.map (vF fl)) 6 fun x hx => ⟨by have := (hv x hx).1; omega, by have := (hv x hx).2; omega⟩
  have hseen := seenN_le (L.map (vF fl)) 0
  rw [List.length_map] at hsum hseen
  have hcnt : 0 ≤ cntF fl L s ∧ cntF fl L s ≤ 16 := by
    unfold cntF
    have := List.length_filter_le (fun x => decide (x = s)) (L.map (vF fl))
    rw [List.length_map] at this
    omega
  have cb : ∀ n ∈ L, 0 ≤ n ∧ n < 100 := fun n hn => by
    have := sp.inn n hn
    omega
  rcases hk with rfl | rfl | rfl | rfl | rfl
  · exact ⟨⟨⟨sp.nd, sp.inn, ⟨Int.le_refl 0, by show (0 : Int) ≤ 1000; decide⟩, ⟨Int.le_refl 0, by show (0 : Int) ≤ F.s; omega⟩, fun z => (by rcases z with z | z | z | z <;> cases z), fun z => (by rcases z with z | z | z <;> cases z)⟩, sp.ne, cb, ⟨rfl, rfl⟩⟩, hu rfl⟩
  · exact ⟨⟨⟨sp.nd, sp.inn, ⟨hsum.1, by show (L.map (vF fl)).sum ≤ 1000; omega⟩, ⟨Int.le_refl 0, by show (0 : Int) ≤ F.s; omega⟩, fun z => (by rcases z with z | z | z | z <;> cases z), fun z => (by rcases z with z | z | z <;> cases z)⟩, sp.ne, fun n hn => by
      rcases List.mem_cons.mp (show n ∈ (L.map (vF fl)).sum :: L from hn) with rfl | hn
      · omega
      · exact cb n hn, rfl⟩, rfl⟩
  · refine ⟨⟨⟨sp.nd, sp.inn, ⟨Int.le_refl 0, by show (0 : Int) ≤ 1000; decide⟩, ⟨Int.le_refl 0, by show (0 : Int) ≤ F.s; omega⟩, fun z => (by rcases z with z | z | z | z <;> cases z), fun z => (by rcases z with z | z | z <;> cases z)⟩, sp.ne, cb, ⟨rfl, rfl⟩⟩, ?_⟩
    intro i x y hx hy
    have hp := hr rfl
    have h1 : (L.map (vF fl))[i]? = some (vF fl x) := by rw [List.getElem?_map, show L[i]? = some x from hx]; rfl
    have h2 : (L.map (vF fl))[i + 1]? = some (vF fl y) := by rw [List.getElem?_map, show L[i + 1]? = some y from hy]; rfl
    obtain ⟨a1, a2⟩ := List.getElem?_eq_some_iff.mp h1
    obtain ⟨b1, b2⟩ := List.getElem?_eq_some_iff.mp h2
    have := List.pairwise_iff_getElem.mp hp i (i + 1) a1 b1 (by omega)
    rwa [a2, b2] at this
  · refine ⟨⟨⟨sp.nd, sp.inn, ⟨hcnt.1, by show cntF fl L s ≤ 1000; omega⟩, ⟨by show (0 : Int) ≤ s; omega, hs.2⟩, fun _ => hs.1, fun z => (by rcases z with z | z | z <;> cases z)⟩, sp.ne, fun n hn => ?_, trivial⟩, ?_⟩
    · rcases List.mem_cons.mp (show n ∈ cntF fl L s :: s :: L from hn) with rfl | hn
      · omega
      · rcases List.mem_cons.mp hn with rfl | hn
        · omega
        · exact cb n hn
    · show ((withF ⟨.count, L, cntF fl L s, s⟩ fl).length : Int) = cntF fl L s
      unfold cntF withF
      rw [List.filter_map, List.length_map]
      rfl
  · exact ⟨⟨⟨sp.nd, sp.inn, ⟨hseen.1, by show seenN 0 (L.map (vF fl)) ≤ 1000; omega⟩, ⟨Int.le_refl 0, by show (0 : Int) ≤ F.s; omega⟩, fun z => (by rcases z with z | z | z | z <;> cases z), fun z => (by rcases z with z | z | z <;> cases z)⟩, sp.ne, fun n hn => by
      rcases List.mem_cons.mp (show n ∈ seenN 0 (L.map (vF fl)) :: L from hn) with rfl | hn
      · omega
      · exact cb n hn, rfl⟩, rfl⟩
theorem region_ok {F : Fl} (fo : FlOk F) {k : Kd} (hk : k = .joined ∨ k = .nosquare ∨ k = .ring) {s : Int} (hs : 1 ≤ s ∧ s ≤ F.s) : RowOk F (regionR F k s) := by
  have w := whole_ok fo (k := k) hs.1 hs.2
  have nn : 0 < F.h * F.w := by
    have h1 := fo.h1
    have w1 := fo.w1
    have : 1 * 1 ≤ F.h * F.w := Int.mul_le_mul h1 w1 (by decide) (by omega)
    omega
  refine ⟨w, fun z => ?_, fun n hn => ?_, ?_⟩
  · have := congrArg List.length (show cellsF (F.h * F.w) = [] from z)
    rw [cells_len] at this
    simp at this
    omega
  · have : n = s := by
      rcases hk with rfl | rfl | rfl <;> exact List.mem_singleton.mp hn
    have := fo.s6
    omega
  · rcases hk with rfl | rfl | rfl <;> rfl
theorem region_line {F : Fl} {k : Kd} (hk : k = .joined ∨ k = .nosquare ∨ k = .ring) {s : Int} : lineOf (regionR F k s) = k.word ++ " " ++ figS s := by
  have e : rowW (regionR F k s) = [k.word, figS s] := by rcases hk with rfl | rfl | rfl <;> rfl
  unfold lineOf
  rw [e, TL.join_eq]
  refine TL.ext_tl ?_
  rw [TL.tl_join, TL.tl_append, TL.tl_append]
  show TL.tl k.word ++ (TL.tl " " ++ TL.tl (figS s)) = _
  rw [List.append_assoc]
theorem row_line {k : Kd} (hk : k = .unlike ∨ k = .sum ∨ k = .rising ∨ k = .count ∨ k = .seen) {fl L : List Int} {s : Int} : lineOf (rowR k fl L s) = Txt.join " " ([k.word] ++ (numsF k fl L s ++ L).map figS) := by
  unfold lineOf rowW
  rw [(rowR_n hk fl L s).1, (rowR_n hk fl L s).2]
  rfl
end Ck

set_option maxRecDepth 100000
set_option maxHeartbeats 4000000
namespace Ck
open PySem PySem.Spec PyProof.Rows L2 Evl
section
variable {X : Cx} {σ : L2.St} {H : Hp} {D : Ends} {e a b : Expr} {sts : List Stmt} {pos p p2 : Pos} {r : Rt}
theorem q_whenG {p : Prop} {body : List Stmt} (h : XTG X σ H e fun c => c = true → p) (h1 : p → ∀ H1, Ex H H1 → semB X body { D with nx := fun σ' H' => semB X sts D σ' H' } σ H1) (h2 : ∀ H1, Ex H H1 → semB X sts D σ H1) : semB X (.If e body [] pos :: sts) D σ H := s_seq (s_whenG h h1 h2)
/-- a list told of, cut -/
theorem x_toG {hi : Expr} {Pq : List Int → Prop} {k : Nat} (ha : XG X σ H a (.gen fun v H => ∃ (q : Addr) (ns : List Int), v = .ref q ∧ H q = some (.lst (ns.map V.int)) ∧ Pq ns)) (hl : XV X σ H hi (.int (k : Int))) : XG X σ H (.Subscript a (.Slice none (some hi) none p2) pos) (.gen fun v H => ∃ (q : Addr) (ns : List Int), v = .ref q ∧ H q = some (.lst ((ns.take k).map V.int)) ∧ Pq ns) := fun H1 e1 Q kk =>
  to_e (pe_slice sl_list pe_sem po_none (po_some pe_sem)) (ha H1 e1 _ fun v H2 e2 g2 => by
    obtain ⟨q, ns, rfl, hq, hP⟩ := g2
    exact hl H2 (e1.trans e2) _ fun _ H3 e3 g3 => by
      cases g3
      exact ⟨(k : Int), rfl, q, ns.map V.int, rfl, SqL.of (e3 q _ hq), fun l hln => kk _ _ ((e2.trans e3).trans (Ex.new hln)) ⟨l, ns, rfl, by rw [upd_same, cut_to, List.map_take], hP⟩⟩)
/-- a > b, b an int told of -/
theorem c_gtG {i : Int} {Pm : Int → Prop} {z : Bool} (ha : XV X σ H a (.int i)) (hb : XG X σ H b (.gen fun v _ => ∃ m, v = .int m ∧ Pm m)) (hp : ∀ m, Pm m → decide (m < i) = z) : XC X σ H .Gt a b (.bl z) :=
  c_opR op_gt ha hb fun v H1 e1 g Q q => by
    obtain ⟨m, rfl, hm⟩ := g
    refine ⟨i, m, rfl, rfl, ?_⟩
    show Q (.bl (decide (m < i))) H1
    rw [hp m hm]
    exact q H1 (Ex.refl H1)
end
abbrev lawRowD : Str × Option Str := ("_law_row", none)
def rowT (K : PySem.W.Frag) : List (Addr × Str) := [((He.cT K lawRowD).2, ("_law_row" : Str) ++ ".<locals>." ++ "<lambda>")]
def RowV (F : Fl) (fl : List Int) (v : V) : Prop := ∃ R, v = .str (lineOf R) ∧ RowOk F R ∧ holdsP F R fl
def spRow (K : PySem.W.Frag) : Sp := fun vs H Q _ => ∃ (F : Fl) (q : Addr) (fl : List Int) (cell : Int), vs = [.int F.h, .int F.w, .int F.s, .ref q, .int cell] ∧ FlOk F ∧ FiAt F H q fl ∧ (∀ x ∈ fl, 1 ≤ x ∧ x ≤ F.s) ∧ LamX.Tabs (rowT K) H ∧ ∀ v H', LamX.ExtN H H' → LamX.Tabs (rowT K) H' → RowV F fl v → Q v H'
def rowPs : List Str := ["_law_high", "_law_wide", "_law_signs", "_law_filling", "_law_cell"]
def rowNs : List Str := ["_law_high", "_law_wide", "_law_signs", "_law_filling", "_law_cell", "_law_words", "_law_word", "_law_sign", "_law_order_here", "_law_some", "_law_spot", "_law_told", "_law_numbers", "_law_other", "_law_one", "_law_k"]
section
variable {P : Program} {w : World} {K : PySem.W.Frag} {mg : Str → Option Value} {base : Heap}
def DRow (P : Program) (w : World) (K : PySem.W.Frag) (mg : Str → Option Value) (base : Heap) (k : Nat) : Prop := ∃ f fd, FnOk P w K mg base CX0 k f fd rowPs (spRow K) ∧ Binds K fd rowPs [] ∧ mg "_law_row" = some (.ref f) ∧ PySem.W.keepIn K (.ref f) = true
theorem nt_lst (xs : List V) : ∀ ps : Array Value, HO.lst xs ≠ .tbl ps := fun ps z => by cases z
theorem sc_row : FnScope rowNs rowPs (defScope (top 89)) := ⟨rfl, rfl, rfl, by decide +kernel, rfl, by decide +kernel, by decide +kernel⟩
theorem order_spots {F : Fl} (fo : FlOk F) {ns : List Int} {m : Nat} (hp : ns.Perm (cellsF (F.h * F.w))) (hm : 1 ≤ m) : Spots F (ns.take m) := by
  have nn : 0 < F.h * F.w := by
    have h1 := fo.h1
    have w1 := fo.w1
    have : 1 * 1 ≤ F.h * F.w := Int.mul_le_mul h1 w1 (by decide) (by omega)
    omega
  refine ⟨(hp.nodup_iff.mpr (cells_nodup _)).sublist (List.take_sublist _ _), fun c hc => in_cells (hp.mem_iff.mp (List.mem_of_mem_take hc)), fun z => ?_⟩
  have := congrArg List.length z
  have hl := hp.length_eq
  rw [cells_len] at hl
  simp only [List.length_take, List.length_nil] at this
  omega
theorem spots_len {F : Fl} (fo : FlOk F) {L : List Int} (sp : Spots F L) : L.length ≤ 16 := by
  have hw := fo.hw
  have := nodup_len (ys := cellsF (F.h * F.w)) sp.nd fun c hc => by
    obtain ⟨a, b⟩ := sp.inn c hc
    unfold cellsF
    exact List.mem_map.mpr ⟨c.toNat, List.mem_range.mpr (by omega), by omega⟩
  rw [cells_len] at this
  omega
theorem ok_lawrow (T : Top w K mg base) (TB : LamX.TabB base mg (He.cT K lawRowD).1 (He.cT K lawRowD).2) : DRow P w K mg base 4 := by
  obtain ⟨f, fd, hst, _, F⟩ := T.told.fns (dG ("_law_row", 89)) (List.mem_append_left _ (List.mem_map.mpr ⟨_, by decide +kernel, rfl⟩))
  have hst : PySem.W.nsIn K mainGlobals "_law_row" = some (some (.ref f)) := hst
  have F : FunD K "_law_row" "_law_row" (defArgs (top 89)) (defBody (top 89)) (defScope (top 89)) [] [] f fd := F
  have hm := PySem.W.mg_of T.kin T.glob hst
  have S := sc_row
  refine ⟨f, fd, ?_, F.bindsN (fun _ _ _ _ _ _ us hl => match us, hl with | [_, _, _, _, _], _ => rfl), hm, F.kp⟩
  obtain ⟨oc, od, dV, kV, doc, pm, an, cdv, ct, osl, rfl, lk, hcd, _, _⟩ := F.ex
  obtain ⟨cc, rfl⟩ := He.codeIn_ref hcd
  have ef : He.fAd K lawRowD = f := by
    unfold He.fAd
    show (match PySem.W.nsIn K mainGlobals "_law_row" with | some (some (.ref a)) => a | _ => 0) = f
    rw [hst]
  have ec : (He.cT K lawRowD).1 = cc := He.codeOf_eq (by rw [ef]; exact lk) rfl
  refine fn_of lk hcd S (fun vs H Q E h => ?_) (fun A outer s H vs Q E hr hsp => ⟨_, PSs.nox pb_sem, ?_⟩)
  · obtain ⟨_, _, _, _, rfl, _⟩ := h
    rfl
  · obtain ⟨F, q, fl, cell, rfl, fo, ⟨hq, hl⟩, hfl, hT, k⟩ := hsp
    have s1 := fo.s1
    have f6 := fo.s6
    have hw := fo.hw
    have len0 : (0 : Int) < (fl.length : Nat) := by
      have h1 := fo.h1
      have w1 := fo.w1
      have : 1 * 1 ≤ F.h * F.w := Int.mul_le_mul h1 w1 (by decide) (by omega)
      omega
    refine q_set 5 S.nd (x_lst (vs := [.str "joined", .str "nosquare", .str "ring"]) (e_cons x_str (e_cons x_str (e_1 x_str))) (by decide)) fun v H1 k1 gg => ?_
    obtain ⟨lw, rfl, _, hlw⟩ := gg
    refine q_setV 6 S.nd (x_ixL (v := .str (kd3 cell).word) (x_v 5) (x_mod (x_v 4) x_int (by decide)) (SqL.of hlw) (kd3_at cell)) fun H2 k2 => ?_
    refine q_setV 7 S.nd (x_add x_int (x_mod (x_div (x_v 4) x_int (by decide)) (x_v 2) (by omega))) fun H3 k3 => ?_
    have sr0 := Int.emod_nonneg (cell / 3) (show F.s ≠ 0 by omega)
    have sr1 := Int.emod_lt_of_pos (cell / 3) (show 0 < F.s by omega)
    have hs : 1 ≤ 1 + cell / 3 % F.s ∧ 1 + cell / 3 % F.s ≤ F.s := by omega
    generalize 1 + cell / 3 % F.s = sg at hs ⊢
    have K3 := (k1.trans k2).trans k3
    refine q_whenG (t_andG (XT.g (t_c (c_eqI (x_mod (x_div (x_v 4) x_int (by decide)) x_int (by decide)) x_int))) fun _ => t_valG (x_call (ok_lawregion T) (hr.mono (by decide)) (e_cons (x_v 0) (e_cons (x_v 1) (e_cons (x_v 6) (e_cons (x_v 7) (e_1 (x_v 3)))))) fun H4 k4 => ⟨F, kd3 cell, sg, q, fl, rfl, fo, kd3_in cell, ⟨(K3.trans k4) q _ hq, hl⟩, rfl⟩)) (fun hp H4 k4 => ?_) (fun H4 k4 => ?_)
    · have n0 : figS sg = figS ((sg.toNat : Nat) : Int) := fig_nat (by omega)
      have fl2 := fig_len (n := sg.toNat) (by omega)
      rw [← n0] at fl2
      have wl := words_len (kd3 cell)
      refine s_one (s_ret (x_addS (y := figS sg) (x_addS (x_v 6) x_str (by have : (" " : Str).length = 1 := by decide +kernel
                                                                           omega)) (x_strI (x_v 7) (by
        have : sg.natAbs ≤ 6 := by omega
        exact Nat.lt_of_le_of_lt (Nat.log2_le_self _) (by omega)) (T.free "str")) (by
          have : ((kd3 cell).word ++ " ").length ≤ 9 := by
            rw [TL.len_tl, TL.tl_append, List.length_append, ← TL.len_tl, ← TL.len_tl]
            have : (" " : Str).length = 1 := by decide +kernel
            omega
          omega)) fun v H5 k5 g5 => ?_)
      cases g5
      have e5 := (K3.trans k4).trans k5
      exact k _ _ (LamX.ExtN.of e5) (hT.ext e5) ⟨regionR F (kd3 cell) sg, by rw [region_line (kd3_in cell)], region_ok fo (kd3_in cell) hs, hp.2⟩
    · have K4 := K3.trans k4
      have lm : (((fl.map V.int).length : Nat) : Int) = F.h * F.w := by rw [List.length_map]; exact hl
      have or0 := Int.emod_nonneg (cell / 90) (show (((fl.map V.int).length : Nat) : Int) ≠ 0 by rw [List.length_map]; omega)
      refine q_set 8 S.nd (x_toG (k := (1 + cell / 90 % (((fl.map V.int).length : Nat) : Int)).toNat) (x_call (r := Perms (cellsF (F.h * F.w))) (ok_laworder T) (hr.mono (by decide)) (e_cons (x_div (x_v 4) x_int (by decide)) (e_1 (XG.is (x := .int (F.h * F.w)) (x_len (x_v 3) (.inl (SqL.of (K4 q _ hq))) (T.free "len")) (by rw [lm])))) fun H5 k5 => ⟨_, _, rfl, fo.nn, by omega, rfl⟩)
        (XG.is (x_add x_int (x_mod (x_div (x_v 4) x_int (by decide)) (x_len (x_v 3) (.inl (SqL.of (K4 q _ hq))) (T.free "len")) (by rw [List.length_map]; omega))) (by rw [Int.toNat_of_nonneg (by omega)]))) fun v H5 k5 gg => ?_
      obtain ⟨lo, ns, rfl, hlo, hperm⟩ := gg
      have sp0 := order_spots fo hperm (m := (1 + cell / 90 % (((fl.map V.int).length : Nat) : Int)).toNat) (by omega)
      generalize ns.take (1 + cell / 90 % (((fl.map V.int).length : Nat) : Int)).toNat = L0 at hlo sp0
      refine q_setV 6 S.nd (x_ixN (v := .str (kd5 (cell / 18)).word) (x_lst (vs := [.str "unlike", .str "sum", .str "rising", .str "count", .str "seen"]) (e_cons x_str (e_cons x_str (e_cons x_str (e_cons x_str (e_1 x_str))))) (by decide)) (x_mod (x_div (x_v 4) x_int (by decide)) x_int (by decide)) (kd5_at (cell / 18))) fun H6 k6 => ?_
      have hk := kd5_in (cell / 18)
      generalize kd5 (cell / 18) = kd at hk ⊢
      have K6 := (K4.trans k5).trans k6
      have L0l := spots_len fo sp0
      refine s_cut (fun σ' H' => ∃ lo x9 x10 L, σ' = [some (.int F.h), some (.int F.w), some (.int F.s), some (.ref q), some (.int cell), some (.ref lw), some (.str kd.word), some (.int sg), some (.ref lo), x9, x10, none, none, none, none, none] ∧ Ex H H' ∧ H' lo = some (.lst (L.map V.int)) ∧ Spots F L ∧ (kd = .unlike ∨ kd = .rising → (L.map (vF fl)).Nodup))
        (s_when (t_c (c_inU (xs := [.str "unlike", .str "rising"]) (x_v 6) (x_tup (e_cons x_str (e_1 x_str)) (by decide)) rfl rfl)) (fun hb H7 k7 => ?_) (fun hb H7 k7 => ⟨lo, none, none, L0, rfl, K6.trans k7, (k6.trans k7) lo _ hlo, sp0, fun z => ?_⟩)) ?_
      · have K7 := K6.trans k7
        refine q_set 9 S.nd (x_lst (vs := []) e_nil (by decide)) fun v H8 k8 gg => ?_
        obtain ⟨g, rfl, ng, hg⟩ := gg
        have K8 := K7.trans k8
        have ng0 : H g = none := fresh_back K7 ng
        have hlo8 := ((k6.trans k7).trans k8) lo _ hlo
        have hlo7 := (k6.trans k7) lo _ hlo
        have glo : g ≠ lo := fun z => by rw [z, hlo7] at ng; cases ng
        have gq : g ≠ q := fun z => by rw [z, hq] at ng0; cases ng0
        refine s_seq (s_forL 10 S.nd (x_v 8) (SqL.of hlo8) (fun i σ' H' => (∃ x10, σ' = [some (.int F.h), some (.int F.w), some (.int F.s), some (.ref q), some (.int cell), some (.ref lw), some (.str kd.word), some (.int sg), some (.ref lo), some (.ref g), x10, none, none, none, none, none]) ∧ Ex H H' ∧ H' lo = some (.lst (L0.map V.int)) ∧ ∃ Sx : List Int, H' g = some (.lst (Sx.map V.int)) ∧ (∀ x ∈ Sx, x ∈ L0.take i) ∧ Sx.Nodup ∧ (Sx.map (vF fl)).Nodup ∧ (0 < i → Sx ≠ []))
          (fun H9 k9 => ⟨⟨none, rfl⟩, K8.trans k9, k9 lo _ hlo8, [], k9 g _ hg, (fun x hx => nomatch hx), List.nodup_nil, List.nodup_nil, (fun z => absurd z (by decide))⟩) (fun i σ' H' _ z => SqL.of z.2.2.1) ?_ ?_)
        · rintro i y σ' H9 hy ⟨⟨x10, rfl⟩, hE, hlo9, Sx, hSx, hsub, hnd, hvd, hne⟩
          obtain ⟨c, hc, rfl⟩ := at_intsI hy
          have ci := (List.getElem?_eq_some_iff.mp hc).1
          have cm := List.mem_of_getElem? hc
          have cr := sp0.inn c cm
          have tk : L0.take (i + 1) = L0.take i ++ [c] := take_snoc hc
          have sxl : Sx.length ≤ 16 := Nat.le_trans (nodup_len hnd fun x hx => List.mem_of_mem_take (hsub x hx)) L0l
          have ev : (Sx.filter fun _ => true).map (fun y => V.int (vF fl y)) = (Sx.map (vF fl)).map V.int := by rw [all_true, List.map_map]; rfl
          refine s_one (s_when (t_c (c_niN (xs := (Sx.filter fun _ => true).map (fun y => V.int (vF fl y))) (x_ixL (v := .int (vF fl c)) (x_v 3) (x_v 10) (SqL.of (hE q _ hq)) (fi_at2 (q := q) ⟨hq, hl⟩ cr)) (x_l (l_I 13 (fun _ => true) (fun y => V.int (vF fl y)) S.nd (@blkOk_by rowNs (defScope (top 89)) _ _ (by decide +kernel)) (x_v 9) (hrL hSx) (by omega) (fun s' H0 cl C fp y H2 hy k => ts_nil)
            (fun s' H0 cl C fp y H2 hy hp k => x_ixL (x_v 3) (x_v 13) (SqL.of ((hE.trans k) q _ hq)) (fi_at2 (q := q) ⟨hq, hl⟩ (sp0.inn y (List.mem_of_mem_take (hsub y hy))))))) rfl (by rw [ev]; exact flat_ints _))) (fun hb2 H10 k10 => ?_) (fun hb2 H10 k10 => ?_))
          · rw [ev, inV_int] at hb2
            have hb2 : ¬ vF fl c ∈ Sx.map (vF fl) := by simpa only [Bool.not_eq_true', decide_eq_false_iff_not] using hb2
            refine s_one (s_app (k10 g _ hSx) (x_v 9) (x_v (v := .int c) 10) (by rw [List.length_map]; omega) fun v H11 k11 g11 => ?_)
            cases g11
            refine ⟨⟨_, rfl⟩, Ex.mut ((hE.trans k10).trans k11) ng0, by rw [upd_ne (Ne.symm glo)]; exact k11 lo _ (k10 lo _ hlo9), Sx ++ [c], by rw [upd_same, List.map_append]; rfl, fun x hx => ?_, ?_, ?_, fun _ => by simp⟩
            · rw [tk]
              rcases List.mem_append.mp hx with h | h
              · exact List.mem_append_left _ (hsub x h)
              · exact List.mem_append_right _ h
            · exact List.nodup_append.mpr ⟨hnd, by simp, fun a ha b hb e => hb2 (List.mem_map.mpr ⟨a, ha, by rw [e, List.mem_singleton.mp hb]⟩)⟩
            · rw [List.map_append, List.map_singleton]
              exact List.nodup_append.mpr ⟨hvd, by simp, fun a ha b hb e => hb2 (by rw [← List.mem_singleton.mp hb, ← e]; exact ha)⟩
          · rw [ev, inV_int] at hb2
            have hb2 : vF fl c ∈ Sx.map (vF fl) := by simpa only [Bool.not_eq_false', decide_eq_true_eq] using hb2
            refine ⟨⟨_, rfl⟩, hE.trans k10, k10 lo _ hlo9, Sx, k10 g _ hSx, fun x hx => by rw [tk]; exact List.mem_append_left _ (hsub x hx), hnd, hvd, fun _ z => by rw [z] at hb2; cases hb2⟩
        · rintro σ' H9 ⟨⟨x10, rfl⟩, hE, hlo9, Sx, hSx, hsub, hnd, hvd, hne⟩
          rw [List.length_map, List.take_length] at hsub
          have l0 : 0 < (L0.map V.int).length := by
            rw [List.length_map]
            exact List.length_pos_iff.mpr sp0.ne
          refine s_one (s_set 8 S.nd (x_v (v := .ref g) 9) fun v H10 k10 g10 => ?_)
          cases g10
          exact ⟨g, _, _, Sx, rfl, hE.trans k10, k10 g _ hSx, ⟨hnd, fun c hc => sp0.inn c (hsub c hc), hne l0⟩, fun _ => hvd⟩
      · exfalso
        rcases z with rfl | rfl <;> exact absurd hb (by decide +kernel)
      · rintro σ' H7 ⟨lo, x9, x10, L, rfl, K7, hlo7, sp, hvd⟩
        have Ll := spots_len fo sp
        refine s_cut (fun σ' H' => ∃ lo L, σ' = [some (.int F.h), some (.int F.w), some (.int F.s), some (.ref q), some (.int cell), some (.ref lw), some (.str kd.word), some (.int sg), some (.ref lo), x9, x10, none, none, none, none, none] ∧ LamX.ExtN H H' ∧ LamX.Tabs (rowT K) H' ∧ H' lo = some (.lst (L.map V.int)) ∧ Spots F L ∧ (kd = .unlike → (L.map (vF fl)).Nodup) ∧ (kd = .rising → (L.map (vF fl)).Pairwise (· < ·)))
          (s_when (t_c (c_eqS (x_v 6) x_str)) (fun hb H8 k8 => ?_) (fun hb H8 k8 => ⟨lo, L, rfl, LamX.ExtN.of (K7.trans k8), hT.ext (K7.trans k8), k8 lo _ hlo7, sp, fun z => hvd (.inl z), fun z => ?_⟩)) ?_
        · obtain rfl := word_yes (j := .rising) (of_decide_eq_true hb)
          have K8 := K7.trans k8
          refine s_one (to_s (ps_set (i := 8) (x := "_law_order_here") S.nd rfl (Or.inl rfl) (pe_sortLam (T := rowT K) (c := (He.cT K lawRowD).1) (P := (He.cT K lawRowD).2) (io := 8) (ifl := 3) TB (by rw [ec]; rfl) (List.mem_singleton.mpr rfl) (fun p hp _ => by rw [List.mem_singleton.mp hp]; rfl) (hr.mono (by decide)) rfl (Or.inl rfl) rfl rfl (T.free "sorted") rfl rfl rfl rfl rfl rfl rfl)) ⟨lo, q, L, fl, rfl, rfl, k8 lo _ hlo7, K8 q _ hq, fun x hx => (by have := sp.inn x hx; omega), hT.ext K8, fun H9 g ns' eN hT9 hg hp2 hpw => ?_⟩)
          have hnd : (ns'.map (vF fl)).Nodup := (hp2.map (vF fl)).nodup_iff.mpr (hvd (.inr rfl))
          refine ⟨g, ns', rfl, (LamX.ExtN.of K8).trans eN, hT9, hg, ⟨hp2.nodup_iff.mpr sp.nd, fun c hc => sp.inn c (hp2.mem_iff.mp hc), fun z => sp.ne (by rw [z] at hp2; exact List.nil_perm.mp hp2)⟩, fun z => (nomatch z), fun _ => ?_⟩
          rw [List.pairwise_map]
          have h2 := List.pairwise_map.mp hnd
          exact (hpw.and h2).imp fun {a b} hh => by
            have h1 : vF fl a ≤ vF fl b := hh.1
            have h3 : vF fl a ≠ vF fl b := hh.2
            omega
        · subst z
          exact absurd rfl (of_decide_eq_false hb)
        · rintro σ' H8 ⟨lo, L, rfl, N8, T8, hlo8, sp, hu, hrs⟩
          have Ll := spots_len fo sp
          have hq8 := N8 q _ hq (nt_lst _)
          obtain ⟨ro, hho⟩ := row_ok fo hk sp hs hfl hl hu hrs
          have hmi : ∀ c ∈ L, atI (fl.map V.int) c = some (V.int (vF fl c)) := fun c hc => fi_at2 (q := q) ⟨hq8, hl⟩ (sp.inn c hc)
          refine q_set 11 S.nd (x_l (l_I 10 (fun _ => true) (fun y => V.int (vF fl y)) S.nd (@blkOk_by rowNs (defScope (top 89)) _ _ (by decide +kernel)) (x_v 8) (hrL hlo8) (by omega) (fun s' H0 cl C fp y H2 hy k => ts_nil)
            (fun s' H0 cl C fp y H2 hy hp k => x_ixL (x_v 3) (x_v 10) (SqL.of (k q _ hq8)) (hmi y hy)))) fun v H9 k9 gg => ?_
          obtain ⟨lt, rfl, _, hlt⟩ := gg
          have ev : (L.filter fun _ => true).map (fun y => V.int (vF fl y)) = (L.map (vF fl)).map V.int := by rw [all_true, List.map_map]; rfl
          rw [ev] at hlt
          refine q_set 12 S.nd (x_lst (vs := []) e_nil (by decide)) fun v H10 k10 gg => ?_
          obtain ⟨ln0, rfl, _, hln0⟩ := gg
          have hlt10 := k10 lt _ hlt
          have tl : (L.map (vF fl)).length ≤ 16 := by rw [List.length_map]; exact Ll
          have K10 := k9.trans k10
          generalize hM : L.map (vF fl) = M at hlt10 tl
          refine s_cut (fun σ' H' => ∃ ln, σ' = [some (.int F.h), some (.int F.w), some (.int F.s), some (.ref q), some (.int cell), some (.ref lw), some (.str kd.word), some (.int sg), some (.ref lo), x9, x10, some (.ref lt), some (.ref ln), none, none, none] ∧ Ex H10 H' ∧ H' ln = some (.lst ((if kd = .sum then [M.sum] else []).map V.int)))
            (s_when (t_c (c_eqS (x_v 6) x_str)) (fun hb H11 k11 => ?_) (fun hb H11 k11 => ⟨ln0, rfl, k11, ?_⟩)) ?_
          · obtain rfl := word_yes (j := .sum) (of_decide_eq_true hb)
            refine s_one (s_set 12 S.nd (x_lst (vs := [.int M.sum]) (e_1 (x_sum (ns := M) (x_v 11) (hrL (k11 lt _ hlt10)) (T.free "sum"))) (by simp)) fun v H12 k12 g12 => ?_)
            obtain ⟨ln, rfl, _, hln⟩ := g12
            exact ⟨ln, rfl, k11.trans k12, hln⟩
          · rw [if_neg fun z => of_decide_eq_false hb (by rw [z]; rfl)]
            exact k11 ln0 _ hln0
          · rintro σ' H11 ⟨ln1, rfl, k11, hln1⟩
            refine s_cut (fun σ' H' => ∃ ln, σ' = [some (.int F.h), some (.int F.w), some (.int F.s), some (.ref q), some (.int cell), some (.ref lw), some (.str kd.word), some (.int sg), some (.ref lo), x9, x10, some (.ref lt), some (.ref ln), none, none, none] ∧ Ex H10 H' ∧ H' ln = some (.lst ((if kd = .count then [(((M.filter fun x => decide (x = sg)).length : Nat) : Int), sg] else if kd = .sum then [M.sum] else []).map V.int)))
              (s_when (t_c (c_eqS (x_v 6) x_str)) (fun hb H12 k12 => ?_) (fun hb H12 k12 => ⟨ln1, rfl, k11.trans k12, ?_⟩)) ?_
            · obtain rfl := word_yes (j := .count) (of_decide_eq_true hb)
              refine s_one (s_set 12 S.nd (x_lst (vs := [.int (((M.filter fun x => decide (x = sg)).length : Nat) : Int), .int sg]) (e_cons (XG.is (x_lenN (x_l (l_I 14 (fun y => decide (y = sg)) V.int S.nd (@blkOk_by rowNs (defScope (top 89)) _ _ (by decide +kernel)) (x_v 11) (hrL ((k11.trans k12) lt _ hlt10)) (by omega)
                (fun s' H0 cl C fp y H2 hy k => ts_one (t_c (c_eqI (x_v 14) (x_v 7)))) (fun s' H0 cl C fp y H2 hy hp k => x_v 14))) (T.free "len")) (by rw [List.length_map])) (e_1 (x_v 7))) (by simp)) fun v H13 k13 g13 => ?_)
              obtain ⟨ln, rfl, _, hln⟩ := g13
              exact ⟨ln, rfl, (k11.trans k12).trans k13, hln⟩
            · rw [if_neg fun z => of_decide_eq_false hb (by rw [z]; rfl)]
              exact k12 ln1 _ hln1
            · rintro σ' H12 ⟨ln2, rfl, k12, hln2⟩
              refine s_cut (fun σ' H' => ∃ ln, σ' = [some (.int F.h), some (.int F.w), some (.int F.s), some (.ref q), some (.int cell), some (.ref lw), some (.str kd.word), some (.int sg), some (.ref lo), x9, x10, some (.ref lt), some (.ref ln), none, none, none] ∧ Ex H10 H' ∧ H' ln = some (.lst ((if kd = .seen then [(((rawC M.length).filter (seenP M)).length : Int)] else if kd = .count then [(((M.filter fun x => decide (x = sg)).length : Nat) : Int), sg] else if kd = .sum then [M.sum] else []).map V.int)))
                (s_when (t_c (c_eqS (x_v 6) x_str)) (fun hb H13 k13 => ?_) (fun hb H13 k13 => ⟨ln2, rfl, k12.trans k13, ?_⟩)) ?_
              · obtain rfl := word_yes (j := .seen) (of_decide_eq_true hb)
                have lt13 := (k12.trans k13) lt _ hlt10
                refine s_one (s_set 12 S.nd (x_lst (vs := [.int (((rawC M.length).filter (seenP M)).length : Int)]) (e_1 (XG.is (x_lenN (x_l (l_RI (lo := 0) (m := M.length) 15 (seenP M) V.int S.nd (@blkOk_by rowNs (defScope (top 89)) _ _ (by decide +kernel)) (pi_range1 rfl (T.free "range") (pa_cons pe_sem pa_nil))
                  (fun H1 k R q' => pr_1 (x_len (x_v 11) (.inl (SqL.of (k lt _ lt13))) (T.free "len")) (by rw [List.length_map]; omega) H1 (Ex.refl H1) R fun H2 k2 => by rw [List.length_map, Int.toNat_natCast]; exact q' H2 k2) (by omega)
                  (fun s' H0 cl C fp i H1 hi k => ts_one ?_) fun s' H0 cl C fp i H1 hi hp k => x_v 15)) (T.free "len")) (by rw [List.length_map]; rfl))) (by simp)) fun v H14 k14 g14 => ?_)
                · refine t_or (t_c (c_eqI (x_v 15) x_int)) fun hk0 => t_c (c_gtG (i := vF M (0 + (i : Int))) (x_ixL (x_v 11) (x_v 15) (SqL.of (k lt _ lt13)) (may_at hi)) (x_max (ns := M.take i) (x_to (k := i) (x_v 11) (XG.is (x_v (v := .int (0 + (i : Int))) 15) (by rw [Int.zero_add])) (SqL.of (k lt _ lt13))) (hrA (by rw [List.map_take])) (by
                    have := of_decide_eq_false hk0
                    rw [List.length_take]
                    omega) (T.free "max")) fun m hm => decide_eq_decide.mpr ⟨fun h y hy => ?_, fun h => h m ?_⟩)
                  · rw [Int.zero_add, Int.toNat_natCast] at hy
                    have := hm.2 y hy
                    omega
                  · rw [Int.zero_add, Int.toNat_natCast]
                    exact hm.1
                · obtain ⟨ln, rfl, _, hln⟩ := g14
                  exact ⟨ln, rfl, (k12.trans k13).trans k14, hln⟩
              · rw [if_neg fun z => of_decide_eq_false hb (by rw [z]; rfl)]
                exact k13 ln2 _ hln2
              · rintro σ' H13 ⟨ln3, rfl, k13, hln3⟩
                have eN : (if kd = .seen then [(((rawC M.length).filter (seenP M)).length : Int)] else if kd = .count then [(((M.filter fun x => decide (x = sg)).length : Nat) : Int), sg] else if kd = .sum then [M.sum] else []) = numsF kd fl L sg := by
                  have hpos : ∀ x ∈ M, 0 < x := fun x hx => by
                    rw [← hM] at hx
                    obtain ⟨c, hc, rfl⟩ := List.mem_map.mp hx
                    have := sp.inn c hc
                    have := (hfl _ (vF_mem this.1 (by omega))).1
                    omega
                  rw [seen_count M hpos]
                  subst hM
                  rcases hk with rfl | rfl | rfl | rfl | rfl <;> rfl
                rw [eN] at hln3
                have hlo13 := (K10.trans k13) lo _ hlo8
                have hlt100 : ∀ n ∈ numsF kd fl L sg ++ L, 0 ≤ n ∧ n < 100 := fun n hn => ro.lt n (by rw [(rowR_n hk fl L sg).2]; exact hn)
                have nl : (numsF kd fl L sg).length ≤ 2 := by rcases hk with rfl | rfl | rfl | rfl | rfl <;> simp [numsF]
                have es : [V.str kd.word] ++ ((numsF kd fl L sg ++ L).filter fun _ => true).map (fun n => V.str (figS n)) = ([kd.word] ++ (numsF kd fl L sg ++ L).map figS).map V.str := by
                  rw [all_true]
                  show _ = V.str kd.word :: ((numsF kd fl L sg ++ L).map figS).map V.str
                  rw [List.map_map]
                  rfl
                refine s_one (s_ret (x_join (x := " ") (ys := [kd.word] ++ (numsF kd fl L sg ++ L).map figS) x_str (x_catN (x_lst (vs := [.str kd.word]) (e_1 (x_v 6)) (by simp)) (x_l (l_I 14 (fun _ => true) (fun n => V.str (figS n)) S.nd (@blkOk_by rowNs (defScope (top 89)) _ _ (by decide +kernel)) (ns := numsF kd fl L sg ++ L) (x_catG (Pa := fun vs _ => vs = (numsF kd fl L sg).map V.int) (Pb := fun vs _ => vs = L.map V.int) (Pc := fun vs _ => vs = (numsF kd fl L sg ++ L).map V.int) ((x_v (v := .ref ln3) 12).weak fun v H8 H9 e8 e9 g => ?_) ((x_v (v := .ref lo) 8).weak fun v H8 H9 e8 e9 g => ?_) (fun xs ys H1 g1 g2 => ?_) (fun _ _ _ g _ => g) (fun _ _ _ g _ => g)) (fun v H1 e1 g => ?_) (by rw [List.length_append]; omega) (fun s' H0 cl C fp y H2 hy k => ts_nil)
                  (fun s' H0 cl C fp y H2 hy hp k => x_strI (x_v 14) (by
                    have := hlt100 y hy
                    exact Nat.lt_of_le_of_lt (Nat.log2_le_self _) (by omega)) (T.free "str")))) (by
                    have := List.length_filter_le (fun _ => true) (numsF kd fl L sg ++ L)
                    rw [List.length_append] at this
                    simp only [List.length_map, List.length_cons, List.length_nil]
                    omega)) (hrA es) ?_) fun v H14 k14 g14 => ?_)
                · cases g
                  exact ⟨ln3, _, rfl, (e8.trans e9) ln3 _ hln3, rfl⟩
                · cases g
                  exact ⟨lo, _, rfl, (e8.trans e9) lo _ hlo13, rfl⟩
                · rw [g1, g2]
                  exact ⟨by simp only [List.length_map]; omega, by rw [List.map_append]⟩
                · obtain ⟨qq, vs, rfl, hqq, rfl⟩ := g
                  exact ⟨qq, rfl, SqL.of hqq⟩
                · have b := sum_le (l := ([kd.word] ++ (numsF kd fl L sg ++ L).map figS).map (·.length)) (b := 8) fun x hx => ?_
                  · have e1 : (" " : Str).length = 1 := by decide +kernel
                    rw [e1]
                    simp only [List.length_map, List.length_append, List.length_cons, List.length_nil] at b ⊢
                    omega
                  · obtain ⟨z, hz, rfl⟩ := List.mem_map.mp hx
                    rcases List.mem_append.mp hz with h | h
                    · rw [List.mem_singleton.mp h]
                      exact words_len kd
                    · obtain ⟨n, hn, rfl⟩ := List.mem_map.mp h
                      obtain ⟨n0, n1⟩ := hlt100 n hn
                      rw [fig_nat n0]
                      have := (fig_len (n := n.toNat) (by omega)).2
                      omega
                · cases g14
                  have e14 := (K10.trans k13).trans k14
                  exact k _ _ (N8.trans (LamX.ExtN.of e14)) (T8.ext e14) ⟨_, by rw [row_line hk], ro, hho⟩
end
end Ck

set_option maxRecDepth 100000
set_option maxHeartbeats 4000000
namespace Ck
open PySem PySem.Spec PyProof.Rows L2 Evl
/-! ### the law -/
def oneF (s : Int) : Int := vF [1, 2, 4, 8, 16] (s - 1)
def wholeF (s : Int) : Int := vF [1, 3, 7, 15, 31] (s - 1)
theorem or_num : ∀ (x : Fin 32) (s : Fin 5), standsF (Builtin.bitOr (x.val : Int) (oneF ((s.val : Int) + 1))) ((s.val : Int) + 1) = true ∧ 0 ≤ Builtin.bitOr (x.val : Int) (oneF ((s.val : Int) + 1)) ∧ Builtin.bitOr (x.val : Int) (oneF ((s.val : Int) + 1)) < 32 := by decide +kernel
theorem or_one {x s : Int} (x0 : 0 ≤ x) (x1 : x < 32) (s1 : 1 ≤ s) (s5 : s ≤ 5) : standsF (Builtin.bitOr x (oneF s)) s = true ∧ 0 ≤ Builtin.bitOr x (oneF s) ∧ Builtin.bitOr x (oneF s) < 32 := by
  have := or_num ⟨x.toNat, by omega⟩ ⟨(s - 1).toNat, by omega⟩
  rwa [show ((⟨x.toNat, by omega⟩ : Fin 32).val : Int) = x from Int.toNat_of_nonneg x0, show ((⟨(s - 1).toNat, by omega⟩ : Fin 5).val : Int) + 1 = s by show (((s - 1).toNat : Nat) : Int) + 1 = s; omega] at this
theorem st_num : ∀ (x : Fin 64) (s : Fin 5), standsF (x.val : Int) ((s.val : Int) + 1) = true → ¬ (x.val : Int) / oneF ((s.val : Int) + 1) % 2 = 0 := by decide +kernel
theorem st_one {x s : Int} (x0 : 0 ≤ x) (x1 : x < 64) (s1 : 1 ≤ s) (s5 : s ≤ 5) (h : standsF x s = true) : ¬ x / oneF s % 2 = 0 := by
  have := st_num ⟨x.toNat, by omega⟩ ⟨(s - 1).toNat, by omega⟩
  rw [show ((⟨x.toNat, by omega⟩ : Fin 64).val : Int) = x from Int.toNat_of_nonneg x0, show ((⟨(s - 1).toNat, by omega⟩ : Fin 5).val : Int) + 1 = s by show (((s - 1).toNat : Nat) : Int) + 1 = s; omega] at this
  exact this h
theorem one_num : ∀ s : Fin 5, 1 ≤ oneF ((s.val : Int) + 1) ∧ oneF ((s.val : Int) + 1) ≤ 16 ∧ 1 ≤ wholeF ((s.val : Int) + 1) ∧ wholeF ((s.val : Int) + 1) ≤ 31 := by decide +kernel
theorem one_of {s : Int} (s1 : 1 ≤ s) (s5 : s ≤ 5) : 1 ≤ oneF s ∧ oneF s ≤ 16 ∧ 1 ≤ wholeF s ∧ wholeF s ≤ 31 := by
  have := one_num ⟨(s - 1).toNat, by omega⟩
  rwa [show ((⟨(s - 1).toNat, by omega⟩ : Fin 5).val : Int) + 1 = s by show (((s - 1).toNat : Nat) : Int) + 1 = s; omega] at this
def grounds : List (Int × Int) := [(1, 2), (2, 2), (1, 5), (2, 3), (3, 3), (2, 4)]
theorem grounds_ok : ∀ g ∈ grounds, (1 ≤ g.1 ∧ g.1 ≤ 3) ∧ (2 ≤ g.2 ∧ g.2 ≤ 5) ∧ g.1 * g.2 ≤ 9 := by decide
structure Drawn (s : Int) (i : Nat) (fl ms cl : List Int) : Prop where
  lf : fl.length = i
  lm : ms.length = i
  lc : cl.length = i
  f : ∀ x ∈ fl, 1 ≤ x ∧ x ≤ s
  m : ∀ x ∈ ms, 0 ≤ x ∧ x < 32
  c : ∀ x ∈ cl, 0 ≤ x ∧ x ≤ s
  st : ∀ (j : Nat) x y, ms[j]? = some x → fl[j]? = some y → standsF x y = true
  cs : ∀ (j : Nat) x y, cl[j]? = some x → fl[j]? = some y → x = 0 ∨ x = y
theorem snoc_at {α : Type} {l : List α} {a x : α} {j : Nat} (h : (l ++ [a])[j]? = some x) : l[j]? = some x ∨ (j = l.length ∧ x = a) := by
  by_cases hj : j < l.length
  · rw [List.getElem?_append_left hj] at h
    exact .inl h
  · rw [List.getElem?_append_right (by omega)] at h
    by_cases h0 : j - l.length = 0
    · rw [h0] at h
      exact .inr ⟨by omega, (Option.some.inj h).symm⟩
    · rw [List.getElem?_eq_none (by simp; omega)] at h
      cases h
theorem Drawn.snoc {s : Int} {i : Nat} {fl ms cl : List Int} (d : Drawn s i fl ms cl) {f m c : Int} (hf : 1 ≤ f ∧ f ≤ s) (hm : 0 ≤ m ∧ m < 32) (hc : c = 0 ∨ c = f) (hst : standsF m f = true) : Drawn s (i + 1) (fl ++ [f]) (ms ++ [m]) (cl ++ [c]) where
  lf := by rw [List.length_append, d.lf]; rfl
  lm := by rw [List.length_append, d.lm]; rfl
  lc := by rw [List.length_append, d.lc]; rfl
  f := fun x hx => by
    rcases List.mem_append.mp hx with h | h
    · exact d.f x h
    · rw [List.mem_singleton.mp h]; exact hf
  m := fun x hx => by
    rcases List.mem_append.mp hx with h | h
    · exact d.m x h
    · rw [List.mem_singleton.mp h]; exact hm
  c := fun x hx => by
    rcases List.mem_append.mp hx with h | h
    · exact d.c x h
    · rw [List.mem_singleton.mp h]; omega
  st := fun j x y hx hy => by
    have l1 := d.lf
    have l2 := d.lm
    rcases snoc_at hx with h | ⟨h, rfl⟩
    · rcases snoc_at hy with g | ⟨g, rfl⟩
      · exact d.st j x y h g
      · have := (List.getElem?_eq_some_iff.mp h).1; omega
    · rcases snoc_at hy with g | ⟨g, rfl⟩
      · have := (List.getElem?_eq_some_iff.mp g).1; omega
      · exact hst
  cs := fun j x y hx hy => by
    have l1 := d.lf
    have l2 := d.lc
    rcases snoc_at hx with h | ⟨h, rfl⟩
    · rcases snoc_at hy with g | ⟨g, rfl⟩
      · exact d.cs j x y h g
      · have := (List.getElem?_eq_some_iff.mp h).1; omega
    · rcases snoc_at hy with g | ⟨g, rfl⟩
      · have := (List.getElem?_eq_some_iff.mp g).1; omega
      · exact hc
/-- a filling that meets all that a puzzle tells, and stands in masks -/
structure Meets2 (D : PuD) (fl ms : List Int) : Prop where
  len : (fl.length : Int) = D.F.h * D.F.w
  rules : ∀ R ∈ D.rules, RuOk D.F R ∧ holdsP D.F R fl
  sg : ∀ x ∈ fl, 1 ≤ x ∧ x ≤ D.F.s
  clues : ∀ c, 0 ≤ c → c < D.F.h * D.F.w → vF D.clues c = 0 ∨ vF D.clues c = vF fl c
  st : ∀ c, 0 ≤ c → c < D.F.h * D.F.w → standsF (vF ms c) (vF fl c) = true
section
variable {P : Program} {w : World} {K : PySem.W.Frag} {mg : Str → Option Value} {base : Heap}
theorem x_min2 {X : Cx} {σ : L2.St} {H : Hp} {a b : Expr} {p pos : Pos} {i j : Int} (ha : XV X σ H a (.int i)) (hb : XV X σ H b (.int j)) (hm : X.mg "min" = none) (hg : Gl X "min" := by rfl) (hc : X.calm = true := by rfl) (he : starEach [a, b] X.env = (false, eval a X.env) :: starEach [b] X.env := by rfl) (he2 : starEach [b] X.env = (false, eval b X.env) :: starEach [] X.env := by rfl) (hpl : (backTo pos (starEach [b] X.env)).any (·.1) = false := by rfl) :
    XV X σ H (.Call (.Name "min" p) [a, b] [] pos) (.int (if j < i then j else i)) :=
  x_cbA (call_min2 hc) hm (by decide +kernel) (a_v ha (a_v hb (a_nil fun H1 e1 Q k => ⟨i, j, rfl, k _ H1 (Ex.refl H1) rfl⟩) he2) he) hg (by decide) (by decide) he hpl
/-- an item of a list told of -/
theorem x_ixLG {X : Cx} {σ : L2.St} {H : Hp} {a b : Expr} {pos : Pos} {i : Int} {Pc : List V → Hp → Prop} {Px : V → Hp → Prop} (ha : XG X σ H a (.gen fun v H => ∃ q vs, v = .ref q ∧ H q = some (.lst vs) ∧ Pc vs H)) (hb : XV X σ H b (.int i)) (hp : ∀ vs H1, Pc vs H1 → ∃ x, atI vs i = some x ∧ Px x H1) (mono : ∀ x H1 H2, Px x H1 → Ex H1 H2 → Px x H2) (hs : PlainIx b := by exact fun _ _ => rfl) : XG X σ H (.Subscript a b pos) (.gen Px) := fun H1 e1 Q k =>
  to_e (pe_ix ix_list pe_sem pe_sem hs) (ha H1 e1 _ fun _ H2 e2 g2 => by
    obtain ⟨q, vs, rfl, hq, hP⟩ := g2
    obtain ⟨x, hx, hPx⟩ := hp vs H2 hP
    exact hb H2 (e1.trans e2) _ fun _ H3 e3 g3 => by
      cases g3
      exact ⟨q, vs, i, x, rfl, rfl, SqL.of (e3 q _ hq), hx, k _ H3 (e2.trans e3) (mono _ _ _ hPx e3)⟩)
def Tups (gs : List (Int × Int)) (vs : List V) (H : Hp) : Prop := Paired (fun v g => ∃ t, v = V.ref t ∧ H t = some (.tup [.int g.1, .int g.2])) vs gs
theorem Tups.mono {gs : List (Int × Int)} {vs : List V} {H H' : Hp} (h : Tups gs vs H) (e : Ex H H') : Tups gs vs H' := Paired.mapP h fun v g ⟨t, a, b⟩ => ⟨t, a, e t _ b⟩
theorem a_tups {X : Cx} {σ : L2.St} {H : Hp} {es : List Expr} {gs : List (Int × Int)} {i j : Int} {k1 k2 kk : Nat} {p1 p2 p3 : Pos} (ha : ∀ H1, Ex H H1 → XA X σ H1 es (Tups gs)) (hs : starEach (.Tuple [.Constant (.int i) k1 p1, .Constant (.int j) k2 p2] kk p3 :: es) X.env = (false, eval (.Tuple [.Constant (.int i) k1 p1, .Constant (.int j) k2 p2] kk p3) X.env) :: starEach es X.env := by rfl)
    (he : starEach [.Constant (.int i) k1 p1, .Constant (.int j) k2 p2] X.env = (false, eval (.Constant (.int i) k1 p1) X.env) :: starEach [.Constant (.int j) k2 p2] X.env := by rfl) (he2 : starEach [.Constant (.int j) k2 p2] X.env = (false, eval (.Constant (.int j) k2 p2) X.env) :: starEach [] X.env := by rfl) : XA X σ H (.Tuple [.Constant (.int i) k1 p1, .Constant (.int j) k2 p2] kk p3 :: es) (Tups ((i, j) :: gs)) :=
  a_cons (x_tup (vs := [.int i, .int j]) (e_cons x_int (e_1 x_int he2) he) (by simp)) (fun v H1 e1 g => fun H2 e2 R q => ha H1 e1 H2 e2 R fun vs H3 e3 gg => q vs H3 e3 (by
    obtain ⟨t, rfl, _, ht⟩ := g
    exact .cons ⟨t, rfl, (e2.trans e3) t _ ht⟩ gg)) hs
def lawNs : List Str := ["_law_script", "_law_cell", "_law_high", "_law_wide", "_law_signs", "_law_filling", "_law_masks", "_law_clues", "_law_whole", "_law_k", "_law_more", "_law_rows", "_law_puzzle", "_law_order_here", "_law_kinds", "_law_left", "_law_settled", "_law_one"]
theorem sc_law : FnScope lawNs ["_law_script"] (defScope (top 90)) := ⟨rfl, rfl, rfl, by decide +kernel, rfl, by decide +kernel, by decide +kernel⟩
def spLaw (K : PySem.W.Frag) : Sp := fun vs H Q _ => ∃ (a : Addr) (ns : List Int), vs = [.ref a] ∧ SqL K H a (ns.map V.int) ∧ H (He.cT K lawRowD).2 = some (.tbl #[]) ∧ ∀ H', Q (.bl true) H'
end
end Ck

set_option maxRecDepth 100000
set_option maxHeartbeats 4000000
namespace Ck
open PySem PySem.Spec PyProof.Rows L2 Evl
/-! ### masks: what stands -/
theorem fin_m {m : Int} (h0 : 0 ≤ m) (h1 : m < 64) : ∃ i : Fin 64, m = (i.val : Int) := ⟨⟨m.toNat, by omega⟩, (Int.toNat_of_nonneg h0).symm⟩
theorem fin_s {s : Int} (h0 : 1 ≤ s) (h1 : s ≤ 6) : ∃ i : Fin 6, s = (i.val : Int) + 1 := ⟨⟨(s - 1).toNat, by omega⟩, by show s = (((s - 1).toNat : Nat) : Int) + 1; omega⟩
theorem only_num : ∀ (m : Fin 64) (s v : Fin 6), onlyF (m.val : Int) ((s.val : Int) + 1) = true → standsF (m.val : Int) ((v.val : Int) + 1) = true → v = s := by decide +kernel
theorem only_is {m s v : Int} (h0 : 0 ≤ m) (h1 : m < 64) (s1 : 1 ≤ s) (s6 : s ≤ 6) (v1 : 1 ≤ v) (v6 : v ≤ 6) (h : onlyF m s = true) (k : standsF m v = true) : v = s := by
  obtain ⟨i, rfl⟩ := fin_m h0 h1
  obtain ⟨j, rfl⟩ := fin_s s1 s6
  obtain ⟨l, rfl⟩ := fin_s v1 v6
  rw [only_num i j l h k]
theorem sg_num : ∀ (m : Fin 64) (v : Fin 6), standsF (m.val : Int) ((v.val : Int) + 1) = true → ((v.val : Int) + 1) ∈ signsF (m.val : Int) := by decide +kernel
theorem sg_in {m v : Int} (h0 : 0 ≤ m) (h1 : m < 64) (v1 : 1 ≤ v) (v6 : v ≤ 6) (k : standsF m v = true) : v ∈ signsF m := by
  obtain ⟨i, rfl⟩ := fin_m h0 h1
  obtain ⟨l, rfl⟩ := fin_s v1 v6
  exact sg_num i l k
theorem or_st_num : ∀ (m n : Fin 64) (v : Fin 6), standsF (m.val : Int) ((v.val : Int) + 1) = true ∨ standsF (n.val : Int) ((v.val : Int) + 1) = true → standsF (Builtin.bitOr (m.val : Int) (n.val : Int)) ((v.val : Int) + 1) = true := by decide +kernel
theorem or_st {m n v : Int} (h0 : 0 ≤ m) (h1 : m < 64) (g0 : 0 ≤ n) (g1 : n < 64) (v1 : 1 ≤ v) (v6 : v ≤ 6) (k : standsF m v = true ∨ standsF n v = true) : v ∈ signsF (Builtin.bitOr m n) := by
  have b := or_of h0 h1 g0 g1
  refine sg_in b.1 b.2 v1 v6 ?_
  obtain ⟨i, rfl⟩ := fin_m h0 h1
  obtain ⟨j, rfl⟩ := fin_m g0 g1
  obtain ⟨l, rfl⟩ := fin_s v1 v6
  exact or_st_num i j l k
theorem lh_num : ∀ (m : Fin 64), ∀ v ∈ signsF (m.val : Int), (signsF (m.val : Int)).headD 0 ≤ v ∧ v ≤ (signsF (m.val : Int)).getLastD 0 := by decide +kernel
theorem lh_of {m v : Int} (h0 : 0 ≤ m) (h1 : m < 64) (h : v ∈ signsF m) : (signsF m).headD 0 ≤ v ∧ v ≤ (signsF m).getLastD 0 := by
  obtain ⟨i, rfl⟩ := fin_m h0 h1
  exact lh_num i v h
theorem keep_num : ∀ (m : Fin 64) (s v : Fin 6), standsF (m.val : Int) ((s.val : Int) + 1) = true → standsF (m.val : Int) ((v.val : Int) + 1) = true → v ≠ s → standsF ((m.val : Int) - bitF ((s.val : Int) + 1)) ((v.val : Int) + 1) = true := by decide +kernel
theorem keep_of {m s v : Int} (h0 : 0 ≤ m) (h1 : m < 64) (s1 : 1 ≤ s) (s6 : s ≤ 6) (v1 : 1 ≤ v) (v6 : v ≤ 6) (hs : standsF m s = true) (hv : standsF m v = true) (ne : v ≠ s) : standsF (m - bitF s) v = true := by
  obtain ⟨i, rfl⟩ := fin_m h0 h1
  obtain ⟨j, rfl⟩ := fin_s s1 s6
  obtain ⟨l, rfl⟩ := fin_s v1 v6
  exact keep_num i j l hs hv fun z => ne (by rw [z])
/-! ### what lies beside -/
theorem beside_iff {F : Fl} (fo : FlOk F) {c x : Int} (h0 : 0 ≤ c) (h1 : c < F.h * F.w) : x ∈ besideF F c ↔ (0 ≤ x ∧ x < F.h * F.w) ∧ ((x = c - F.w ∨ x = c + F.w) ∨ (x / F.w = c / F.w ∧ (x = c - 1 ∨ x = c + 1))) := by
  have w1 := fo.w1
  have w6 := fo.w6
  have b := fun z => beside_in fo (x := x) h0 h1 z
  have m : x ∈ besideF F c ↔ (0 < c / F.w ∧ x = c - F.w) ∨ (0 < c % F.w ∧ x = c - 1) ∨ (c % F.w < F.w - 1 ∧ x = c + 1) ∨ (c / F.w < F.h - 1 ∧ x = c + F.w) := by
    unfold besideF
    simp only [List.mem_append]
    constructor
    · rintro (h | h | h | h) <;> split at h <;> first | (rw [List.mem_singleton] at h; simp_all) | cases h
    · rintro (⟨h, rfl⟩ | ⟨h, rfl⟩ | ⟨h, rfl⟩ | ⟨h, rfl⟩) <;> simp [h]
  obtain ⟨h, w, s⟩ := F
  show _ ↔ (0 ≤ x ∧ x < h * w) ∧ ((x = c - w ∨ x = c + w) ∨ (x / w = c / w ∧ (x = c - 1 ∨ x = c + 1)))
  have m : x ∈ besideF ⟨h, w, s⟩ c ↔ (0 < c / w ∧ x = c - w) ∨ (0 < c % w ∧ x = c - 1) ∨ (c % w < w - 1 ∧ x = c + 1) ∨ (c / w < h - 1 ∧ x = c + w) := m
  have b : x ∈ besideF ⟨h, w, s⟩ c → 0 ≤ x ∧ x < h * w := b
  have w1 : 1 ≤ w := w1
  have w6 : w ≤ 6 := w6
  have h1 : c < h * w := h1
  have e : w = 1 ∨ w = 2 ∨ w = 3 ∨ w = 4 ∨ w = 5 ∨ w = 6 := by omega
  constructor
  · intro z
    refine ⟨b z, ?_⟩
    have z := m.mp z
    rcases e with rfl | rfl | rfl | rfl | rfl | rfl <;> omega
  · rintro ⟨z, k⟩
    refine m.mpr ?_
    rcases e with rfl | rfl | rfl | rfl | rfl | rfl <;> omega
theorem beside_nodup {F : Fl} (fo : FlOk F) (c : Int) : (besideF F c).Nodup := by
  have w1 := fo.w1
  unfold besideF
  by_cases e : F.w = 1
  · have r0 : c % F.w = 0 := by rw [e]; omega
    rw [r0, if_neg (show ¬ (0 : Int) < 0 by decide), if_neg (show ¬ (0 : Int) < F.w - 1 by omega)]
    split <;> split <;> simp <;> omega
  · split <;> split <;> split <;> split <;> simp <;> omega
theorem beside_ne {F : Fl} (fo : FlOk F) {c x : Int} (h0 : 0 ≤ c) (h1 : c < F.h * F.w) (h : x ∈ besideF F c) : x ≠ c := by
  have w1 := fo.w1
  obtain ⟨_, h⟩ := (beside_iff fo h0 h1).mp h
  omega
theorem beside_symm {F : Fl} (fo : FlOk F) {c x : Int} (h0 : 0 ≤ c) (h1 : c < F.h * F.w) (h : x ∈ besideF F c) : c ∈ besideF F x := by
  obtain ⟨⟨a, b⟩, h⟩ := (beside_iff fo h0 h1).mp h
  refine (beside_iff fo a b).mpr ⟨⟨h0, h1⟩, ?_⟩
  rcases h with (h | h) | ⟨h, k | k⟩
  · exact .inl (.inr (by omega))
  · exact .inl (.inl (by omega))
  · exact .inr ⟨h.symm, .inr (by omega)⟩
  · exact .inr ⟨h.symm, .inl (by omega)⟩
/-! ### lists -/
theorem cnt_le {α : Type} {p q : α → Bool} {l : List α} (h : ∀ x ∈ l, p x = true → q x = true) : (l.filter p).length ≤ (l.filter q).length := by
  rw [← List.countP_eq_length_filter, ← List.countP_eq_length_filter]
  exact List.countP_mono_left h
theorem cnt_out {p : Int → Bool} {c : Int} : ∀ {l : List Int}, l.Nodup → c ∈ l → (l.filter p).length = (if p c = true then 1 else 0) + ((l.filter fun x => !decide (x = c)).filter p).length
  | [], _, h => by cases h
  | a :: l, nd, h => by
    obtain ⟨n1, n2⟩ := List.nodup_cons.mp nd
    by_cases e : a = c
    · subst e
      have e2 : (l.filter fun x => !decide (x = a)) = l := List.filter_eq_self.mpr fun x hx => by
        have : x ≠ a := fun z => n1 (z ▸ hx)
        simp [this]
      rw [List.filter_cons, List.filter_cons, e2]
      simp only [decide_true, Bool.not_true, Bool.false_eq_true, if_false]
      split <;> simp <;> omega
    · have hc : c ∈ l := by
        rcases List.mem_cons.mp h with h | h
        · exact absurd h.symm e
        · exact h
      have ih := cnt_out (p := p) n2 hc
      rw [List.filter_cons (x := a) (p := fun x => !decide (x = c))]
      simp only [e, decide_false, Bool.not_false, if_true]
      rw [List.filter_cons, List.filter_cons]
      split <;> simp only [List.length_cons, ih] <;> omega
theorem sum_out {f : Int → Int} {c : Int} : ∀ {l : List Int}, l.Nodup → c ∈ l → (l.map f).sum = f c + ((l.filter fun x => !decide (x = c)).map f).sum
  | [], _, h => by cases h
  | a :: l, nd, h => by
    obtain ⟨n1, n2⟩ := List.nodup_cons.mp nd
    by_cases e : a = c
    · subst e
      have e2 : (l.filter fun x => !decide (x = a)) = l := List.filter_eq_self.mpr fun x hx => by
        have : x ≠ a := fun z => n1 (z ▸ hx)
        simp [this]
      rw [List.filter_cons, e2]
      simp
    · have hc : c ∈ l := by
        rcases List.mem_cons.mp h with h | h
        · exact absurd h.symm e
        · exact h
      have ih := sum_out (f := f) n2 hc
      rw [List.filter_cons]
      simp only [e, decide_false, Bool.not_false, if_true, List.map_cons, List.sum_cons, ih]
      omega
theorem sumI_le {f g : Int → Int} : ∀ {l : List Int}, (∀ x ∈ l, f x ≤ g x) → (l.map f).sum ≤ (l.map g).sum
  | [], _ => Int.le_refl _
  | a :: l, h => by
    have := sumI_le (l := l) fun x hx => h x (List.mem_cons_of_mem _ hx)
    have := h a List.mem_cons_self
    simp only [List.map_cons, List.sum_cons]
    omega
theorem map_inj {f : Int → Int} : ∀ {l : List Int}, (l.map f).Nodup → ∀ x ∈ l, ∀ y ∈ l, x ≠ y → f x ≠ f y
  | a :: l, nd, x, hx, y, hy, ne => by
    obtain ⟨n1, n2⟩ := List.nodup_cons.mp nd
    rcases List.mem_cons.mp hx with ex | kx <;> rcases List.mem_cons.mp hy with ey | ky
    · exact absurd (ex.trans ey.symm) ne
    · rw [ex]
      exact fun e => n1 (e ▸ List.mem_map_of_mem ky)
    · rw [ey]
      exact fun e => n1 (e ▸ List.mem_map_of_mem kx)
    · exact map_inj n2 x kx y ky ne
theorem two_in {l : List Int} {x y : Int} (hx : x ∈ l) (hy : y ∈ l) (ne : x ≠ y) : 2 ≤ l.length := nodup_len (xs := [x, y]) (by simp [ne]) fun z hz => by
  rcases List.mem_cons.mp hz with rfl | hz
  · exact hx
  · rw [List.mem_singleton.mp hz]; exact hy
theorem all_signs {s : Int} {l : List Int} (nd : l.Nodup) (hl : (l.length : Int) = s) (h : ∀ x ∈ l, 1 ≤ x ∧ x ≤ s) {x : Int} (x1 : 1 ≤ x) (xs : x ≤ s) : x ∈ l := by
  refine Classical.byContradiction fun hn => ?_
  have := nodup_len (xs := x :: l) (ys := (List.range s.toNat).map fun i : Nat => (i : Int) + 1) (List.nodup_cons.mpr ⟨hn, nd⟩) fun z hz => by
    have : 1 ≤ z ∧ z ≤ s := by
      rcases List.mem_cons.mp hz with rfl | hz
      · exact ⟨x1, xs⟩
      · exact h z hz
    exact List.mem_map.mpr ⟨(z - 1).toNat, List.mem_range.mpr (by omega), by omega⟩
  simp at this
  omega
/-! ### what the filling has -/
structure Cx2 (F : Fl) (fl ms : List Int) : Prop where
  fo : FlOk F
  len : (fl.length : Int) = F.h * F.w
  sg : ∀ x ∈ fl, 1 ≤ x ∧ x ≤ F.s
  st : ∀ c, 0 ≤ c → c < F.h * F.w → standsF (vF ms c) (vF fl c) = true
  ma : MaOk F ms
section
variable {F : Fl} {fl ms : List Int} {R : Ru} {t : Th} {c s : Int}
theorem Cx2.m (C : Cx2 F fl ms) (h : 0 ≤ c ∧ c < F.h * F.w) : 0 ≤ vF ms c ∧ vF ms c < 64 := C.ma.lt _ (vF_mem h.1 (by rw [C.ma.len]; exact h.2))
theorem Cx2.v (C : Cx2 F fl ms) (h : 0 ≤ c ∧ c < F.h * F.w) : 1 ≤ vF fl c ∧ vF fl c ≤ F.s := C.sg _ (vF_mem h.1 (by rw [C.len]; exact h.2))
theorem Cx2.only (C : Cx2 F fl ms) (h : 0 ≤ c ∧ c < F.h * F.w) (s1 : 1 ≤ s) (s6 : s ≤ 6) (k : onlyF (vF ms c) s = true) : vF fl c = s := by
  have := C.v h
  have := C.fo.s6
  exact only_is (C.m h).1 (C.m h).2 s1 s6 (by omega) (by omega) k (C.st c h.1 h.2)
theorem Cx2.may (C : Cx2 F fl ms) (h : 0 ≤ c ∧ c < F.h * F.w) (k : vF fl c = s) : standsF (vF ms c) s = true := k ▸ C.st c h.1 h.2
theorem Cx2.inS (C : Cx2 F fl ms) (h : 0 ≤ c ∧ c < F.h * F.w) : vF fl c ∈ signsF (vF ms c) := by
  have := C.v h
  have := C.fo.s6
  exact sg_in (C.m h).1 (C.m h).2 (by omega) (by omega) (C.st c h.1 h.2)
theorem oth {x : Int} (h : x ∈ othersF R c) : x ∈ R.cells ∧ x ≠ c := by
  obtain ⟨a, b⟩ := List.mem_filter.mp h
  exact ⟨a, by simpa using b⟩
theorem ne_only (C : Cx2 F fl ms) (RO : RuOk F R) (hh : holdsP F R fl) (ok : ThOk F t) (hf : fitsP .only F R t) (hs : ∀ d, t.more = [d] → onlyF (vF ms d) t.s = true) : vF fl t.c ≠ t.s := by
  obtain ⟨hk, hc, d, hm, hd⟩ := hf
  unfold holdsP at hh
  rw [hk] at hh
  have e := C.only (sub_others RO hd) ok.s1 ok.s6 (hs d hm)
  exact fun z => map_inj hh t.c hc d (oth hd).1 (oth hd).2.symm (z.trans e.symm)
theorem ne_place (C : Cx2 F fl ms) (RO : RuOk F R) (hh : holdsP F R fl) (ok : ThOk F t) (hf : fitsP .place F R t) (hs : ∀ x, t.more = [x] → ∀ o ∈ othersF R t.c, standsF (vF ms o) x = false) : vF fl t.c ≠ t.s := by
  obtain ⟨hk, hc, hl, x, hm, x1, x2, xn⟩ := hf
  unfold holdsP at hh
  rw [hk] at hh
  have hx : x ∈ R.cells.map (vF fl) := all_signs hh (by rw [List.length_map]; exact hl) (fun y hy => by
    obtain ⟨o, ho, rfl⟩ := List.mem_map.mp hy
    exact C.v (RO.inn o ho)) x1 x2
  obtain ⟨o, ho, e⟩ := List.mem_map.mp hx
  intro z
  have on : o ≠ t.c := fun y => xn (by rw [← e, y, z])
  have h1 := hs x hm o (List.mem_filter.mpr ⟨ho, by simp [on]⟩)
  rw [C.may (RO.inn o ho) e] at h1
  cases h1
theorem ne_count (C : Cx2 F fl ms) (RO : RuOk F R) (hh : holdsP F R fl) (ok : ThOk F t) (hf : fitsP .count F R t) (hs : (t.s = R.s ∧ R.n ≤ (((othersF R t.c).filter fun o => onlyF (vF ms o) R.s).length : Int)) ∨ (t.s ≠ R.s ∧ (((othersF R t.c).filter fun o => standsF (vF ms o) R.s).length : Int) < R.n)) : vF fl t.c ≠ t.s := by
  obtain ⟨hk, hc⟩ := hf
  unfold holdsP at hh
  rw [hk] at hh
  have s1 := RO.s1 (.inl hk)
  have s6 := C.fo.s6
  have s0 := RO.s0
  have e := cnt_out (p := fun c => decide (vF fl c = R.s)) RO.nd hc
  have hh : ((withF R fl).length : Int) = R.n := hh
  unfold withF at hh
  rw [e] at hh
  intro z
  rcases hs with ⟨h1, h2⟩ | ⟨h1, h2⟩
  · have := cnt_le (l := othersF R t.c) (p := fun o => onlyF (vF ms o) R.s) (q := fun c => decide (vF fl c = R.s)) fun x hx hp => decide_eq_true (C.only (sub_others RO hx) s1 (by omega) hp)
    rw [if_pos (decide_eq_true (z.trans h1))] at hh
    unfold othersF at this h2
    omega
  · have := cnt_le (l := othersF R t.c) (p := fun c => decide (vF fl c = R.s)) (q := fun o => standsF (vF ms o) R.s) fun x hx hp => C.may (sub_others RO hx) (of_decide_eq_true hp)
    rw [if_neg (by rw [z]; simpa using h1)] at hh
    unfold othersF at this h2
    omega
theorem ne_step (C : Cx2 F fl ms) (RO : RuOk F R) (hh : holdsP F R fl) (ok : ThOk F t) (hf : fitsP .step F R t) (hs : ∃ i : Nat, (R.cells[i + 1]? = some t.c ∧ ∃ a, R.cells[i]? = some a ∧ ∀ x ∈ signsF (vF ms a), t.s ≤ x) ∨ (R.cells[i]? = some t.c ∧ ∃ b, R.cells[i + 1]? = some b ∧ ∀ x ∈ signsF (vF ms b), x ≤ t.s)) : vF fl t.c ≠ t.s := by
  obtain ⟨hk, hc⟩ := hf
  unfold holdsP at hh
  rw [hk] at hh
  obtain ⟨i, ⟨h1, a, h2, h3⟩ | ⟨h1, a, h2, h3⟩⟩ := hs
  · have h4 : vF fl a < vF fl t.c := hh i a t.c h2 h1
    have := h3 _ (C.inS (RO.inn a (List.mem_of_getElem? h2)))
    omega
  · have h4 : vF fl t.c < vF fl a := hh i t.c a h1 h2
    have := h3 _ (C.inS (RO.inn a (List.mem_of_getElem? h2)))
    omega
theorem ne_sum (C : Cx2 F fl ms) (RO : RuOk F R) (hh : holdsP F R fl) (ok : ThOk F t) (hf : fitsP .sum F R t) (hs : (∃ o ∈ othersF R t.c, signsF (vF ms o) = []) ∨ R.n < t.s + loF ms (othersF R t.c) ∨ t.s + hiF ms (othersF R t.c) < R.n) : vF fl t.c ≠ t.s := by
  obtain ⟨hk, hc⟩ := hf
  unfold holdsP at hh
  rw [hk] at hh
  have hh : (R.cells.map (vF fl)).sum = R.n := hh
  rw [sum_out RO.nd hc] at hh
  have lh := fun o (ho : o ∈ othersF R t.c) => lh_of (C.m (sub_others RO ho)).1 (C.m (sub_others RO ho)).2 (C.inS (sub_others RO ho))
  intro z
  rw [z] at hh
  rcases hs with ⟨o, ho, h⟩ | h | h
  · have := C.inS (sub_others RO ho)
    rw [h] at this
    cases this
  · have := sumI_le (l := othersF R t.c) (f := fun o => (signsF (vF ms o)).headD 0) (g := vF fl) fun o ho => (lh o ho).1
    unfold loF othersF at h
    unfold othersF at this
    omega
  · have := sumI_le (l := othersF R t.c) (g := fun o => (signsF (vF ms o)).getLastD 0) (f := vF fl) fun o ho => (lh o ho).2
    unfold hiF othersF at h
    unfold othersF at this
    omega
theorem square_in (fo : FlOk F) {k x : Int} (hk : k ∈ cellsF (F.h * F.w)) (hc : isCorner F k = true) (h : x ∈ squareF F k) : 0 ≤ x ∧ x < F.h * F.w := by
  have k0 := in_cells hk
  have w1 := fo.w1
  have w6 := fo.w6
  unfold isCorner at hc
  simp only [Bool.and_eq_true, decide_eq_true_eq] at hc
  unfold squareF at h
  simp only [List.mem_cons, List.not_mem_nil, or_false] at h
  obtain ⟨hh, w, s⟩ := F
  have hc : k / w < hh - 1 ∧ k % w < w - 1 := hc
  have h : x = k ∨ x = k + 1 ∨ x = k + w ∨ x = k + w + 1 := h
  have k0 : 0 ≤ k ∧ k < hh * w := k0
  have w1 : 1 ≤ w := w1
  have w6 : w ≤ 6 := w6
  show 0 ≤ x ∧ x < hh * w
  have e : w = 1 ∨ w = 2 ∨ w = 3 ∨ w = 4 ∨ w = 5 ∨ w = 6 := by omega
  rcases e with rfl | rfl | rfl | rfl | rfl | rfl <;> omega
theorem in_squares {q : List Int} (h : q ∈ squaresF F) : ∃ k, k ∈ cellsF (F.h * F.w) ∧ isCorner F k = true ∧ q = squareF F k := by
  unfold squaresF at h
  obtain ⟨k, hk, rfl⟩ := List.mem_map.mp h
  obtain ⟨a, b⟩ := List.mem_filter.mp hk
  exact ⟨k, a, b, rfl⟩
theorem ne_square (C : Cx2 F fl ms) (RO : RuOk F R) (hh : holdsP F R fl) (ok : ThOk F t) (hf : fitsP .square F R t) (hs : ∀ k, t.more = [k] → ∀ x ∈ squareAt F k, x ≠ t.c → onlyF (vF ms x) t.s = true) : vF fl t.c ≠ t.s := by
  obtain ⟨hk, he, k, hm, hc⟩ := hf
  unfold holdsP at hh
  rw [hk] at hh
  have hs := hs k hm
  unfold squareAt at hc hs
  split at hc
  · next hb =>
    rw [if_pos hb] at hs
    intro z
    refine hh (squareF F k) (List.mem_map.mpr ⟨k, List.mem_filter.mpr ⟨hb.1, hb.2⟩, rfl⟩) ?_
    have : ((squareF F k).filter fun c => decide (vF fl c = R.s)) = squareF F k := List.filter_eq_self.mpr fun x hx => by
      by_cases e : x = t.c
      · rw [e, z, he]; simp
      · have := C.only (square_in C.fo hb.1 hb.2 hx) ok.s1 ok.s6 (hs x hx e)
        rw [this, he]; simp
    rw [this]
    rfl
  · cases hc
theorem Reach.mono {cs ds : List Int} (h : ∀ x ∈ cs, x ∈ ds) {a b : Int} (r : Reach F cs a b) : Reach F ds a b := by
  induction r with
  | base z => exact .base (h _ z)
  | step _ n m ih => exact .step ih n (h _ m)
theorem Reach.head {cs : List Int} {a b x : Int} (ha : a ∈ cs) (hn : b ∈ besideF F a) (r : Reach F cs b x) : Reach F cs a x := by
  induction r with
  | base z => exact .step (.base ha) hn z
  | step _ n m ih => exact .step ih n m
theorem Reach.symm (fo : FlOk F) {cs : List Int} (hb : ∀ x ∈ cs, 0 ≤ x ∧ x < F.h * F.w) {a b : Int} (r : Reach F cs a b) : Reach F cs b a := by
  induction r with
  | base z => exact .base z
  | step r n m ih => exact Reach.head m (beside_symm fo (hb _ r.mem).1 (hb _ r.mem).2 n) ih
theorem Reach.trans {cs : List Int} {a b c : Int} (r : Reach F cs a b) (q : Reach F cs b c) : Reach F cs a c := by
  induction q with
  | base z => exact r
  | step _ n m ih => exact .step ih n m
theorem joined_two (fo : FlOk F) {cs : List Int} (hb : ∀ x ∈ cs, 0 ≤ x ∧ x < F.h * F.w) (j : JoinedP F cs) {x y : Int} (hx : x ∈ cs) (hy : y ∈ cs) : Reach F cs x y := by
  cases cs with
  | nil => cases hx
  | cons a r => exact (Reach.symm fo hb (j a r rfl x hx)).trans (j a r rfl y hy)
theorem with_in (RO : RuOk F R) {x : Int} (h : x ∈ withF R fl) : (0 ≤ x ∧ x < F.h * F.w) ∧ vF fl x = R.s := by
  obtain ⟨a, b⟩ := List.mem_filter.mp h
  exact ⟨RO.inn x a, of_decide_eq_true b⟩
theorem in_cellsF {n x : Int} (h0 : 0 ≤ x) (h1 : x < n) : x ∈ cellsF n := by
  unfold cellsF
  exact List.mem_map.mpr ⟨x.toNat, List.mem_range.mpr (by omega), by omega⟩
theorem to_with (RO : RuOk F R) (hk : R.k = .joined ∨ R.k = .nosquare ∨ R.k = .ring) {x : Int} (h0 : 0 ≤ x ∧ x < F.h * F.w) (h : vF fl x = R.s) : x ∈ withF R fl := by
  refine List.mem_filter.mpr ⟨?_, decide_eq_true h⟩
  rw [RO.all hk]
  exact in_cellsF h0.1 h0.2
theorem in_may (C : Cx2 F fl ms) {x : Int} (h0 : 0 ≤ x ∧ x < F.h * F.w) (h : vF fl x = s) : x ∈ mayF ms s := by
  refine List.mem_filter.mpr ⟨?_, C.may h0 h⟩
  rw [rawC_cells]
  refine in_cellsF h0.1 ?_
  have := C.ma.len
  omega
theorem ne_reach (C : Cx2 F fl ms) (RO : RuOk F R) (hh : holdsP F R fl) (ok : ThOk F t) (hf : fitsP .reach F R t) (hs : (∀ x ∈ t.more, onlyF (vF ms x) R.s = true) ∧ (R.s = t.s → ∀ d, t.more = [d] → ¬ Reach F (((mayF ms R.s).filter fun x => !decide (x = t.c)) ++ [t.c]) t.c d) ∧
      (R.s ≠ t.s → ∀ d e, t.more = [d, e] → ¬ Reach F ((mayF ms R.s).filter fun x => !decide (x = t.c)) d e)) : vF fl t.c ≠ t.s := by
  obtain ⟨hk, hw, hx⟩ := hf
  have hk3 : R.k = .joined ∨ R.k = .nosquare ∨ R.k = .ring := hk.elim .inl fun z => .inr (.inr z)
  have j : JoinedP F (withF R fl) := by
    unfold holdsP at hh
    rcases hk with hk | hk <;> rw [hk] at hh
    · exact hh
    · exact hh.2
  have s1 := RO.s1 (.inr hk3)
  have s6 := C.fo.s6
  have s0 := RO.s0
  have on := fun x (h : x ∈ t.more) => to_with RO hk3 (hx x h).2 (C.only (hx x h).2 s1 (by omega) (hs.1 x h))
  have wb : ∀ x ∈ withF R fl, 0 ≤ x ∧ x < F.h * F.w := fun x h => (with_in RO h).1
  intro z
  rcases hw with ⟨h1, d, hm⟩ | ⟨h1, d, e, hm⟩
  · have hd : d ∈ t.more := by rw [hm]; exact List.mem_singleton.mpr rfl
    refine hs.2.1 h1 d hm ((joined_two C.fo wb j (to_with RO hk3 ⟨ok.c0, ok.c1⟩ (z.trans h1.symm)) (on d hd)).mono fun x hx => ?_)
    by_cases e : x = t.c
    · rw [e]; simp
    · exact List.mem_append_left _ (List.mem_filter.mpr ⟨in_may C (with_in RO hx).1 (with_in RO hx).2, by simp [e]⟩)
  · have hd : d ∈ t.more := by rw [hm]; simp
    have he : e ∈ t.more := by rw [hm]; simp
    refine hs.2.2 h1 d e hm ((joined_two C.fo wb j (on d hd) (on e he)).mono fun x hx => ?_)
    have : x ≠ t.c := fun y => h1 (by rw [← z, ← y]; exact (with_in RO hx).2.symm)
    exact List.mem_filter.mpr ⟨in_may C (with_in RO hx).1 (with_in RO hx).2, by simp [this]⟩
theorem ne_turn (C : Cx2 F fl ms) (RO : RuOk F R) (hh : holdsP F R fl) (ok : ThOk F t) (hf : fitsP .turn F R t) (hs : (t.more = [] → ((nearF F t.c t.c).filter fun x => standsF (vF ms x) R.s).length < 2 ∨ 2 < ((nearF F t.c t.c).filter fun x => onlyF (vF ms x) R.s).length) ∧
      ∀ d, t.more = [d] → onlyF (vF ms d) R.s = true ∧ (R.s = t.s → 2 ≤ ((nearF F d t.c).filter fun x => onlyF (vF ms x) R.s).length) ∧ (R.s ≠ t.s → ((nearF F d t.c).filter fun x => standsF (vF ms x) R.s).length < 2)) : vF fl t.c ≠ t.s := by
  obtain ⟨hk, hw⟩ := hf
  have hk3 : R.k = .joined ∨ R.k = .nosquare ∨ R.k = .ring := .inr (.inr hk)
  unfold holdsP at hh
  rw [hk] at hh
  have hh : ∀ c ∈ withF R fl, ((besideF F c).filter fun x => decide (x ∈ withF R fl)).length = 2 := hh.1
  have s1 := RO.s1 (.inr hk3)
  have s6 := C.fo.s6
  have s0 := RO.s0
  have hc : 0 ≤ t.c ∧ t.c < F.h * F.w := ⟨ok.c0, ok.c1⟩
  intro z
  have up : ∀ a, 0 ≤ a ∧ a < F.h * F.w → ((nearF F a t.c).filter fun x => onlyF (vF ms x) R.s).length ≤ ((nearF F a t.c).filter fun x => decide (x ∈ withF R fl)).length := fun a ha => cnt_le fun x hx hp => by
    have bx := beside_in C.fo ha.1 ha.2 (List.mem_filter.mp hx).1
    exact decide_eq_true (to_with RO hk3 bx (C.only bx s1 (by omega) hp))
  have dn : ∀ a, 0 ≤ a ∧ a < F.h * F.w → ((nearF F a t.c).filter fun x => decide (x ∈ withF R fl)).length ≤ ((nearF F a t.c).filter fun x => standsF (vF ms x) R.s).length := fun a ha => cnt_le fun x hx hp => by
    have hw := with_in RO (of_decide_eq_true hp)
    exact C.may hw.1 hw.2
  rcases hw with ⟨hm, h1⟩ | ⟨d, hm, hd⟩
  · have h2 := hh t.c (to_with RO hk3 hc (z.trans h1.symm))
    have e : nearF F t.c t.c = besideF F t.c := List.filter_eq_self.mpr fun x hx => by
      have := beside_ne C.fo hc.1 hc.2 hx
      simp [this]
    have u := up t.c hc
    have d := dn t.c hc
    rw [e] at u d
    have hs := hs.1 hm
    rw [e] at hs
    omega
  · obtain ⟨g1, g2, g3⟩ := hs.2 d hm
    have bd := beside_in C.fo hc.1 hc.2 hd
    have h2 := hh d (to_with RO hk3 bd (C.only bd s1 (by omega) g1))
    rw [cnt_out (beside_nodup C.fo d) (beside_symm C.fo hc.1 hc.2 hd)] at h2
    have u := up d bd
    have w := dn d bd
    unfold nearF at u w g2 g3
    by_cases e : R.s = t.s
    · rw [if_pos (decide_eq_true (to_with RO hk3 hc (z.trans e.symm)))] at h2
      have := g2 e
      omega
    · rw [if_neg (fun y => e ((with_in RO (of_decide_eq_true y)).2.symm.trans z))] at h2
      have := g3 e
      omega
theorem ne_pair (C : Cx2 F fl ms) (RO : RuOk F R) (hh : holdsP F R fl) (ok : ThOk F t) (hf : fitsP .pair F R t) (hs : ∀ d e, t.more = [d, e] → ((signsF (Builtin.bitOr (vF ms d) (vF ms e))).filter fun x => !decide (x = t.s)).length ≤ 1) : vF fl t.c ≠ t.s := by
  obtain ⟨hk, hc, d, e, hm, ne, hd, he⟩ := hf
  unfold holdsP at hh
  rw [hk] at hh
  have s6 := C.fo.s6
  have bd := sub_others RO hd
  have be := sub_others RO he
  have md := C.m bd
  have me := C.m be
  have vd := C.v bd
  have ve := C.v be
  have hs := hs d e hm
  intro z
  have := two_in (l := (signsF (Builtin.bitOr (vF ms d) (vF ms e))).filter fun x => !decide (x = t.s)) (x := vF fl d) (y := vF fl e)
    (List.mem_filter.mpr ⟨or_st md.1 md.2 me.1 me.2 vd.1 (by omega) (.inl (C.st d bd.1 bd.2)), by
      have := map_inj hh d (oth hd).1 t.c hc (oth hd).2
      rw [z] at this
      simp [this]⟩)
    (List.mem_filter.mpr ⟨or_st md.1 md.2 me.1 me.2 ve.1 (by omega) (.inr (C.st e be.1 be.2)), by
      have := map_inj hh e (oth he).1 t.c hc (oth he).2
      rw [z] at this
      simp [this]⟩) (map_inj hh d (oth hd).1 e (oth he).1 ne)
  omega
end
section
variable {F : Fl} {fl ms : List Int} {R : Ru} {t : Th} {c s : Int}
/-! ### a rule asks its cells alone -/
theorem with_congr {fl' : List Int} (h : ∀ c ∈ R.cells, vF fl c = vF fl' c) : withF R fl = withF R fl' := by
  unfold withF
  exact List.filter_congr fun x hx => by rw [h x hx]
theorem holds_congr {fl' : List Int} (RO : RuOk F R) (fo : FlOk F) (h : ∀ c ∈ R.cells, vF fl c = vF fl' c) (hh : holdsP F R fl) : holdsP F R fl' := by
  have m : R.cells.map (vF fl) = R.cells.map (vF fl') := List.map_congr_left h
  have w := with_congr h
  have al := RO.all
  unfold holdsP at hh ⊢
  cases hk : R.k <;> rw [hk] at hh al
  · show (R.cells.map (vF fl')).Nodup
    rw [← m]; exact hh
  · show (R.cells.map (vF fl')).sum = R.n
    rw [← m]; exact hh
  · intro i x y hx hy
    rw [← h x (List.mem_of_getElem? hx), ← h y (List.mem_of_getElem? hy)]
    exact hh i x y hx hy
  · show seenN 0 (R.cells.map (vF fl')) = R.n
    rw [← m]; exact hh
  · show ((withF R fl').length : Int) = R.n
    rw [← w]; exact hh
  · show JoinedP F (withF R fl')
    rw [← w]; exact hh
  · intro q hq
    obtain ⟨k, a, b, rfl⟩ := in_squares hq
    have e : ((squareF F k).filter fun c => decide (vF fl' c = R.s)) = (squareF F k).filter fun c => decide (vF fl c = R.s) := List.filter_congr fun x hx => by
      have bx := square_in fo a b hx
      rw [h x (by rw [al (.inr (.inl rfl))]; exact in_cellsF bx.1 bx.2)]
    rw [e]
    exact hh _ hq
  · show (∀ c ∈ withF R fl', ((besideF F c).filter fun x => decide (x ∈ withF R fl')).length = 2) ∧ JoinedP F (withF R fl')
    rw [← w]; exact hh
/-! ### each choice has a number -/
theorem vF_set {l : List Int} {o c v : Int} (o0 : 0 ≤ o) (o1 : o < l.length) (c0 : 0 ≤ c) : vF (l.set o.toNat v) c = if c = o then v else vF l c := by
  unfold vF
  rw [List.getD_eq_getElem?_getD, List.getElem?_set]
  by_cases e : c = o
  · rw [if_pos (by rw [e]), if_pos (by omega), if_pos e]
    rfl
  · rw [if_neg (by omega), if_neg e, List.getD_eq_getElem?_getD]
theorem idx_vF {l : List Int} {v : Int} (h : v ∈ l) : vF l ((l.idxOf v : Nat) : Int) = v := by
  unfold vF
  have := List.idxOf_lt_length_of_mem h
  rw [Int.toNat_natCast, List.getD_eq_getElem?_getD, List.getElem?_eq_getElem this, Option.getD_some, List.getElem_idxOf]
def encF (ms fl : List Int) : List Int → Nat
  | [] => 0
  | o :: os => (signsF (vF ms o)).idxOf (vF fl o) + (signsF (vF ms o)).length * encF ms fl os
theorem many_cons (ms : List Int) (o : Int) (os : List Int) : manyF ms (o :: os) = (signsF (vF ms o)).length * manyF ms os := by
  have g : ∀ (l : List Nat) (a : Nat), l.foldl (· * ·) a = a * l.foldl (· * ·) 1 := fun l => by
    induction l with
    | nil => intro a; simp
    | cons b l ih => intro a; rw [List.foldl_cons, List.foldl_cons, ih (a * b), ih (1 * b), Nat.one_mul, Nat.mul_assoc]
  unfold manyF
  rw [List.map_cons, List.foldl_cons, g, Nat.one_mul]
theorem enc_lt : ∀ (os : List Int), (∀ o ∈ os, vF fl o ∈ signsF (vF ms o)) → encF ms fl os < manyF ms os
  | [], _ => by simp [encF, manyF]
  | o :: os, h => by
    have ih := enc_lt os fun x hx => h x (List.mem_cons_of_mem _ hx)
    have l1 := List.idxOf_lt_length_of_mem (h o List.mem_cons_self)
    rw [many_cons]
    unfold encF
    calc _ < (signsF (vF ms o)).length + (signsF (vF ms o)).length * encF ms fl os := by omega
      _ = (signsF (vF ms o)).length * (encF ms fl os + 1) := by rw [Nat.mul_add, Nat.mul_one, Nat.add_comm]
      _ ≤ _ := Nat.mul_le_mul_left _ ih
theorem fill_enc : ∀ (os : List Int) (fl0 : List Int), (∀ o ∈ os, vF fl o ∈ signsF (vF ms o)) → (∀ o ∈ os, 0 ≤ o ∧ o < fl0.length) → ∀ c : Int, 0 ≤ c → vF (fillF ms os (encF ms fl os : Nat) fl0) c = if c ∈ os then vF fl c else vF fl0 c
  | [], fl0, _, _, c, c0 => by simp [fillF]
  | o :: os, fl0, h, hb, c, c0 => by
    have ho := h o List.mem_cons_self
    have l1 := List.idxOf_lt_length_of_mem ho
    have b := hb o List.mem_cons_self
    have em : ((encF ms fl (o :: os) : Nat) : Int) % ((signsF (vF ms o)).length : Nat) = ((signsF (vF ms o)).idxOf (vF fl o) : Nat) := by
      rw [← Int.natCast_emod]
      congr 1
      show ((signsF (vF ms o)).idxOf (vF fl o) + (signsF (vF ms o)).length * encF ms fl os) % _ = _
      rw [Nat.add_mul_mod_self_left, Nat.mod_eq_of_lt l1]
    have ed : ((encF ms fl (o :: os) : Nat) : Int) / ((signsF (vF ms o)).length : Nat) = (encF ms fl os : Nat) := by
      rw [← Int.natCast_ediv]
      congr 1
      show ((signsF (vF ms o)).idxOf (vF fl o) + (signsF (vF ms o)).length * encF ms fl os) / _ = _
      rw [Nat.add_mul_div_left _ _ (by omega), Nat.div_eq_of_lt l1, Nat.zero_add]
    show vF (fillF ms os (((encF ms fl (o :: os) : Nat) : Int) / ((signsF (vF ms o)).length : Nat)) (fl0.set o.toNat (vF (signsF (vF ms o)) (((encF ms fl (o :: os) : Nat) : Int) % ((signsF (vF ms o)).length : Nat))))) c = _
    rw [em, ed, idx_vF ho, fill_enc os _ (fun x hx => h x (List.mem_cons_of_mem _ hx)) (fun x hx => by rw [List.length_set]; exact hb x (List.mem_cons_of_mem _ hx)) c c0, vF_set b.1 b.2 c0]
    by_cases e : c ∈ os
    · rw [if_pos e, if_pos (List.mem_cons_of_mem _ e)]
    · rw [if_neg e]
      by_cases e2 : c = o
      · rw [if_pos e2, e2, if_pos List.mem_cons_self]
      · rw [if_neg e2, if_neg fun z => (List.mem_cons.mp z).elim e2 e]
theorem ne_ways (C : Cx2 F fl ms) (RO : RuOk F R) (hh : holdsP F R fl) (ok : ThOk F t) (hf : fitsP .ways F R t) (hs : ∀ n : Nat, n < manyF ms (othersF R t.c) → ∃ fl0 : List Int, (fl0.length : Int) = F.h * F.w ∧ vF fl0 t.c = t.s ∧ ¬ holdsP F R (fillF ms (othersF R t.c) n fl0)) : vF fl t.c ≠ t.s := by
  have hc : t.c ∈ R.cells := hf
  have i1 : ∀ o ∈ othersF R t.c, vF fl o ∈ signsF (vF ms o) := fun o ho => C.inS (sub_others RO ho)
  obtain ⟨fl0, l0, h0, hn⟩ := hs _ (enc_lt (othersF R t.c) i1)
  intro z
  refine hn (holds_congr RO C.fo (fun c hcc => ?_) hh)
  rw [fill_enc (othersF R t.c) fl0 i1 (fun o ho => by rw [l0]; exact sub_others RO ho) c (RO.inn c hcc).1]
  by_cases e : c = t.c
  · rw [if_neg (fun y => (oth y).2 e), e, z, h0]
  · have k : c ∈ othersF R t.c := List.mem_filter.mpr ⟨hcc, by simp [e]⟩
    rw [if_pos k]
end
/-! ### no thought strikes what stands in the filling -/
theorem good_ne {D : PuD} {fl ms : List Int} {t : Th} (C : Cx2 D.F fl ms) (hr : ∀ R ∈ D.rules, RuOk D.F R ∧ holdsP D.F R fl) (hcl : ∀ c, 0 ≤ c → c < D.F.h * D.F.w → vF D.clues c = 0 ∨ vF D.clues c = vF fl c) (g : Good D ms t) : vF fl t.c ≠ t.s := by
  obtain ⟨ok, st, κ, R, hR, hf, hs⟩ := g
  obtain ⟨RO, hh⟩ := hr R hR
  cases κ with
  | clue =>
    obtain ⟨h1, h2⟩ : vF D.clues t.c ≠ 0 ∧ vF D.clues t.c ≠ t.s := hs
    rcases hcl t.c ok.c0 ok.c1 with h | h
    · exact absurd h h1
    · exact fun z => h2 (h.trans z)
  | only => exact ne_only C RO hh ok hf hs
  | place => exact ne_place C RO hh ok hf hs
  | count => exact ne_count C RO hh ok hf hs
  | step => exact ne_step C RO hh ok hf hs
  | sum => exact ne_sum C RO hh ok hf hs
  | square => exact ne_square C RO hh ok hf hs
  | reach => exact ne_reach C RO hh ok hf hs
  | turn => exact ne_turn C RO hh ok hf hs
  | pair => exact ne_pair C RO hh ok hf hs
  | ways => exact ne_ways C RO hh ok hf hs
theorem steps_cx {D : PuD} {ms ms' fl : List Int} (fo : FlOk D.F) (M : Meets2 D fl ms) (Mo : MaOk D.F ms) (S : Steps D ms ms') : Cx2 D.F fl ms' := by
  induction S with
  | refl => exact ⟨fo, M.len, M.sg, M.st, Mo⟩
  | step S g ih =>
    rename_i m1 t
    have ne := good_ne ih M.rules M.clues g
    refine ⟨fo, M.len, M.sg, fun c c0 c1 => ?_, (struck_ok ih.ma g).1⟩
    unfold struckF
    rw [show m1.getD t.c.toNat 0 = vF m1 t.c from rfl, if_pos g.st, vF_set g.ok.c0 (by rw [ih.ma.len]; exact g.ok.c1) c0]
    by_cases e : c = t.c
    · rw [if_pos e, e]
      have v := ih.v ⟨g.ok.c0, g.ok.c1⟩
      have s6 := fo.s6
      exact keep_of (ih.m ⟨g.ok.c0, g.ok.c1⟩).1 (ih.m ⟨g.ok.c0, g.ok.c1⟩).2 g.ok.s1 g.ok.s6 v.1 (by omega) g.st (ih.st _ g.ok.c0 g.ok.c1) ne
    · rw [if_neg e]
      exact ih.st c c0 c1
theorem steps_sound {D : PuD} {ms ms' fl : List Int} (fo : FlOk D.F) (M : Meets2 D fl ms) (Mo : MaOk D.F ms) (S : Steps D ms ms') : ∀ c, 0 ≤ c → c < D.F.h * D.F.w → standsF (vF ms' c) (vF fl c) = true := (steps_cx fo M Mo S).st
end Ck

set_option maxRecDepth 100000
set_option maxHeartbeats 4000000
namespace Ck
open PySem PySem.Spec PyProof.Rows L2 Evl
section
variable {X : Cx} {σ : L2.St} {H : Hp} {D : Ends} {e a b o : Expr} {es : List Expr} {pos p pc apos : Pos} {r : Rt}
/-- rows.append(_law_row(..)) -/
theorem s_appRow {l : Addr} {xs : List V} {vs : List V} {F : Fl} {fl : List Int} {k : Nat} (DR : DRow X.prog X.w X.K X.mg X.base k) (hr : Room k X.A) (hl : H l = some (.lst xs)) (ha : XV X σ H o (.ref l)) (hE : XE X σ H (e :: es) vs) (hz : xs.length < 1000)
    (hsp : ∀ H1, Ex H H1 → ∃ (q : Addr) (cell : Int), vs = [.int F.h, .int F.w, .int F.s, .ref q, .int cell] ∧ FlOk F ∧ FiAt F H1 q fl ∧ (∀ x ∈ fl, 1 ≤ x ∧ x ≤ F.s) ∧ LamX.Tabs (rowT X.K) H1)
    (kk : ∀ v H1, LamX.ExtN H H1 → LamX.Tabs (rowT X.K) H1 → RowV F fl v → D.nx σ (upd H1 l (.lst (xs ++ [v]))))
    (hg : Gl X "_law_row" := by rfl) (he : starEach (e :: es) X.env = (false, eval e X.env) :: starEach es X.env := by rfl) (hpl : (backTo p (starEach es X.env)).any (·.1) = false := by rfl)
    (hs : swapsWith (.Call (.Attribute o "append" apos) [.Call (.Name "_law_row" pc) (e :: es) [] p] [] p) none pos.line X.env = pure false := by rfl)
    {p' : Pos} (hs' : swapsWith (.Call (.Attribute o "append" apos) [.Call (.Name "_law_row" pc) (e :: es) [] p] [] p') none pos.line X.env = pure false := by rfl)
    (hbase : attributeBase o "append" X.env (eval o X.env) = eval o X.env := by rfl)
    (hfew : ((backTo p' (starEach [.Call (.Name "_law_row" pc) (e :: es) [] p] X.env)).all (fun x => !x.1) && (backToKw p' (keywordEach [] X.env)).all (fun x => x.1.isSome)
      && decide ([Expr.Call (.Name "_law_row" pc) (e :: es) [] p].length + ([] : List Keyword).length + (if ([] : List Keyword).isEmpty then 0 else 1) < 30)) = true := by rfl)
    (hline : (apos.endLine == p'.line) = true := by rfl) (hst : starEach [.Call (.Name "_law_row" pc) (e :: es) [] p] X.env = (false, eval (.Call (.Name "_law_row" pc) (e :: es) [] p) X.env) :: starEach [] X.env := by rfl) (hplain : (backTo p' (starEach [] X.env)).any (·.1) = false := by rfl) :
    semS X (.Expr (.Call (.Attribute o "append" apos) [.Call (.Name "_law_row" pc) (e :: es) [] p] [] p') pos) D σ H := by
  obtain ⟨f, fd, FO, bb, hm, kp⟩ := DR
  refine to_s (ps_expr (pe_bm PySem.F.plainAttrs_list PySem.F.slot_list_append PySem.F.type_list_append mt_append pe_sem (pa_cons (pe_call (dvs := []) FO hr hg hm kp bb .nil pass0 pa_sem (by decide) he hpl) pa_nil hst) hbase hfew hline hst hplain) hs') (ha H (Ex.refl H) _ fun _ H1 e1 g1 => ?_)
  cases g1
  refine ⟨Or.inl ⟨rfl, xs, sq_of (e1 l _ hl)⟩, hE H1 e1 _ fun us H2 e2 g => ?_⟩
  obtain ⟨q, cell, ev, fo, hq, hfl, hT⟩ := hsp H2 (e1.trans e2)
  refine ⟨F, q, fl, cell, by rw [g, List.append_nil, ev], fo, hq, hfl, hT, fun v H3 eN hT3 hv => ?_⟩
  exact ⟨l, xs, v, rfl, rfl, eN l _ ((e1.trans e2) l _ hl) (nt_lst _), sz_lt (by omega), kk v H3 ((LamX.ExtN.of (e1.trans e2)).trans eN) hT3 hv⟩
/-- o.m(e, ..), by arguments told of -/
theorem x_methA {m : Str} {k : Nat} {C dx i : Addr} {fs : List (Str × V)} {ps : List Str} {R : Rl} (D : MF X.prog X.w X.K X.mg X.base k C m ps R) (c : Cls X.K C) (hr : Room k X.A) (ho : XV X σ H o (.ref i)) (hi : H i = some (.ins C dx fs)) (hn : fs.lookup m = none)
    (ha : XA X σ H (e :: es) fun vs H1 => ∃ r', R (.ref i :: vs) H1 r' ∧ ∀ v H2, Ex H1 H2 → r'.go H1 v H2 → r.go H1 v H2) {pl : Sem Bool}
    (hst : starEach (e :: es) X.env = (false, eval e X.env) :: starEach es X.env := by rfl) (hpl : (backTo pos (starEach es X.env)).any (·.1) = false := by rfl)
    (ht : eval (.Call (.Attribute o m apos) (e :: es) [] pos) X.env = (do
      let ov ← eval o X.env
      standAt apos.atName
      let (f, first) ← holding [ov] (getMethod ov m pl)
      callWith pos f first (backTo pos (starEach (e :: es) X.env)) (backToKw pos (keywordEach [] X.env))) := by rfl) : XG X σ H (.Call (.Attribute o m apos) (e :: es) [] pos) r := by
  obtain ⟨f, ⟨fd, F, b⟩, hm⟩ := D
  exact fun H1 e1 Q q => to_e (pe_meth (dvs := []) pe_sem c hm F hr b .nil pass0 pa_sem hst hpl ht) (ho H1 e1 _ fun _ H2 e2 g2 => by
    cases g2
    exact ⟨i, dx, fs, rfl, (e1.trans e2) i _ hi, hn, ha H2 (e1.trans e2) _ fun us H3 e3 ⟨r', h1, h2⟩ => ⟨r', by rw [List.append_nil]; exact h1, fun v H4 e4 g4 => q v H4 ((e2.trans e3).trans e4) (go_back (e2.trans e3) (h2 v H4 e4 g4))⟩⟩)
/-- an item of a tuple told of -/
theorem x_ixTP {i : Int} {Pc : List V → Hp → Prop} {Px : V → Hp → Prop} (ha : XG X σ H a (.gen fun v H => ∃ q vs, v = .ref q ∧ H q = some (.tup vs) ∧ Pc vs H)) (hb : XV X σ H b (.int i)) (hp : ∀ vs H1, Pc vs H1 → ∃ x, atI vs i = some x ∧ Px x H1) (mono : ∀ x H1 H2, Px x H1 → Ex H1 H2 → Px x H2) (hs : PlainIx b := by exact fun _ _ => rfl) : XG X σ H (.Subscript a b pos) (.gen Px) := fun H1 e1 Q k =>
  to_e (pe_ix ix_tup pe_sem pe_sem hs) (ha H1 e1 _ fun _ H2 e2 g2 => by
    obtain ⟨q, vs, rfl, hq, hP⟩ := g2
    obtain ⟨x, hx, hPx⟩ := hp vs H2 hP
    exact hb H2 (e1.trans e2) _ fun _ H3 e3 g3 => by
      cases g3
      exact ⟨q, vs, i, x, rfl, rfl, SqT.of (e3 q _ hq), hx, k _ H3 (e2.trans e3) (mono _ _ _ hPx e3)⟩)
/-- a is True -/
theorem c_isB {c d : Bool} {j : Nat} {pos' : Pos} (ha : XV X σ H a (.bl c)) : XC X σ H .Is a (.Constant (.bool d) j pos') (.bl (decide (c = d))) := c_opV op_isBl ha x_bl fun H1 _ Q q => ⟨c, d, rfl, rfl, q H1 (Ex.refl H1)⟩
end
theorem exn_l {K : PySem.W.Frag} {H H' : Hp} {a : Addr} {xs : List V} (e : LamX.ExtN H H') (h : SqL K H a xs) : SqL K H' a xs := by
  rcases h with (h | ⟨o, h⟩) | h
  · exact .inl (.inl (e a _ h fun ps z => by cases z))
  · exact .inl (.inr ⟨o, e a _ h fun ps z => by cases z⟩)
  · exact .inr h
theorem tabs_upd {T : List (Addr × Str)} {H : Hp} {l : Addr} {xs ys : List V} (h : LamX.Tabs T H) (hl : H l = some (.lst xs)) : LamX.Tabs T (upd H l (.lst ys)) := fun p hp => by
  obtain ⟨ps, h1, h2, h3⟩ := h p hp
  refine ⟨ps, ?_, h2, fun pos cv hc => ?_⟩
  · rw [upd_ne (fun z => by rw [z, hl] at h1; cases h1)]; exact h1
  · obtain ⟨c, rfl, hcc⟩ := h3 pos cv hc
    refine ⟨c, rfl, ?_⟩
    rw [upd_ne (fun z => by rw [z, hl] at hcc; cases hcc)]; exact hcc
theorem exn_upd {H H' : Hp} {l : Addr} {o : HO} (e : LamX.ExtN H H') (h : H l = none) : LamX.ExtN H (upd H' l o) := fun b u hb n => by
  rw [upd_ne (fun z => by rw [z, h] at hb; cases hb)]
  exact e b u hb n
theorem rows_lines {F : Fl} {fl : List Int} : ∀ {rows : List V}, (∀ v ∈ rows, RowV F fl v) → ∃ lines : List Str, rows = lines.map V.str ∧ ∀ z ∈ lines, ∃ R, z = lineOf R ∧ RowOk F R ∧ holdsP F R fl
  | [], _ => ⟨[], rfl, fun z hz => nomatch hz⟩
  | v :: rows, h => by
    obtain ⟨lines, rfl, k⟩ := rows_lines (rows := rows) fun x hx => h x (List.mem_cons_of_mem _ hx)
    obtain ⟨R, rfl, a, b⟩ := h v List.mem_cons_self
    refine ⟨lineOf R :: lines, rfl, fun z hz => ?_⟩
    rcases List.mem_cons.mp hz with rfl | hz
    · exact ⟨R, rfl, a, b⟩
    · exact k z hz
theorem sumN_le : ∀ ms : List Int, (∀ m ∈ ms, 0 ≤ m ∧ m < 32) → sumN ms ≤ 31 * ms.length
  | [], _ => Nat.le_refl _
  | m :: ms, h => by
    have h1 := sumN_le ms fun x hx => h x (List.mem_cons_of_mem _ hx)
    have h2 := h m List.mem_cons_self
    unfold sumN at h1 ⊢
    rw [List.map_cons, List.sum_cons, List.length_cons]
    omega
theorem ru_all {K : PySem.W.Frag} {F : Fl} {H : Hp} : ∀ {ps : List Addr} {Rs : List Ru}, Paired (fun p R => RuAt K F H p R) ps Rs → ∀ R ∈ Rs, RuOk F R
  | _, _, .nil, _, h => nomatch h
  | _, _, .cons h t, R, hR => by
    rcases List.mem_cons.mp hR with rfl | hR
    · exact h.1
    · exact ru_all t R hR
theorem vF_at {l : List Int} {c : Int} (h0 : 0 ≤ c) (h1 : c < l.length) : l[c.toNat]? = some (vF l c) := by
  unfold vF
  have h2 : c.toNat < l.length := by omega
  rw [List.getElem?_eq_getElem h2, List.getD_eq_getElem?_getD, List.getElem?_eq_getElem h2]
  rfl
theorem meets_of {F : Fl} {Rs : List Ru} {fl ms cl : List Int} {n : Nat} (dr : Drawn F.s n fl ms cl) (hn : (n : Int) = F.h * F.w) (hR : ∀ R ∈ Rs, RuOk F R ∧ holdsP F R fl) : Meets2 ⟨F, Rs, cl⟩ fl ms where
  len := by rw [dr.lf]; exact hn
  rules := hR
  sg := dr.f
  clues := fun c c0 c1 => by
    have c1 : c < F.h * F.w := c1
    exact dr.cs c.toNat _ _ (vF_at c0 (by rw [dr.lc]; omega)) (vF_at c0 (by rw [dr.lf]; omega))
  st := fun c c0 c1 => by
    have c1 : c < F.h * F.w := c1
    exact dr.st c.toNat _ _ (vF_at c0 (by rw [dr.lm]; omega)) (vF_at c0 (by rw [dr.lf]; omega))
theorem two_at {x y : V} {i : Int} (h0 : 0 ≤ i) (h1 : i < 2) : ∃ z, atI [x, y] i = some z ∧ (z = x ∨ z = y) := by
  have : i = 0 ∨ i = 1 := by omega
  rcases this with rfl | rfl
  · exact ⟨x, rfl, .inl rfl⟩
  · exact ⟨y, rfl, .inr rfl⟩
theorem three_at {x y z : V} {i : Int} (h0 : 0 ≤ i) (h1 : i < 3) : ∃ u, atI [x, y, z] i = some u ∧ (u = x ∨ u = y ∨ u = z) := by
  have : i = 0 ∨ i = 1 ∨ i = 2 := by omega
  rcases this with rfl | rfl | rfl
  · exact ⟨x, rfl, .inl rfl⟩
  · exact ⟨y, rfl, .inr (.inl rfl)⟩
  · exact ⟨z, rfl, .inr (.inr rfl)⟩
theorem snoc_at' {l : List Int} {x : Int} {i : Nat} (h : l.length = i) : atI ((l ++ [x]).map V.int) (i : Int) = some (V.int x) := by
  refine atI_of (by omega) ?_
  rw [Int.toNat_natCast, List.getElem?_map, List.getElem?_append_right (by omega), h, Nat.sub_self]
  rfl
theorem one_at {s : Int} (s1 : 1 ≤ s) (s5 : s ≤ 5) : atI [V.int 1, V.int 2, V.int 4, V.int 8, V.int 16] (s - 1) = some (V.int (oneF s)) := at_intsZ (ns := [1, 2, 4, 8, 16]) (by omega) (by show s - 1 < 5; omega)
end Ck

set_option maxRecDepth 100000
set_option maxHeartbeats 4000000
namespace Ck
open PySem PySem.Spec PyProof.Rows L2 Evl
abbrev LX (P : Program) (w : World) (K : PySem.W.Frag) (mg : Str → Option Value) (base : Heap) (f : Addr) (cdv : Value) (A : Around) (outer : List Env) (s : Shared) (H : Hp) (E : XK) : Cx := Bd P w K mg base lawNs "law" (defScope (top 90)) f cdv A outer s H E
section
variable {P : Program} {w : World} {K : PySem.W.Frag} {mg : Str → Option Value} {base : Heap} {f : Addr} {cdv : Value} {A : Around} {outer : List Env} {s : Shared} {H0 : Hp} {E : XK}
theorem law_f (T : Top w K mg base) (hr : Room 12 (A.deeper (envOfC "law" (defScope (top 90)) s.heap.objs.size f cdv))) {D : Ends} (hD : ∀ H', D.rt (.bl true) H') {H : Hp} {F : Fl} {Rs : List Ru} {fl ms cl : List Int} {fa p lf : Addr} {x0 x1 x2 x3 x4 x6 x7 x8 x9 x10 x11 x13 x14 x16 x17 : Option V}
    (fo : FlOk F) (s5 : F.s ≤ 5) (FA : FiAt F H fa fl) (sg : ∀ x ∈ fl, 1 ≤ x ∧ x ≤ F.s) (hlf : H lf = some (.lst (ms.map V.int))) (Mo : MaOk F ms) (hst : ∀ c, 0 ≤ c → c < F.h * F.w → standsF (vF ms c) (vF fl c) = true)
    (PA : PuAt K H p ⟨F, Rs, cl⟩) (hcs : ∀ (i : Nat) c x, cl[i]? = some c → fl[i]? = some x → c = 0 ∨ c = x) (hh : ∀ R ∈ Rs, holdsP F R fl) :
    semB (LX P w K mg base f cdv A outer s H0 E) ((defBody (top 90)).drop 14) D [x0, x1, x2, x3, x4, some (.ref fa), x6, x7, x8, x9, x10, x11, some (.ref p), x13, x14, some (.ref lf), x16, x17] H := by
  have S := sc_law
  have hw := fo.hw
  obtain ⟨hfa, hl⟩ := id FA
  have lml := Mo.len
  refine q_when (t_or (t_not (t_val (x_isList (x_v 15) hlf (T.free "isinstance") (T.free "list")))) fun _ => t_c (c_neI (x_len (x_v 15) (.inl (SqL.of hlf)) (T.free "len")) (x_len (x_v 5) (.inl (SqL.of hfa)) (T.free "len")))) (fun hb H1 k1 => absurd hb ?_) (fun hb H1 k1 => ?_)
  · rw [List.length_map, List.length_map, show ms.length = fl.length by omega]
    simp
  refine q_setV 16 S.nd x_bl fun H2 k2 => ?_
  have K2 := k1.trans k2
  refine s_seq (s_forR 9 S.nd (x_len (x_v 5) (.inl (SqL.of (K2 fa _ hfa))) (T.free "len")) (by rw [List.length_map]; omega) (T.free "range") (fun i σ' H' => (∃ x9 b x17, σ' = [x0, x1, x2, x3, x4, some (.ref fa), x6, x7, x8, x9, x10, x11, some (.ref p), x13, x14, some (.ref lf), some (.bl b), x17]) ∧ Ex H H')
    (fun H3 k3 => ⟨⟨_, _, _, rfl⟩, K2.trans k3⟩) ?_ ?_)
  · rintro i σ' H3 hi ⟨⟨x9, b, x17, rfl⟩, K3⟩
    rw [List.length_map, Int.toNat_natCast] at hi
    have i1 : (i : Int) < F.h * F.w := by omega
    have sgi := sg (vF fl i) (vF_mem (by omega) (by omega))
    have mi := Mo.lt (vF ms i) (vF_mem (by omega) (by omega))
    have on := one_of sgi.1 (by omega)
    refine q_setV 17 (v := .int (oneF (vF fl i))) S.nd (x_ixN (x_lst (vs := [.int 1, .int 2, .int 4, .int 8, .int 16]) (e_cons x_int (e_cons x_int (e_cons x_int (e_cons x_int (e_1 x_int))))) (by decide)) (x_sub (x_ixL (v := .int (vF fl i)) (x_v 5) (x_v 9) (SqL.of (K3 fa _ hfa)) (at_intsZ (by omega) (by omega))) x_int) (one_at sgi.1 (by omega))) fun H4 k4 => ?_
    have K4 := K3.trans k4
    refine q_when (t_c (c_eqI (x_mod (x_div (x_ixL (v := .int (vF ms i)) (x_v 15) (x_v 9) (SqL.of (K4 lf _ hlf)) (at_intsZ (by omega) (by omega))) (x_v 17) (by omega)) x_int (by decide)) x_int)) (fun hb H5 k5 => ?_) (fun hb H5 k5 => ?_)
    · exact absurd (of_decide_eq_true hb) (st_one mi.1 mi.2 sgi.1 (by omega) (hst i (by omega) i1))
    have K5 := K4.trans k5
    exact s_one (s_set 16 S.nd (x_and2 (x_v 16) fun _ => x_c (c_eqI (x_ixL (v := .int (vF ms i)) (x_v 15) (x_v 9) (SqL.of (K5 lf _ hlf)) (at_intsZ (by omega) (by omega))) (x_v 17))) fun v H6 k6 gg => by
      cases gg
      exact ⟨⟨_, _, _, rfl⟩, K5.trans k6⟩)
  · rintro σ' H3 ⟨⟨x9, b, x17, rfl⟩, K3⟩
    obtain ⟨po, dx, g, rl, cq, ps, h1, h2, h3, h4, h5⟩ := id (PA.mono K3)
    have kc : Cls K (ga K "Puzzle") := T.cls _
    refine s_one (s_ret (XG.is (x := .bl true) (x_or2 (d := true) (x_not (x_v 16)) fun _ => x_c (XC.is (c_isB (c := true) (x_methA (r := .val (.bl true)) (ok_meets T) kc (hr.mono (by decide)) (x_v 12) h1 rfl (a_cons (x_list (x_v 5) (.inl (SqL.of (K3 fa _ hfa))) (T.free "list")) fun v H4 k4 gg => a_nil fun H5 k5 => ?_))) rfl)) (by simp)) fun v H4 k4 gg => by cases gg; exact hD H4)
    obtain ⟨q, rfl, _, hq⟩ := gg
    exact ⟨_, ⟨p, q, _, fl, rfl, PA.mono ((K3.trans k4).trans k5), ⟨k5 q _ hq, hl⟩, sg, hcs, hh, rfl⟩, fun _ _ _ z => z⟩
end
end Ck

set_option maxRecDepth 100000
set_option maxHeartbeats 4000000
namespace Ck
open PySem PySem.Spec PyProof.Rows L2 Evl
section
variable {P : Program} {w : World} {K : PySem.W.Frag} {mg : Str → Option Value} {base : Heap} {f : Addr} {cdv : Value} {A : Around} {outer : List Env} {s : Shared} {H0 : Hp} {E : XK}
theorem kind_at {k : Int} (h0 : 0 ≤ k) (h1 : k < 11) : atI (kindWs.map V.str) k = some (V.str (kindWs.getD k.toNat "")) := by
  refine atI_of h0 ?_
  have h2 : k.toNat < kindWs.length := by show k.toNat < 11; omega
  rw [List.getElem?_map, List.getElem?_eq_getElem h2, List.getD_eq_getElem?_getD, List.getElem?_eq_getElem h2]
  rfl
theorem law_e (T : Top w K mg base) (hr : Room 12 (A.deeper (envOfC "law" (defScope (top 90)) s.heap.objs.size f cdv))) {D : Ends} (hD : ∀ H', D.rt (.bl true) H') {H : Hp} {F : Fl} {fl ms cl ns : List Int} {rows : List V} {c : Int} {n : Nat} {a fa ma ca ra : Addr} {x8 x9 x10 x12 x13 x14 x15 x16 x17 : Option V}
    (fo : FlOk F) (s5 : F.s ≤ 5) (hw9 : F.h * F.w ≤ 9) (c0 : 0 ≤ c) (hS : SqL K H a (ns.map V.int)) (hfa : H fa = some (.lst (fl.map V.int))) (hma : H ma = some (.lst (ms.map V.int))) (hca : H ca = some (.lst (cl.map V.int))) (hra : H ra = some (.lst rows)) (dr : Drawn F.s n fl ms cl) (hn : (n : Int) = F.h * F.w)
    (rl : 0 < rows.length ∧ rows.length ≤ 4) (hrow : ∀ v ∈ rows, RowV F fl v) :
    semB (LX P w K mg base f cdv A outer s H0 E) ((defBody (top 90)).drop 10) D [some (.ref a), some (.int c), some (.int F.h), some (.int F.w), some (.int F.s), some (.ref fa), some (.ref ma), some (.ref ca), x8, x9, x10, some (.ref ra), x12, x13, x14, x15, x16, x17] H := by
  have S := sc_law
  have lf := dr.lf
  have lm := dr.lm
  have lc := dr.lc
  have cellAt : ∀ (H1 : Hp) (z : Int), 0 ≤ z → SqL K H1 a (ns.map V.int) → rCellAt K [.ref a, .int z] H1 (.val (.int (ns.getD z.toNat 0))) := fun H1 z h0 h => ⟨a, ns, z.toNat, by rw [Int.toNat_of_nonneg h0], h, rfl⟩
  obtain ⟨lines, rfl, hlines⟩ := rows_lines hrow
  rw [List.length_map] at rl
  -- the puzzle
  refine q_set 12 S.nd (r := .gen fun v H' => ∃ (x : Addr) (Rs : List Ru), v = .ref x ∧ PuAt K H' x ⟨F, Rs, cl⟩ ∧ Rs.length = lines.length ∧ ∀ R ∈ Rs, holdsP F R fl) (x_mkA (ok_mkPuzzle T) (hr.mono (by decide)) (T.glo _) (a_cons (x_tup (vs := F.vs) (e_cons (x_v 2) (e_cons (x_v 3) (e_1 (x_v 4)))) (by show 3 ≤ 100000; decide)) fun v H1 k1 gg => a_v (x_v 11) (a_v (x_v 7) (a_nil fun H2 k2 => ?_)))) fun v H1 k1 gg => ?_
  · obtain ⟨q, rfl, _, hq⟩ := gg
    exact ⟨_, ⟨q, ra, ca, F, lines, cl, fun R => holdsP F R fl, rfl, k2 q _ hq, fo, (k1.trans k2) ra _ hra, by omega, hlines, (k1.trans k2) ca _ hca, by omega, dr.c, rfl⟩, fun x H3 k3 ⟨Rs, h1, h2, h3⟩ => ⟨x, Rs, rfl, h1, h2, h3⟩⟩
  obtain ⟨p, Rs, rfl, PA, Rl, hP⟩ := gg
  -- the kinds
  refine q_set 13 S.nd (x_call (r := Perms (cellsF 11)) (ok_laworder T) (hr.mono (by decide)) (e_cons (x_mod (j := 1000003) (x_mul (i := ns.getD 5 0) (j := 69621) (x_call (ok_lawcellat T) (hr.mono (by decide)) (e_cons (x_v 0) (e_1 x_int)) fun H2 k2 => cellAt H2 5 (by decide) (ex_l (k1.trans k2) hS)) x_int (.inr ⟨by decide, by decide⟩)) x_int (by decide)) (e_1 x_int)) fun H2 k2 => ⟨_, _, rfl, by decide, by decide, rfl⟩) fun v H2 k2 gg => ?_
  obtain ⟨oq, os, rfl, hoq, hos⟩ := gg
  have K2 := k1.trans k2
  have e9 := Int.emod_nonneg (c / 360) (by decide : (9 : Int) ≠ 0)
  refine q_l (i := 14) (r := .lst (((((os.take (3 + c / 360 % 9).toNat)).filter fun _ => true).map fun k => V.str (kindWs.getD k.toNat "")))) (l_I (ns := os.take (3 + c / 360 % 9).toNat) 9 (fun _ => true) (fun k => V.str (kindWs.getD k.toNat "")) S.nd (@blkOk_by lawNs (defScope (top 90)) _ _ (by decide +kernel))
    (x_to (k := (3 + c / 360 % 9).toNat) (x_v 13) (XG.is (x_add x_int (x_mod (x_div (x_v 1) x_int (by decide)) x_int (by decide))) (by rw [Int.toNat_of_nonneg (by omega)])) (SqL.of hoq)) (hrA (by rw [List.map_take])) ?_ (fun s' H0' cl' C fp x H3 hx k3 => ts_nil) fun s' H0' cl' C fp x H3 hx hp k3 => x_ixT (x_glob (T.glo "KINDS") rfl) (x_v 9) (T.kinds _) ?_) fun v H3 k3 gg => ?_
  · have := hos.length_eq
    rw [cells_len] at this
    rw [List.length_take]
    omega
  · have := in_cells (hos.mem_iff.mp (List.mem_of_mem_take hx))
    exact kind_at this.1 this.2
  obtain ⟨kq, rfl, _, hkq⟩ := gg
  have ek : ∀ l : List Int, ((l.filter fun _ => true).map fun k => V.str (kindWs.getD k.toNat "")) = (l.map fun k => kindWs.getD k.toNat "").map V.str := fun l => by
    rw [List.filter_eq_self.mpr (fun _ _ => rfl), List.map_map]
    rfl
  rw [ek] at hkq
  have K3 := K2.trans k3
  -- think
  have M2 := meets_of (Rs := Rs) dr hn fun R hR => ⟨(by obtain ⟨_, _, _, _, _, ps, _, _, _, h4, _⟩ := PA; exact ru_all h4 R hR), hP R hR⟩
  have Mo : MaOk F ms := ⟨by omega, fun m hm => by have := dr.m m hm; omega⟩
  refine q_set 15 S.nd (r := .gen fun v H' => ∃ (l : Addr) (ms' : List Int), v = .ref l ∧ H' l = some (.lst (ms'.map V.int)) ∧ Steps ⟨F, Rs, cl⟩ ms ms' ∧ MaOk F ms')
    (x_ixTP (Pc := fun vs H' => ∃ (l b : Addr) (ms' : List Int), vs = [.ref l, .ref b] ∧ H' l = some (.lst (ms'.map V.int)) ∧ Steps ⟨F, Rs, cl⟩ ms ms' ∧ MaOk F ms')
      ((x_call (ok_think T) (hr.mono (by decide)) (e_cons (x_v 12) (e_cons (x_v 6) (e_1 (x_v 14)))) fun H4 k4 => ⟨p, ma, kq, _, ⟨F, Rs, cl⟩, ms, rfl, PA.mono ((k2.trans k3).trans k4), ⟨(K3.trans k4) ma _ hma, Mo.len, Mo.lt⟩, k4 kq _ hkq, by show 0 < Rs.length; omega, by have := sumN_le ms dr.m; omega, rfl⟩).weak fun v H4 H5 k4 k5 gg => ?_)
      x_int (fun vs H4 gg => ?_) (fun x H4 H5 gg k5 => ?_)) fun v H4 k4 gg => ?_
  · obtain ⟨g, l, b, ms', rfl, hg, hl, hs, hm⟩ := gg
    exact ⟨g, _, rfl, hg, l, b, ms', rfl, hl, hs, hm⟩
  · obtain ⟨l, b, ms', rfl, hl, hs, hm⟩ := gg
    exact ⟨_, at0, l, ms', rfl, hl, hs, hm⟩
  · obtain ⟨l, ms', rfl, hl, hs, hm⟩ := gg
    exact ⟨l, ms', rfl, k5 l _ hl, hs, hm⟩
  obtain ⟨l, ms', rfl, hl, hs, hm⟩ := gg
  have K4 := K3.trans k4
  exact law_f T hr hD fo s5 ⟨K4 fa _ hfa, by omega⟩ dr.f hl hm (steps_sound fo M2 Mo hs) (PA.mono ((k2.trans k3).trans k4)) dr.cs hP
end
end Ck

set_option maxRecDepth 100000
set_option maxHeartbeats 4000000
namespace Ck
open PySem PySem.Spec PyProof.Rows L2 Evl
section
variable {P : Program} {w : World} {K : PySem.W.Frag} {mg : Str → Option Value} {base : Heap} {f : Addr} {cdv : Value} {A : Around} {outer : List Env} {s : Shared} {H0 : Hp} {E : XK}
theorem law_d (T : Top w K mg base) (TB : LamX.TabB base mg (He.cT K lawRowD).1 (He.cT K lawRowD).2) (hr : Room 12 (A.deeper (envOfC "law" (defScope (top 90)) s.heap.objs.size f cdv))) {D : Ends} (hD : ∀ H', D.rt (.bl true) H') {H : Hp} {F : Fl} {fl ms cl ns : List Int} {c : Int} {n : Nat} {a fa ma ca : Addr} {x8 x9 x10 x11 x12 x13 x14 x15 x16 x17 : Option V}
    (fo : FlOk F) (s5 : F.s ≤ 5) (hw9 : F.h * F.w ≤ 9) (c0 : 0 ≤ c) (hT : LamX.Tabs (rowT K) H) (hS : SqL K H a (ns.map V.int)) (hfa : H fa = some (.lst (fl.map V.int))) (hma : H ma = some (.lst (ms.map V.int))) (hca : H ca = some (.lst (cl.map V.int))) (dr : Drawn F.s n fl ms cl) (hn : (n : Int) = F.h * F.w) :
    semB (LX P w K mg base f cdv A outer s H0 E) ((defBody (top 90)).drop 8) D [some (.ref a), some (.int c), some (.int F.h), some (.int F.w), some (.int F.s), some (.ref fa), some (.ref ma), some (.ref ca), x8, x9, x10, x11, x12, x13, x14, x15, x16, x17] H := by
  have S := sc_law
  have lf := dr.lf
  have DR : DRow P w K mg base 4 := ok_lawrow T TB
  have cellAt : ∀ (H1 : Hp) (z : Int), 0 ≤ z → SqL K H1 a (ns.map V.int) → rCellAt K [.ref a, .int z] H1 (.val (.int (ns.getD z.toNat 0))) := fun H1 z h0 h => ⟨a, ns, z.toNat, by rw [Int.toNat_of_nonneg h0], h, rfl⟩
  refine q_set 11 S.nd (x_lst (vs := []) e_nil (by decide)) fun v H1 k1 gg => ?_
  obtain ⟨ra, rfl, nra, hra⟩ := gg
  have e4 := Int.emod_nonneg (c / 90) (by decide : (4 : Int) ≠ 0)
  refine s_seq (s_forR 9 S.nd (x_add x_int (x_mod (x_div (x_v 1) x_int (by decide)) x_int (by decide))) (by omega) (T.free "range")
    (fun i σ' H' => (∃ x9, σ' = [some (.ref a), some (.int c), some (.int F.h), some (.int F.w), some (.int F.s), some (.ref fa), some (.ref ma), some (.ref ca), x8, x9, x10, some (.ref ra), x12, x13, x14, x15, x16, x17]) ∧ LamX.ExtN H H' ∧ LamX.Tabs (rowT K) H' ∧ ∃ rows : List V, H' ra = some (.lst rows) ∧ rows.length = i ∧ ∀ v ∈ rows, RowV F fl v)
    (fun H2 k2 => ⟨⟨_, rfl⟩, LamX.ExtN.of (k1.trans k2), hT.ext (k1.trans k2), [], k2 ra _ hra, rfl, fun v hv => nomatch hv⟩) ?_ ?_)
  · rintro i σ' H2 hi ⟨⟨x9, rfl⟩, eN, hT2, rows, hrows, rlen, hrow⟩
    refine s_one (s_appRow (vs := [.int F.h, .int F.w, .int F.s, .ref fa, .int ((ns.getD (1 + (i : Int)).toNat 0 + 127 * (i : Int)) * 30011 % 1000003)]) DR (hr.mono (by decide)) hrows (x_v 11)
      (e_cons (x_v 2) (e_cons (x_v 3) (e_cons (x_v 4) (e_cons (x_v 5) (e_1 (x_mod (j := 1000003) (x_mul (j := 30011) (x_add (i := ns.getD (1 + (i : Int)).toNat 0) (x_call (ok_lawcellat T) (hr.mono (by decide)) (e_cons (x_v 0) (e_1 (x_add x_int (x_v 9)))) fun H3 k3 => cellAt H3 _ (by omega) (exn_l (eN.trans (LamX.ExtN.of k3)) hS)) (x_mul x_int (x_v 9) (.inl ⟨by decide, by decide⟩))) x_int (.inr ⟨by decide, by decide⟩)) x_int (by decide)))))))
      (by omega) (fun H3 k3 => ⟨fa, _, rfl, fo, ⟨k3 fa _ (eN fa _ hfa (nt_lst _)), by omega⟩, dr.f, hT2.ext k3⟩) fun v H3 eN3 hT3 hv => ?_)
    exact ⟨⟨_, rfl⟩, exn_upd (eN.trans eN3) nra, tabs_upd hT3 (eN3 ra _ hrows (nt_lst _)), rows ++ [v], upd_same, by rw [List.length_append, rlen]; rfl, fun y hy => by
      rcases List.mem_append.mp hy with h | h
      · exact hrow y h
      · rw [List.mem_singleton.mp h]; exact hv⟩
  · rintro σ' H2 ⟨⟨x9, rfl⟩, eN, hT2, rows, hrows, rlen, hrow⟩
    exact law_e T hr hD fo s5 hw9 c0 (exn_l eN hS) (eN fa _ hfa (nt_lst _)) (eN ma _ hma (nt_lst _)) (eN ca _ hca (nt_lst _)) hrows dr hn (by omega) hrow
end
end Ck

set_option maxRecDepth 100000
set_option maxHeartbeats 4000000
namespace Ck
open PySem PySem.Spec PyProof.Rows L2 Evl
section
variable {P : Program} {w : World} {K : PySem.W.Frag} {mg : Str → Option Value} {base : Heap} {f : Addr} {cdv : Value} {A : Around} {outer : List Env} {s : Shared} {H0 : Hp} {E : XK}
theorem law_c (T : Top w K mg base) (TB : LamX.TabB base mg (He.cT K lawRowD).1 (He.cT K lawRowD).2) (hr : Room 12 (A.deeper (envOfC "law" (defScope (top 90)) s.heap.objs.size f cdv))) {D : Ends} (hD : ∀ H', D.rt (.bl true) H') {Hb H : Hp} {F : Fl} {ns : List Int} {c : Int} {a fa ma ca : Addr} {x9 x10 x11 x12 x13 x14 x15 x16 x17 : Option V}
    (fo : FlOk F) (s5 : F.s ≤ 5) (hw9 : F.h * F.w ≤ 9) (c0 : 0 ≤ c) (hE : Ex Hb H) (hT : LamX.Tabs (rowT K) Hb) (hS : SqL K Hb a (ns.map V.int)) (nf : Hb fa = none) (nm : Hb ma = none) (nc : Hb ca = none) (hfa : H fa = some (.lst [])) (hma : H ma = some (.lst [])) (hca : H ca = some (.lst [])) (fm : fa ≠ ma) (fc : fa ≠ ca) (mc : ma ≠ ca) :
    semB (LX P w K mg base f cdv A outer s H0 E) ((defBody (top 90)).drop 7) D [some (.ref a), some (.int c), some (.int F.h), some (.int F.w), some (.int F.s), some (.ref fa), some (.ref ma), some (.ref ca), some (.int (wholeF F.s)), x9, x10, x11, x12, x13, x14, x15, x16, x17] H := by
  have S := sc_law
  have nn := fo.nn
  have s1 := fo.s1
  have on := one_of s1 s5
  refine s_seq (s_forR 9 S.nd (x_mul (x_v 2) (x_v 3) (.inl ⟨by have := fo.h1; omega, by have := fo.h6; omega⟩)) (by omega) (T.free "range")
    (fun i σ' H' => (∃ x9 x10, σ' = [some (.ref a), some (.int c), some (.int F.h), some (.int F.w), some (.int F.s), some (.ref fa), some (.ref ma), some (.ref ca), some (.int (wholeF F.s)), x9, x10, x11, x12, x13, x14, x15, x16, x17]) ∧ Ex Hb H' ∧
      ∃ fl ms cl : List Int, H' fa = some (.lst (fl.map V.int)) ∧ H' ma = some (.lst (ms.map V.int)) ∧ H' ca = some (.lst (cl.map V.int)) ∧ Drawn F.s i fl ms cl)
    (fun H1 k1 => ⟨⟨_, _, rfl⟩, hE.trans k1, [], [], [], k1 fa _ hfa, k1 ma _ hma, k1 ca _ hca, ⟨rfl, rfl, rfl, (fun x hx => nomatch hx), (fun x hx => nomatch hx), (fun x hx => nomatch hx), (fun j x y hx => by cases hx), (fun j x y hx => by cases hx)⟩⟩) ?_ ?_)
  · rintro i σ' H1 hi ⟨⟨x9, x10, rfl⟩, hE1, fl, ms, cl, hfa1, hma1, hca1, dr⟩
    have lf := dr.lf
    have lm := dr.lm
    have lc := dr.lc
    have i9 : (i : Int) < 9 := by omega
    -- more
    refine q_setV 10 (v := .int ((ns.getD (6 + (i : Int)).toNat 0 + 113 * (i : Int) * (i : Int)) * 48271 % 65521)) S.nd (x_mod (j := 65521) (x_mul (j := 48271) (x_add (i := ns.getD (6 + (i : Int)).toNat 0) (x_call (ok_lawcellat T) (hr.mono (by decide)) (e_cons (x_v 0) (e_1 (x_add x_int (x_v 9)))) fun H3 k3 => ⟨a, ns, (6 + (i : Int)).toNat, by rw [Int.toNat_of_nonneg (by omega)], ex_l (hE1.trans k3) hS, rfl⟩) (x_mul (x_mul x_int (x_v 9) (.inl ⟨by decide, by decide⟩)) (x_v 9) (.inr ⟨by omega, by omega⟩))) x_int (.inr ⟨by decide, by decide⟩)) x_int (by decide)) fun H2 k2 => ?_
    have m0 := Int.emod_nonneg ((ns.getD (6 + (i : Int)).toNat 0 + 113 * (i : Int) * (i : Int)) * 48271) (by decide : (65521 : Int) ≠ 0)
    generalize (ns.getD (6 + (i : Int)).toNat 0 + 113 * (i : Int) * (i : Int)) * 48271 % 65521 = m at m0 ⊢
    have hE2 := hE1.trans k2
    have hfa2 := k2 fa _ hfa1
    have hma2 := k2 ma _ hma1
    have hca2 := k2 ca _ hca1
    -- the sign
    have c3 := Int.emod_nonneg (c / 30) (by decide : (3 : Int) ≠ 0)
    have c3' := Int.emod_lt_of_pos (c / 30) (by decide : (0 : Int) < 3)
    obtain ⟨d, hd, d1, d2⟩ : ∃ d : Int, atI [V.int 1, V.int F.s, V.int (if F.s < 2 then F.s else 2)] (c / 30 % 3) = some (.int d) ∧ 1 ≤ d ∧ d ≤ F.s := by
      obtain ⟨u, hu, h | h | h⟩ := three_at (x := V.int 1) (y := V.int F.s) (z := V.int (if F.s < 2 then F.s else 2)) c3 c3'
      · exact ⟨1, by rw [hu, h], by omega, by omega⟩
      · exact ⟨F.s, by rw [hu, h], by omega, by omega⟩
      · refine ⟨if F.s < 2 then F.s else 2, by rw [hu, h], ?_, ?_⟩ <;> split <;> omega
    refine s_seq (s_app (xs := fl.map V.int) hfa2 (x_v 5) (x_add (i := 1) (j := m % d) x_int (x_mod (x_v 10) (x_ixN (x_lst (vs := [.int 1, .int F.s, .int (if F.s < 2 then F.s else 2)]) (e_cons x_int (e_cons (x_v 4) (e_1 (x_min2 x_int (x_v 4) (T.free "min"))))) (by simp)) (x_mod (x_div (x_v 1) x_int (by decide)) x_int (by decide)) hd) (by omega))) (by rw [List.length_map]; omega) fun v H3 k3 gg => ?_)
    cases gg
    have d3 := Int.emod_nonneg m (show d ≠ 0 by omega)
    have d4 := Int.emod_lt_of_pos m (show 0 < d by omega)
    have g1 : 1 ≤ 1 + m % d ∧ 1 + m % d ≤ F.s := by omega
    generalize 1 + m % d = g at g1 ⊢
    have hE3 := Ex.mut (o := .lst (fl.map V.int ++ [V.int g])) (hE2.trans k3) nf
    have hfa3 : (upd H3 fa (.lst (fl.map V.int ++ [V.int g]))) fa = some (.lst ((fl ++ [g]).map V.int)) := by rw [upd_same, List.map_append]; rfl
    have hma3 : (upd H3 fa (.lst (fl.map V.int ++ [V.int g]))) ma = some (.lst (ms.map V.int)) := by rw [upd_ne fm.symm]; exact k3 ma _ hma2
    have hca3 : (upd H3 fa (.lst (fl.map V.int ++ [V.int g]))) ca = some (.lst (cl.map V.int)) := by rw [upd_ne fc.symm]; exact k3 ca _ hca2
    generalize upd H3 fa (.lst (fl.map V.int ++ [V.int g])) = H4 at hE3 hfa3 hma3 hca3 ⊢
    -- the mask
    have w0 := Int.emod_nonneg (m / 7) (show wholeF F.s ≠ 0 by omega)
    have w1 := Int.emod_lt_of_pos (m / 7) (show 0 < wholeF F.s by omega)
    obtain ⟨z, hz, z0, z1⟩ : ∃ z : Int, atI [V.int (wholeF F.s), V.int (1 + m / 7 % wholeF F.s)] (m / 5 % 2) = some (.int z) ∧ 0 ≤ z ∧ z < 32 := by
      obtain ⟨u, hu, h | h⟩ := two_at (x := V.int (wholeF F.s)) (y := V.int (1 + m / 7 % wholeF F.s)) (Int.emod_nonneg (m / 5) (by decide : (2 : Int) ≠ 0)) (Int.emod_lt_of_pos (m / 5) (by decide : (0 : Int) < 2))
      · exact ⟨_, by rw [hu, h], by omega, by omega⟩
      · exact ⟨_, by rw [hu, h], by omega, by omega⟩
    refine s_seq (s_app (xs := ms.map V.int) hma3 (x_v 6) (x_or (i := z) (j := oneF g) (x_ixN (x_lst (vs := [.int (wholeF F.s), .int (1 + m / 7 % wholeF F.s)]) (e_cons (x_v 8) (e_1 (x_add x_int (x_mod (x_div (x_v 10) x_int (by decide)) (x_v 8) (by omega))))) (by simp)) (x_mod (x_div (x_v 10) x_int (by decide)) x_int (by decide)) hz)
      (x_ixN (x_lst (vs := [.int 1, .int 2, .int 4, .int 8, .int 16]) (e_cons x_int (e_cons x_int (e_cons x_int (e_cons x_int (e_1 x_int))))) (by decide)) (x_sub (x_ixL (v := .int g) (x_v 5) (x_v 9) (SqL.of hfa3) (snoc_at' lf)) x_int) (one_at g1.1 (by omega)))) (by rw [List.length_map]; omega) fun v H5 k5 gg => ?_)
    cases gg
    obtain ⟨b1, b2, b3⟩ := or_one z0 z1 g1.1 (show g ≤ 5 by omega)
    generalize Builtin.bitOr z (oneF g) = b at b1 b2 b3 ⊢
    have hE5 := Ex.mut (o := .lst (ms.map V.int ++ [V.int b])) (hE3.trans k5) nm
    have hma5 : (upd H5 ma (.lst (ms.map V.int ++ [V.int b]))) ma = some (.lst ((ms ++ [b]).map V.int)) := by rw [upd_same, List.map_append]; rfl
    have hfa5 : (upd H5 ma (.lst (ms.map V.int ++ [V.int b]))) fa = some (.lst ((fl ++ [g]).map V.int)) := by rw [upd_ne fm]; exact k5 fa _ hfa3
    have hca5 : (upd H5 ma (.lst (ms.map V.int ++ [V.int b]))) ca = some (.lst (cl.map V.int)) := by rw [upd_ne mc.symm]; exact k5 ca _ hca3
    generalize upd H5 ma (.lst (ms.map V.int ++ [V.int b])) = H6 at hE5 hfa5 hma5 hca5 ⊢
    -- the clue
    obtain ⟨q, hq, q0⟩ : ∃ q : Int, atI [V.int 0, V.int g, V.int 0] (m / 10 % 3) = some (.int q) ∧ (q = 0 ∨ q = g) := by
      obtain ⟨u, hu, h | h | h⟩ := three_at (x := V.int 0) (y := V.int g) (z := V.int 0) (Int.emod_nonneg (m / 10) (by decide : (3 : Int) ≠ 0)) (Int.emod_lt_of_pos (m / 10) (by decide : (0 : Int) < 3))
      · exact ⟨0, by rw [hu, h], .inl rfl⟩
      · exact ⟨g, by rw [hu, h], .inr rfl⟩
      · exact ⟨0, by rw [hu, h], .inl rfl⟩
    refine s_one (s_app (xs := cl.map V.int) hca5 (x_v 7) (x_ixN (v := .int q) (x_lst (vs := [.int 0, .int g, .int 0]) (e_cons x_int (e_cons (x_ixL (v := .int g) (x_v 5) (x_v 9) (SqL.of hfa5) (snoc_at' lf)) (e_1 x_int))) (by simp)) (x_mod (x_div (x_v 10) x_int (by decide)) x_int (by decide)) hq) (by rw [List.length_map]; omega) fun v H7 k7 gg => ?_)
    cases gg
    exact ⟨⟨_, _, rfl⟩, Ex.mut (hE5.trans k7) nc, fl ++ [g], ms ++ [b], cl ++ [q], by rw [upd_ne fc]; exact k7 fa _ hfa5, by rw [upd_ne mc]; exact k7 ma _ hma5, by rw [upd_same, List.map_append]; rfl, dr.snoc g1 ⟨b2, b3⟩ q0 b1⟩
  · rintro σ' H1 ⟨⟨x9, x10, rfl⟩, hE1, fl, ms, cl, hfa1, hma1, hca1, dr⟩
    exact law_d T TB hr hD fo s5 hw9 c0 (hT.ext hE1) (ex_l hE1 hS) hfa1 hma1 hca1 dr (Int.toNat_of_nonneg nn)
end
end Ck

set_option maxRecDepth 100000
set_option maxHeartbeats 200000
namespace Ck
open PySem PySem.Spec PyProof.Rows L2 Evl
section
variable {P : Program} {w : World} {K : PySem.W.Frag} {mg : Str → Option Value} {base : Heap}
theorem star_tup {a : List Expr} {b : Nat} {c : Pos} {es : List Expr} {env : Env} : starEach (.Tuple a b c :: es) env = (false, eval (.Tuple a b c) env) :: starEach es env := rfl
theorem star_con {a : Const} {b : Nat} {c : Pos} {es : List Expr} {env : Env} : starEach (.Constant a b c :: es) env = (false, eval (.Constant a b c) env) :: starEach es env := rfl
theorem a_tup1 {X : Cx} {σ : L2.St} {H : Hp} {e : Expr} {es : List Expr} {gs : List (Int × Int)} {i j : Int} (h : XG X σ H e (.tup [.int i, .int j])) (ha : ∀ H1, Ex H H1 → XA X σ H1 es (Tups gs)) (hs : starEach (e :: es) X.env = (false, eval e X.env) :: starEach es X.env) : XA X σ H (e :: es) (Tups ((i, j) :: gs)) :=
  a_cons h (fun v H1 e1 g => fun H2 e2 R q => ha H1 e1 H2 e2 R fun vs H3 e3 gg => q vs H3 e3 (by
    obtain ⟨t, rfl, _, ht⟩ := g
    exact .cons ⟨t, rfl, (e2.trans e3) t _ ht⟩ gg)) hs
theorem tups_at : ∀ {gs : List (Int × Int)} {vs : List V} {H : Hp} {i : Nat}, Tups gs vs H → i < gs.length → ∃ x, vs[i]? = some x ∧ ∃ g ∈ gs, ∃ t, x = V.ref t ∧ H t = some (.tup [.int g.1, .int g.2])
  | g :: gs, v :: vs, H, 0, .cons h t, _ => ⟨v, rfl, g, List.mem_cons_self, h⟩
  | g :: gs, v :: vs, H, i + 1, .cons h t, hi => by
    obtain ⟨x, hx, g', hg', hh⟩ := tups_at (i := i) t (by simpa using hi)
    exact ⟨x, by simpa using hx, g', List.mem_cons_of_mem _ hg', hh⟩
/-- the pair of two constants -/
theorem x_pair {X : Cx} {σ : L2.St} {H : Hp} {i j : Int} {k1 k2 kk : Nat} {p1 p2 p3 : Pos} : XG X σ H (.Tuple [.Constant (.int i) k1 p1, .Constant (.int j) k2 p2] kk p3) (.tup [.int i, .int j]) :=
  x_tup (e_cons x_int (e_1 x_int star_con) star_con) (by simp)
theorem a_pair {X : Cx} {σ : L2.St} {H : Hp} {i j : Int} {k1 a1 b1 : Nat} {r1 s1 t1 : Pos} {es : List Expr} {gs : List (Int × Int)} (h : ∀ H1, Ex H H1 → XA X σ H1 es (Tups gs)) : XA X σ H (.Tuple [.Constant (.int i) a1 r1, .Constant (.int j) b1 s1] k1 t1 :: es) (Tups ((i, j) :: gs)) := a_tup1 x_pair h star_tup
theorem a_nilT {X : Cx} {σ : L2.St} {H : Hp} : XA X σ H [] (Tups []) := a_nil fun _ _ => .nil
/-- a box, so that Lean does not look inside while it elaborates -/
structure Bx (p : Prop) : Prop where
  h : p
theorem a_floors {X : Cx} {σ : L2.St} {H : Hp} {k1 k2 k3 k4 k5 k6 : Nat} {a1 a2 a3 a4 a5 a6 b1 b2 b3 b4 b5 b6 : Nat} {r1 r2 r3 r4 r5 r6 s1 s2 s3 s4 s5 s6 t1 t2 t3 t4 t5 t6 : Pos} : Bx (XA X σ H [.Tuple [.Constant (.int 1) a1 r1, .Constant (.int 2) b1 s1] k1 t1, .Tuple [.Constant (.int 2) a2 r2, .Constant (.int 2) b2 s2] k2 t2, .Tuple [.Constant (.int 1) a3 r3, .Constant (.int 5) b3 s3] k3 t3, .Tuple [.Constant (.int 2) a4 r4, .Constant (.int 3) b4 s4] k4 t4, .Tuple [.Constant (.int 3) a5 r5, .Constant (.int 3) b5 s5] k5 t5, .Tuple [.Constant (.int 2) a6 r6, .Constant (.int 4) b6 s6] k6 t6] (Tups grounds)) := by
  refine Bx.mk ?_
  unfold grounds
  refine a_pair ?_
  intro _ _
  refine a_pair ?_
  intro _ _
  refine a_pair ?_
  intro _ _
  refine a_pair ?_
  intro _ _
  refine a_pair ?_
  intro _ _
  refine a_pair ?_
  intro _ _
  exact a_nilT
/-- an item of a list of pairs -/
theorem x_floorE {X : Cx} {σ : L2.St} {H : Hp} {c : Int} {es : List Expr} {e : Expr} {pos p0 : Pos} (ha : XA X σ H es (Tups grounds)) (hb : XV X σ H e (.int (c % 6))) (hs : PlainIx e) :
    XG X σ H (.Subscript (.List es p0) e pos) (.gen fun x H => ∃ g ∈ grounds, ∃ t, x = V.ref t ∧ H t = some (.tup [.int g.1, .int g.2])) := by
  have i6 := Int.emod_nonneg c (by decide : (6 : Int) ≠ 0)
  have j6 := Int.emod_lt_of_pos c (by decide : (0 : Int) < 6)
  refine x_ixLG (Pc := Tups grounds) (x_lstA (Pq := Tups grounds) ha (fun vs H1 H2 g e => g.mono e) (fun vs H1 g => ?_)) hb (fun vs H2 g => ?_) (fun x H1 H2 g e => ?_) hs
  · rw [Paired.length g]
    decide
  · obtain ⟨x, hx, hh⟩ := tups_at (i := (c % 6).toNat) g (by show (c % 6).toNat < 6; omega)
    exact ⟨x, atI_of i6 hx, hh⟩
  · obtain ⟨g', hg', t, ex, ht⟩ := g
    exact ⟨g', hg', t, ex, e t _ ht⟩
theorem x_floor {X : Cx} {σ : L2.St} {H : Hp} {c : Int} {e : Expr} {pos p0 : Pos} {k1 k2 k3 k4 k5 k6 : Nat} {a1 a2 a3 a4 a5 a6 b1 b2 b3 b4 b5 b6 : Nat} {r1 r2 r3 r4 r5 r6 s1 s2 s3 s4 s5 s6 t1 t2 t3 t4 t5 t6 : Pos} (hb : XV X σ H e (.int (c % 6))) (hs : PlainIx e) :
    Bx (XG X σ H (.Subscript (.List [.Tuple [.Constant (.int 1) a1 r1, .Constant (.int 2) b1 s1] k1 t1, .Tuple [.Constant (.int 2) a2 r2, .Constant (.int 2) b2 s2] k2 t2, .Tuple [.Constant (.int 1) a3 r3, .Constant (.int 5) b3 s3] k3 t3, .Tuple [.Constant (.int 2) a4 r4, .Constant (.int 3) b4 s4] k4 t4, .Tuple [.Constant (.int 3) a5 r5, .Constant (.int 3) b5 s5] k5 t5, .Tuple [.Constant (.int 2) a6 r6, .Constant (.int 4) b6 s6] k6 t6] p0) e pos) (.gen fun x H => ∃ g ∈ grounds, ∃ t, x = V.ref t ∧ H t = some (.tup [.int g.1, .int g.2]))) := by
  refine Bx.mk ?_
  refine x_floorE (c := c) ?_ ?_ ?_
  · refine Bx.h ?_
    exact a_floors
  · exact hb
  · exact hs
theorem ok_law (T : Top w K mg base) (TB : LamX.TabB base mg (He.cT K lawRowD).1 (He.cT K lawRowD).2) {f : Addr} {fd : FuncData} (F : FunD K "law" "law" (defArgs (top 90)) (defBody (top 90)) (defScope (top 90)) [] [] f fd) : FnOk P w K mg base CX0 13 f fd ["_law_script"] (spLaw K) := by
  have S := sc_law
  refine F.ok S (fun vs H Q E h => ?_) (fun cdv A outer s H vs Q E hr hsp => ⟨_, PSs.nox pb_sem, ?_⟩)
  · obtain ⟨_, _, rfl, _⟩ := h
    rfl
  · obtain ⟨a, ns, rfl, hS, hP, k⟩ := hsp
    have hT : LamX.Tabs (rowT K) H := fun p hp => by
      rw [List.mem_singleton.mp hp]
      exact LamX.TabS.nil hP
    refine q_setV 1 (v := .int (ns.getD 0 0 * 16807 % 65537)) S.nd (x_mod (j := 65537) (x_mul (i := ns.getD 0 0) (j := 16807) (x_call (ok_lawcellat T) (hr.mono (by decide)) (e_cons (x_v 0) (e_1 x_int)) fun H1 k1 => ⟨a, ns, 0, rfl, ex_l k1 hS, rfl⟩) x_int (.inr ⟨by omega, by omega⟩)) x_int (by omega)) fun H1 k1 => ?_
    have c0 := Int.emod_nonneg (ns.getD 0 0 * 16807) (by decide : (65537 : Int) ≠ 0)
    generalize ns.getD 0 0 * 16807 % 65537 = c at c0 ⊢
    generalize hY : Expr.Subscript _ _ _ = Y
    refine q_un2 (hs := by subst hY; rfl) (hw := by subst hY; rfl) 2 3 S.nd (r := .gen fun x H => ∃ g ∈ grounds, ∃ t, x = V.ref t ∧ H t = some (.tup [.int g.1, .int g.2])) ?_ fun v H2 k2 gg => ?_
    · subst hY
      refine Bx.h ?_
      refine x_floor (c := c) ?_ ?_
      · exact x_mod (i := c) (j := 6) (x_v 1) x_int (by omega)
      · exact fun _ _ => rfl
    obtain ⟨g, hgm, t, rfl, ht⟩ := gg
    obtain ⟨⟨h1, h3⟩, ⟨w2, w5⟩, hw9⟩ := grounds_ok g hgm
    refine ⟨t, _, _, rfl, SqT.of ht, ?_⟩
    clear hY
    have s0 := Int.emod_nonneg (c / 6) (by decide : (5 : Int) ≠ 0)
    have s5 := Int.emod_lt_of_pos (c / 6) (by decide : (0 : Int) < 5)
    refine q_setV 4 (v := .int (1 + c / 6 % 5)) S.nd (x_add x_int (x_mod (x_div (x_v 1) x_int (by decide)) x_int (by decide))) fun H3 k3 => ?_
    have hs : 1 ≤ 1 + c / 6 % 5 ∧ 1 + c / 6 % 5 ≤ 5 := by omega
    generalize 1 + c / 6 % 5 = sn at hs ⊢
    have fo : FlOk ⟨g.1, g.2, sn⟩ := ⟨h1, by show g.1 ≤ 6; omega, by show 1 ≤ g.2; omega, by show g.2 ≤ 6; omega, hs.1, by show sn ≤ 6; omega, by show g.1 * g.2 ≤ 16; omega⟩
    refine q_set 5 S.nd (x_lst (vs := []) e_nil (by decide)) fun v H4 k4 gg => ?_
    obtain ⟨fa, rfl, nf, hf⟩ := gg
    refine q_set 6 S.nd (x_lst (vs := []) e_nil (by decide)) fun v H5 k5 gg => ?_
    obtain ⟨ma, rfl, nm, hm5⟩ := gg
    refine q_set 7 S.nd (x_lst (vs := []) e_nil (by decide)) fun v H6 k6 gg => ?_
    obtain ⟨ca, rfl, nc, hc6⟩ := gg
    refine q_setV 8 (v := .int (wholeF sn)) S.nd (x_ixN (x_lst (vs := [.int 1, .int 3, .int 7, .int 15, .int 31]) (e_cons x_int (e_cons x_int (e_cons x_int (e_cons x_int (e_1 x_int))))) (by decide)) (x_sub (x_v 4) x_int) (at_intsZ (ns := [1, 3, 7, 15, 31]) (by omega) (by show sn - 1 < 5; omega))) fun H7 k7 => ?_
    have K3 := (k1.trans k2).trans k3
    exact law_c (F := ⟨g.1, g.2, sn⟩) T TB hr k fo hs.2 hw9 c0 ((((K3.trans k4).trans k5).trans k6).trans k7) hT hS (fresh_back K3 nf) (fresh_back (K3.trans k4) nm) (fresh_back ((K3.trans k4).trans k5) nc) (((k5.trans k6).trans k7) fa _ hf) ((k6.trans k7) ma _ hm5) (k7 ca _ hc6)
      (fun z => by rw [← z, hf] at nm; cases nm) (fun z => by rw [← z, k5 fa _ hf] at nc; cases nc) (fun z => by rw [← z, hm5] at nc; cases nc)
end
end Ck

set_option maxRecDepth 100000
set_option maxHeartbeats 0
open PySem PySem.W PySem.Calls PyProof.Rows
theorem PySem.Challenge.cw_cluemaker_k53_whole_thinking_keeps_answe_holds : PySem.Challenge.rw_cluemaker_k53_whole_thinking_keeps_answe.Holds := by
  w_on; o_law
  refine HandSHeadRun.head_any (r := Ck.RR) (q := Ck.qv) (H := Ck.Hk.hook) (ob := Ck.Hk.ob) (M := 12000) (loose := Ck.names) (d := HandSHeadRun.topDef Ck.RR.prog 90) (kwd := []) Ck.Hk.ob_eq
    (by kernel_rfl) (fun s => by kernel_rfl) Ck.runW (by kernel_rfl) (by kernel_rfl) (by kernel_rfl) (by rfl) (by first | assumption | decide +kernel) (by decide +kernel) ⟨rfl, rfl, rfl, rfl, rfl, by decide +kernel⟩ ?hw ?hc
  case hw => w_witness2
  case hc =>
    refine LamX.walk_ofTsE (l := PySem.Challenge.rw_cluemaker_k53_whole_thinking_keeps_answe) (n := 63) (k := 13) (x := "_law_script") (CX := fun _ => L2.CX0) rfl (by decide) (by kernel_rfl) ⟨rfl, by decide, by decide⟩ ?F (fun _ _ _ _ _ z => z)
    intro w mg fa h Y G hmg0
    obtain ⟨K, KX, c⟩ := Y
    have hmg : mg ("law" : PySem.Str) = some (.ref fa) := by
      have e : (HandSHeadRun.topDef Ck.RR.prog 90).name = ("law" : PySem.Str) := by kernel_rfl
      rw [← e]
      exact hmg0
    have T0 : Ck.Top w K mg h := ⟨c.t, KX, G⟩
    obtain ⟨f, fd, hm, F⟩ := T0.defG "law" 90
    have e := hmg.symm.trans hm
    cases e
    have b := L2.FunD.bindsA (ps := ["_law_script"]) F fun _ _ _ _ _ _ us hl => match us, hl with | [_], _ => rfl
    refine ⟨K, KX, fd, [He.cT K Ck.lawRowD], Ck.spLaw K, ?_, ?_, ?_, fun s v => b s [v] rfl, ?_, ?_⟩
    · intro p hp
      rw [List.mem_singleton.mp hp]
      exact c.empty
    · intro p hp
      rw [List.mem_singleton.mp hp]
      exact c.out
    · intro p hp
      rw [List.mem_singleton.mp hp]
      exact PySem.W.codeHd_of_K KX c.hd
    · intro H a ns hl _ hT hS
      exact ⟨a, ns, rfl, hS, hT _ (List.mem_singleton.mpr rfl), fun _ => rfl⟩
    · intro base hK hG hTB
      exact Ck.ok_law ⟨c.t, hK, hG⟩ (hTB _ (List.mem_singleton.mpr rfl)) F

