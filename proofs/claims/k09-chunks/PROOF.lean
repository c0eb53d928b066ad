import PyProof.Rows.All
import Wide.All
import OpenK.AllK
import Wide.FinOn
import HandS.ForMost
import HandS.ForExc
import HandS.Walk
import HandS.Steps
import HandS.Deep
import HandS.IsInst
import HandS.Wide
import HandS.SortKw
import HandS.Lambda
import PySem.Challenge.RW_samemeant_k09_chunks_of_a_text
set_option Elab.async false
set_option linter.all false
set_option maxRecDepth 100000
set_option maxHeartbeats 1000000
namespace Lw
open PySem PySem.Spec PyProof.Rows L2

/-! ## known heaps: G is what is known of the heap H -/
def Ex (G H : Hp) : Prop := ∀ a o, G a = some o → H a = some o
theorem Ex.refl (H : Hp) : Ex H H := fun _ _ h => h
theorem Ex.trans {G H I : Hp} (a : Ex G H) (b : Ex H I) : Ex G I := fun x o h => b x o (a x o h)
theorem Ex.get {G H : Hp} {a : Addr} {o : HO} (e : Ex G H) (h : G a = some o) : H a = some o := e a o h
theorem Ex.nul {G H : Hp} {a : Addr} (e : Ex G H) (h : H a = none) : G a = none := by
  cases q : G a with
  | none => rfl
  | some o => rw [e a o q] at h; cases h
theorem Ex.new {H : Hp} {p : Addr} {o : HO} (h : H p = none) : Ex H (upd H p o) := fun a u e => by
  rw [upd_ne (ne_of_none e h)]; exact e
theorem Ex.mut {G H : Hp} {p : Addr} {o : HO} (e : Ex G H) (h : G p = none) : Ex G (upd H p o) := fun a u ha => by
  rw [upd_ne (ne_of_none ha h)]; exact e a u ha
theorem Ex.put {G H : Hp} {p : Addr} {o : HO} (e : Ex G H) : Ex (upd G p o) (upd H p o) := fun a u ha => by
  by_cases q : a = p
  · subst q; rw [upd_same] at ha ⊢; exact ha
  · rw [upd_ne q] at ha ⊢; exact e a u ha
theorem Ex.putL {G H : Hp} {p : Addr} {o : HO} (e : Ex G H) (h : H p = some o) : Ex (upd G p o) H := fun a u ha => by
  by_cases q : a = p
  · subst q; rw [upd_same] at ha; cases ha; exact h
  · rw [upd_ne q] at ha; exact e a u ha
theorem Ex.rd {G H : Hp} {a : Addr} {u : HO} (e : Ex G H) (h : Rd G a u) : Rd H a u := by
  rcases h with h | ⟨o, h⟩
  · exact .inl (e a _ h)
  · exact .inr ⟨o, e a _ h⟩
theorem Ex.sl {K : PySem.W.Frag} {G H : Hp} {a : Addr} {xs : List V} (e : Ex G H) (h : SqL K G a xs) : SqL K H a xs := by
  rcases h with h | h
  · exact .inl (e.rd h)
  · exact .inr h
theorem Ex.st {K : PySem.W.Frag} {G H : Hp} {a : Addr} {xs : List V} (e : Ex G H) (h : SqT K G a xs) : SqT K H a xs := by
  rcases h with h | h
  · exact .inl (e.rd h)
  · exact .inr h
mutual
theorem Ex.dp {K : PySem.W.Frag} {G H : Hp} (e : Ex G H) : ∀ {v : V} {d : PyData}, Dp K G v d → Dp K H v d
  | _, _, .non => .non
  | _, _, .bl b => .bl b
  | _, _, .int i => .int i
  | _, _, .str x => .str x
  | _, _, .lst s h => .lst (e.sl s) (e.dps h)
  | _, _, .tup s h => .tup (e.st s) (e.dps h)
theorem Ex.dps {K : PySem.W.Frag} {G H : Hp} (e : Ex G H) : ∀ {v : List V} {d : List PyData}, DpAll K G v d → DpAll K H v d
  | _, _, .nil => .nil
  | _, _, .cons h t => .cons (e.dp h) (e.dps t)
end

/-! ## the judgements over known heaps -/
def Ee (te : TE) (σ : L2.St) (G : Hp) (Q : V → Hp → Prop) : Prop := ∀ (H : Hp) (Q' : VK), Ex G H → (∀ v G' H', Ex G' H' → Q v G' → Q' v H') → te σ H Q'
def Et (t : TT) (σ : L2.St) (G : Hp) (Q : Bool → Hp → Prop) : Prop := ∀ (H : Hp) (Q' : Bool → Hp → Prop), Ex G H → (∀ v G' H', Ex G' H' → Q v G' → Q' v H') → t σ H Q'
def Ea (t : TA) (σ : L2.St) (G : Hp) (Q : List V → Hp → Prop) : Prop := ∀ (H : Hp) (Q' : List V → Hp → Prop), Ex G H → (∀ v G' H', Ex G' H' → Q v G' → Q' v H') → t σ H Q'
def Eo (t : TO) (σ : L2.St) (G : Hp) (Q : Option Int → Hp → Prop) : Prop := ∀ (H : Hp) (Q' : Option Int → Hp → Prop), Ex G H → (∀ v G' H', Ex G' H' → Q v G' → Q' v H') → t σ H Q'
def Er (r : R2) (x y : V) (G : Hp) (Q : V → Hp → Prop) : Prop := ∀ (H : Hp) (Q' : VK), Ex G H → (∀ v G' H', Ex G' H' → Q v G' → Q' v H') → r x y H Q'
def Eu (r : V → Hp → VK → Prop) (x : V) (G : Hp) (Q : V → Hp → Prop) : Prop := ∀ (H : Hp) (Q' : VK), Ex G H → (∀ v G' H', Ex G' H' → Q v G' → Q' v H') → r x H Q'
def Ec (r : List V → Hp → VK → Prop) (x : List V) (G : Hp) (Q : V → Hp → Prop) : Prop := ∀ (H : Hp) (Q' : VK), Ex G H → (∀ v G' H', Ex G' H' → Q v G' → Q' v H') → r x H Q'
def Em (r : V → List V → Hp → VK → Prop) (x : V) (xs : List V) (G : Hp) (Q : V → Hp → Prop) : Prop := ∀ (H : Hp) (Q' : VK), Ex G H → (∀ v G' H', Ex G' H' → Q v G' → Q' v H') → r x xs H Q'
def Ew (r : V → Option Int → Option Int → Hp → VK → Prop) (x : V) (lo hi : Option Int) (G : Hp) (Q : V → Hp → Prop) : Prop := ∀ (H : Hp) (Q' : VK), Ex G H → (∀ v G' H', Ex G' H' → Q v G' → Q' v H') → r x lo hi H Q'
def Eg (g : TG) (v : V) (σ : L2.St) (G : Hp) (Q : L2.St → Hp → Prop) : Prop := ∀ (H : Hp) (Q' : L2.St → Hp → Prop), Ex G H → (∀ σ' G' H', Ex G' H' → Q σ' G' → Q' σ' H') → g v σ H Q'
def Egs (g : TGs) (v : List V) (σ : L2.St) (G : Hp) (Q : L2.St → Hp → Prop) : Prop := ∀ (H : Hp) (Q' : L2.St → Hp → Prop), Ex G H → (∀ σ' G' H', Ex G' H' → Q σ' G' → Q' σ' H') → g v σ H Q'
def Ez (t : TSet) (o i v : V) (G : Hp) (Q : Hp → Prop) : Prop := ∀ (H : Hp) (Q' : Hp → Prop), Ex G H → (∀ G' H', Ex G' H' → Q G' → Q' H') → t o i v H Q'
def Eip (t : TIp) (x y : V) (G : Hp) (Q : V → Hp → Prop) : Prop := ∀ (H : Hp) (Q' : VK), Ex G H → (∀ v G' H', Ex G' H' → Q v G' → Q' v H') → t x y H Q'
/-- what is wanted behind a statement, over known heaps -/
structure Ek where
  nx : L2.St → Hp → Prop
  rt : V → Hp → Prop
  bk : L2.St → Hp → Prop := fun _ _ => False
  ct : L2.St → Hp → Prop := fun _ _ => False
structure Lf (D : Ek) (D' : Ends) : Prop where
  nx : ∀ σ G H, Ex G H → D.nx σ G → D'.nx σ H
  rt : ∀ v G H, Ex G H → D.rt v G → D'.rt v H
  bk : ∀ σ G H, Ex G H → D.bk σ G → D'.bk σ H
  ct : ∀ σ G H, Ex G H → D.ct σ G → D'.ct σ H
def Es (t : TS) (D : Ek) (σ : L2.St) (G : Hp) : Prop := ∀ (H : Hp) (D' : Ends), Ex G H → Lf D D' → t D' σ H

section
variable {σ : L2.St} {G G' : Hp} {Q : V → Hp → Prop} {D : Ek}
theorem Es.weak {t : TS} (e : Ex G G') (h : Es t D σ G) : Es t D σ G' := fun H D' x l => h H D' (e.trans x) l
theorem Ea.weak {t : TA} {Q : List V → Hp → Prop} (e : Ex G G') (h : Ea t σ G Q) : Ea t σ G' Q := fun H D' x l => h H D' (e.trans x) l
theorem Ee.weak {t : TE} (e : Ex G G') (h : Ee t σ G Q) : Ee t σ G' Q := fun H D' x l => h H D' (e.trans x) l
theorem Ee.mono {t : TE} {Q2 : V → Hp → Prop} (h : Ee t σ G Q) (q : ∀ v G, Q v G → Q2 v G) : Ee t σ G Q2 := fun H D' x l => h H D' x fun v G' H' e z => l v G' H' e (q v G' z)

/-! ### names, constants, arguments -/
theorem ee_var {i : Nat} {v : V} (h : σ[i]? = some (some v)) (q : Q v G) : Ee (tVar i) σ G Q := fun H Q' e l => ⟨v, h, l v G H e q⟩
theorem ee_c {v : V} (q : Q v G) : Ee (tC v) σ G Q := fun H Q' e l => l v G H e q
theorem ea_nil {Q : List V → Hp → Prop} (q : Q [] G) : Ea tNil σ G Q := fun H Q' e l => l [] G H e q
theorem ea_cons {ta : TE} {tr : TA} {Q : List V → Hp → Prop} (h : Ee ta σ G fun x G1 => Ea tr σ G1 fun xs G2 => Q (x :: xs) G2) : Ea (tCons ta tr) σ G Q := fun H Q' e l =>
  h H _ e fun x G1 H1 e1 h1 => h1 H1 _ e1 fun xs G2 H2 e2 h2 => l (x :: xs) G2 H2 e2 h2
/-! ### operators -/
theorem ee_op {r : R2} {ta tb : TE} (h : Ee ta σ G fun x G1 => Ee tb σ G1 fun y G2 => Er r x y G2 Q) : Ee (tOp r ta tb) σ G Q := fun H Q' e l =>
  h H _ e fun x G1 H1 e1 h1 => h1 H1 _ e1 fun y G2 H2 e2 h2 => h2 H2 Q' e2 l
theorem ee_un {r : V → Hp → VK → Prop} {ta : TE} (h : Ee ta σ G fun x G1 => Eu r x G1 Q) : Ee (tUn r ta) σ G Q := fun H Q' e l =>
  h H _ e fun x G1 H1 e1 h1 => h1 H1 Q' e1 l
theorem eu_neg {i : Int} (q : Q (.int (-i)) G) : Eu (rU fun i => .int (-i)) (.int i) G Q := fun H Q' e l => ⟨i, rfl, l _ G H e q⟩
theorem er_I0 {g : Int → Int → V} {i j : Int} (q : Q (g i j) G) : Er (rI0 g) (.int i) (.int j) G Q := fun H Q' e l => ⟨i, j, rfl, rfl, l _ G H e q⟩
theorem er_I {C : Int → Int → Prop} {g : Int → Int → V} {i j : Int} (c : C i j) (q : Q (g i j) G) : Er (rI C g) (.int i) (.int j) G Q := fun H Q' e l => ⟨i, j, rfl, rfl, c, l _ G H e q⟩
/-- by cases -/
def rOr (r r' : R2) : R2 := fun x y H Q => r x y H Q ∨ r' x y H Q
theorem er_orL {r r' : R2} {x y : V} (h : Er r x y G Q) : Er (rOr r r') x y G Q := fun H Q' e l => .inl (h H Q' e l)
theorem er_orR {r r' : R2} {x y : V} (h : Er r' x y G Q) : Er (rOr r r') x y G Q := fun H Q' e l => .inr (h H Q' e l)
theorem opr_or {X : Cx} {f : Value → Value → Sem Value} {r r' : R2} (h : OpR X f r) (h' : OpR X f r') : OpR X f (rOr r r') := h.or h'
/-! plus -/
def rIAdd : R2 := rI0 fun i j => .int (i + j)
def rSAdd : R2 := fun x y H Q => ∃ i j, x = .str i ∧ y = .str j ∧ i.length + j.length ≤ sizeLine ∧ Q (.str (i ++ j)) H
def rAddU (K : PySem.W.Frag) : R2 := rOr rIAdd (rOr rSAdd (rOr rCat (rCatT K)))
theorem op_addU {X : Cx} : OpR X (binaryOp .Add) (rAddU X.K) := opr_or op_add (opr_or op_add_str (opr_or op_cat op_catT))
theorem er_addI {K : PySem.W.Frag} {i j : Int} (q : Q (.int (i + j)) G) : Er (rAddU K) (.int i) (.int j) G Q := er_orL (er_I0 (g := fun i j => .int (i + j)) q)
theorem er_addS {K : PySem.W.Frag} {i j : Str} (hz : i.length + j.length ≤ sizeLine) (q : Q (.str (i ++ j)) G) : Er (rAddU K) (.str i) (.str j) G Q :=
  er_orR (er_orL fun H Q' e l => ⟨i, j, rfl, rfl, hz, l _ G H e q⟩)
theorem er_addL {K : PySem.W.Frag} {a b : Addr} {xs ys : List V} (ha : G a = some (.lst xs)) (hb : G b = some (.lst ys)) (hz : xs.length + ys.length ≤ sizeLine) (q : ∀ p, G p = none → Q (.ref p) (upd G p (.lst (xs ++ ys)))) :
    Er (rAddU K) (.ref a) (.ref b) G Q :=
  er_orR (er_orR (er_orL fun H Q' e l => ⟨a, b, xs, ys, rfl, rfl, e _ _ ha, e _ _ hb, hz, fun p hp => l _ _ _ e.put (q p (e.nul hp))⟩))
theorem er_addT {K : PySem.W.Frag} {a b : Addr} {xs ys : List V} (ha : SqT K G a xs) (hb : SqT K G b ys) (hx : xs ≠ []) (hy : ys ≠ []) (hz : xs.length + ys.length ≤ sizeLine) (q : ∀ p, G p = none → Q (.ref p) (upd G p (.tup (xs ++ ys)))) :
    Er (rAddU K) (.ref a) (.ref b) G Q :=
  er_orR (er_orR (er_orR fun H Q' e l => ⟨a, b, xs, ys, rfl, rfl, e.st ha, e.st hb, hx, hz, fun h => absurd h hy, fun _ p hp => l _ _ _ e.put (q p (e.nul hp))⟩))
/-! minus, times, floor, rest, power -/
def rSubI : R2 := rI0 fun i j => .int (i - j)
theorem op_subI {X : Cx} : OpR X (binaryOp .Sub) rSubI := op_sub
theorem er_subI {i j : Int} (q : Q (.int (i - j)) G) : Er rSubI (.int i) (.int j) G Q := er_I0 (g := fun i j => .int (i - j)) q
def rMulI : R2 := rOr (rI CMul fun i j => .int (i * j)) (rI CMulW fun i j => .int (i * j))
def rMulU : R2 := rOr rMulI rRep
theorem op_mulU {X : Cx} : OpR X (binaryOp .Mult) rMulU := opr_or (opr_or op_mul op_mulW) op_rep
theorem er_mulL {i j : Int} (h : -(2 ^ 64) < i ∧ i < 2 ^ 64) (q : Q (.int (i * j)) G) : Er rMulU (.int i) (.int j) G Q := er_orL (er_orL (er_I (C := CMul) (g := fun i j => .int (i * j)) (.inl h) q))
theorem er_mulR {i j : Int} (h : -(2 ^ 64) < j ∧ j < 2 ^ 64) (q : Q (.int (i * j)) G) : Er rMulU (.int i) (.int j) G Q := er_orL (er_orL (er_I (C := CMul) (g := fun i j => .int (i * j)) (.inr h) q))
theorem er_mulW {i j : Int} (h : CMulW i j) (q : Q (.int (i * j)) G) : Er rMulU (.int i) (.int j) G Q := er_orL (er_orR (er_I (C := CMulW) (g := fun i j => .int (i * j)) h q))
theorem er_rep {a : Addr} {k : Int} {xs : List V} (ha : G a = some (.lst xs)) (h1 : -(2 ^ 63) ≤ k) (h2 : k < 2 ^ 63) (hz : xs.length * k.toNat ≤ sizeLine) (q : ∀ p, G p = none → Q (.ref p) (upd G p (.lst (List.replicate k.toNat xs).flatten))) :
    Er rMulU (.ref a) (.int k) G Q := er_orR fun H Q' e l => ⟨a, k, xs, rfl, rfl, e _ _ ha, h1, h2, hz, fun p hp => l _ _ _ e.put (q p (e.nul hp))⟩
def rDivU : R2 := rOr (rI CDiv fun i j => .int (i / j)) (rI CDivW fun i j => .int (i / j))
theorem op_divU {X : Cx} : OpR X (binaryOp .FloorDiv) rDivU := opr_or op_fdiv op_fdivW
theorem er_div {i j : Int} (h : 0 < j ∧ j < 1073741824) (q : Q (.int (i / j)) G) : Er rDivU (.int i) (.int j) G Q := er_orL (er_I (C := CDiv) (g := fun i j => .int (i / j)) h q)
theorem er_divW {i j : Int} (h : CDivW i j) (q : Q (.int (i / j)) G) : Er rDivU (.int i) (.int j) G Q := er_orR (er_I (C := CDivW) (g := fun i j => .int (i / j)) h q)
def rModU : R2 := rI (fun _ j => 0 < j) fun i j => .int (i % j)
theorem op_modU {X : Cx} : OpR X (binaryOp .Mod) rModU := op_mod
theorem er_mod {i j : Int} (h : 0 < j) (q : Q (.int (i % j)) G) : Er rModU (.int i) (.int j) G Q := er_I (C := fun _ j => 0 < j) (g := fun i j => .int (i % j)) h q
def rPowU : R2 := rI CPow fun i j => .int (i ^ j.toNat)
theorem op_powU {X : Cx} : OpR X (binaryOp .Pow) rPowU := op_pow
theorem er_pow {i j : Int} (h : 0 ≤ j ∧ j ≤ 1000000 ∧ i.natAbs < 2 ^ 64) (q : Q (.int (i ^ j.toNat)) G) : Er rPowU (.int i) (.int j) G Q := er_I (C := CPow) (g := fun i j => .int (i ^ j.toNat)) h q
/-! comparisons -/
def rEqU (K : PySem.W.Frag) : R2 := rOr rEq (rEqD K)
def rNeU (K : PySem.W.Frag) : R2 := rOr rNe (rNeD K)
theorem op_eqU {X : Cx} (hu : X.A.units + 64 < cLine) : OpR X (compareOp .Eq) (rEqU X.K) := opr_or op_eq (op_eqD hu)
theorem op_neU {X : Cx} (hu : X.A.units + 64 < cLine) : OpR X (compareOp .NotEq) (rNeU X.K) := opr_or op_ne (op_neD hu)
theorem er_eqI {K : PySem.W.Frag} {i j : Int} (q : Q (.bl (decide (i = j))) G) : Er (rEqU K) (.int i) (.int j) G Q := er_orL fun H Q' e l => ⟨rfl, l _ G H e (by
  rw [show decide (V.int i = V.int j) = decide (i = j) by rw [dec_int]; exact Bool.beq_eq_decide_eq i j]; exact q)⟩
theorem er_neI {K : PySem.W.Frag} {i j : Int} (q : Q (.bl (!decide (i = j))) G) : Er (rNeU K) (.int i) (.int j) G Q := er_orL fun H Q' e l => ⟨rfl, l _ G H e (by
  rw [show decide (V.int i = V.int j) = decide (i = j) by rw [dec_int]; exact Bool.beq_eq_decide_eq i j]; exact q)⟩
theorem er_eqS {K : PySem.W.Frag} {i j : Str} (q : Q (.bl (decide (i = j))) G) : Er (rEqU K) (.str i) (.str j) G Q := er_orL fun H Q' e l => ⟨rfl, l _ G H e (by
  rw [show decide (V.str i = V.str j) = decide (i = j) by by_cases h : i = j <;> simp [h]]; exact q)⟩
theorem er_neS {K : PySem.W.Frag} {i j : Str} (q : Q (.bl (!decide (i = j))) G) : Er (rNeU K) (.str i) (.str j) G Q := er_orL fun H Q' e l => ⟨rfl, l _ G H e (by
  rw [show decide (V.str i = V.str j) = decide (i = j) by by_cases h : i = j <;> simp [h]]; exact q)⟩
theorem er_eqB {K : PySem.W.Frag} {i j : Bool} (q : Q (.bl (decide (i = j))) G) : Er (rEqU K) (.bl i) (.bl j) G Q := er_orL fun H Q' e l => ⟨rfl, l _ G H e (by
  rw [show decide (V.bl i = V.bl j) = decide (i = j) by by_cases h : i = j <;> simp [h]]; exact q)⟩
theorem er_neB {K : PySem.W.Frag} {i j : Bool} (q : Q (.bl (!decide (i = j))) G) : Er (rNeU K) (.bl i) (.bl j) G Q := er_orL fun H Q' e l => ⟨rfl, l _ G H e (by
  rw [show decide (V.bl i = V.bl j) = decide (i = j) by by_cases h : i = j <;> simp [h]]; exact q)⟩
theorem er_eqD {K : PySem.W.Frag} {x y : V} {d d' : PyData} (h : Dp K G x d) (h' : Dp K G y d') (s : SeqAt.shaped d = true) (s' : SeqAt.shaped d' = true) (q : Q (.bl (PyData.eqv d d')) G) : Er (rEqU K) x y G Q :=
  er_orR fun H Q' e l => ⟨d, d', e.dp h, e.dp h', s, s', l _ G H e q⟩
theorem er_neD {K : PySem.W.Frag} {x y : V} {d d' : PyData} (h : Dp K G x d) (h' : Dp K G y d') (s : SeqAt.shaped d = true) (s' : SeqAt.shaped d' = true) (q : Q (.bl (!PyData.eqv d d')) G) : Er (rNeU K) x y G Q :=
  er_orR fun H Q' e l => ⟨d, d', e.dp h, e.dp h', s, s', l _ G H e q⟩
def rLtI : R2 := rI0 fun i j => .bl (decide (i < j))
def rLeI : R2 := rI0 fun i j => .bl (decide (i ≤ j))
def rGtI : R2 := rI0 fun i j => .bl (decide (j < i))
def rGeI : R2 := rI0 fun i j => .bl (decide (j ≤ i))
def rLtU (K : PySem.W.Frag) : R2 := rOr rLtI (rLtT K)
theorem op_ltU {X : Cx} (hu : X.A.units < cLine) : OpR X (compareOp .Lt) (rLtU X.K) := opr_or op_lt (op_ltT hu)
theorem op_leU {X : Cx} : OpR X (compareOp .LtE) rLeI := op_le
theorem op_gtU {X : Cx} : OpR X (compareOp .Gt) rGtI := op_gt
theorem op_geU {X : Cx} : OpR X (compareOp .GtE) rGeI := op_ge
theorem er_lt {K : PySem.W.Frag} {i j : Int} (q : Q (.bl (decide (i < j))) G) : Er (rLtU K) (.int i) (.int j) G Q := er_orL (er_I0 (g := fun i j => .bl (decide (i < j))) q)
theorem er_le {i j : Int} (q : Q (.bl (decide (i ≤ j))) G) : Er rLeI (.int i) (.int j) G Q := er_I0 (g := fun i j => .bl (decide (i ≤ j))) q
theorem er_gt {i j : Int} (q : Q (.bl (decide (j < i))) G) : Er rGtI (.int i) (.int j) G Q := er_I0 (g := fun i j => .bl (decide (j < i))) q
theorem er_ge {i j : Int} (q : Q (.bl (decide (j ≤ i))) G) : Er rGeI (.int i) (.int j) G Q := er_I0 (g := fun i j => .bl (decide (j ≤ i))) q
theorem er_isN {x : V} (q : Q (.bl (decide (x = .non))) G) : Er rIsN x .non G Q := fun H Q' e l => ⟨rfl, l _ G H e q⟩
theorem er_notN {x : V} (q : Q (.bl (!decide (x = .non))) G) : Er rNotN x .non G Q := fun H Q' e l => ⟨rfl, l _ G H e q⟩
def rInU (K : PySem.W.Frag) : R2 := rOr (rIn K false) (rInD K)
def rNotInU (K : PySem.W.Frag) : R2 := rOr (rIn K true) (rNotInD K)
theorem op_inU {X : Cx} (hu : X.A.units + 65 < cLine) : OpR X (compareOp .In) (rInU X.K) := opr_or op_in_seq (op_inD hu)
theorem op_notInU {X : Cx} (hu : X.A.units + 65 < cLine) : OpR X (compareOp .NotIn) (rNotInU X.K) := opr_or op_notIn_seq (op_notInD hu)
theorem er_in {K : PySem.W.Frag} {x : V} {p : Addr} {xs : List V} (h : SqL K G p xs ∨ SqT K G p xs) (fx : flatV x = true) (fs : xs.all flatV = true) (q : Q (.bl (inV x xs)) G) : Er (rInU K) x (.ref p) G Q :=
  er_orL fun H Q' e l => ⟨p, xs, rfl, h.elim (fun z => .inl (e.sl z)) (fun z => .inr (e.st z)), fx, fs, l _ G H e q⟩
theorem er_notIn {K : PySem.W.Frag} {x : V} {p : Addr} {xs : List V} (h : SqL K G p xs ∨ SqT K G p xs) (fx : flatV x = true) (fs : xs.all flatV = true) (q : Q (.bl (!inV x xs)) G) : Er (rNotInU K) x (.ref p) G Q :=
  er_orL fun H Q' e l => ⟨p, xs, rfl, h.elim (fun z => .inl (e.sl z)) (fun z => .inr (e.st z)), fx, fs, l _ G H e q⟩
theorem er_inD {K : PySem.W.Frag} {x y : V} {d : PyData} {ds : List PyData} (h : Dp K G x d) (h' : Dp K G y (.list ds)) (s : SeqAt.shaped d = true) (s' : SeqAt.shaped (.list ds) = true) (q : Q (.bl (ds.any fun z => PyData.eqv z d)) G) : Er (rInU K) x y G Q :=
  er_orR fun H Q' e l => ⟨d, ds, e.dp h, e.dp h', s, s', l _ G H e q⟩
theorem er_notInD {K : PySem.W.Frag} {x y : V} {d : PyData} {ds : List PyData} (h : Dp K G x d) (h' : Dp K G y (.list ds)) (s : SeqAt.shaped d = true) (s' : SeqAt.shaped (.list ds) = true) (q : Q (.bl (!ds.any fun z => PyData.eqv z d)) G) : Er (rNotInU K) x y G Q :=
  er_orR fun H Q' e l => ⟨d, ds, e.dp h, e.dp h', s, s', l _ G H e q⟩
/-! subscripts -/
theorem er_ixL {K : PySem.W.Frag} {p : Addr} {i : Int} {xs : List V} {v : V} (h : SqL K G p xs) (a : atI xs i = some v) (q : Q v G) : Er (rIx K) (.ref p) (.int i) G Q :=
  fun H Q' e l => .inl ⟨p, xs, i, v, rfl, rfl, e.sl h, a, l _ G H e q⟩
theorem er_ixT {K : PySem.W.Frag} {p : Addr} {i : Int} {xs : List V} {v : V} (h : SqT K G p xs) (a : atI xs i = some v) (q : Q v G) : Er (rIx K) (.ref p) (.int i) G Q :=
  fun H Q' e l => .inr (.inl ⟨p, xs, i, v, rfl, rfl, e.st h, a, l _ G H e q⟩)
theorem er_ixS {K : PySem.W.Frag} {z : Str} {i : Int} {c : Nat} (h : z.length ≤ sizeLine) (a : atI z.cps.toList i = some c) (q : Q (.str ⟨#[c]⟩) G) : Er (rIx K) (.str z) (.int i) G Q :=
  fun H Q' e l => .inr (.inr ⟨z, i, c, rfl, rfl, h, a, l _ G H e q⟩)
/-! slices -/
def rwOr (r r' : V → Option Int → Option Int → Hp → VK → Prop) : V → Option Int → Option Int → Hp → VK → Prop := fun x lo hi H Q => r x lo hi H Q ∨ r' x lo hi H Q
def rSlU (K : PySem.W.Frag) := rwOr (rSlL K) rSlS
theorem sl_U {X : Cx} : SlR X (rSlU X.K) := sl_list.or sl_str
theorem ee_sl {r : V → Option Int → Option Int → Hp → VK → Prop} {te : TE} {tl th : TO} (h : Ee te σ G fun x G1 => Eo tl σ G1 fun lo G2 => Eo th σ G2 fun hi G3 => Ew r x lo hi G3 Q) : Ee (tSl r te tl th) σ G Q := fun H Q' e l =>
  h H _ e fun x G1 H1 e1 h1 => h1 H1 _ e1 fun lo G2 H2 e2 h2 => h2 H2 _ e2 fun hi G3 H3 e3 h3 => h3 H3 Q' e3 l
theorem eo_no {Q : Option Int → Hp → Prop} (q : Q none G) : Eo tNoPart σ G Q := fun H Q' e l => l none G H e q
theorem eo_part {t : TE} {Q : Option Int → Hp → Prop} (h : Ee t σ G fun x G1 => ∃ i, x = .int i ∧ Q (some i) G1) : Eo (tPart t) σ G Q := fun H Q' e l =>
  h H _ e fun x G1 H1 e1 ⟨i, hx, q⟩ => ⟨i, hx, l (some i) G1 H1 e1 q⟩
theorem ew_L {K : PySem.W.Frag} {a : Addr} {xs : List V} {lo hi : Option Int} (h : SqL K G a xs) (q : ∀ p, G p = none → Q (.ref p) (upd G p (.lst (cutV xs lo hi)))) : Ew (rSlU K) (.ref a) lo hi G Q :=
  fun H Q' e l => .inl ⟨a, xs, rfl, e.sl h, fun p hp => l _ _ _ e.put (q p (e.nul hp))⟩
theorem ew_S {K : PySem.W.Frag} {z : Str} {lo hi : Option Int} (h : z.length ≤ sizeLine) (q : Q (.str (cutS z lo hi)) G) : Ew (rSlU K) (.str z) lo hi G Q :=
  fun H Q' e l => .inr ⟨z, rfl, h, l _ G H e q⟩
/-! displays -/
theorem ee_tup {t : TA} (h : Ea t σ G fun xs G1 => xs.length ≤ sizeLine ∧ ∀ p, G1 p = none → Q (.ref p) (upd G1 p (.tup xs))) : Ee (tTup t) σ G Q := fun H Q' e l =>
  h H _ e fun xs G1 H1 e1 ⟨z, q⟩ => ⟨z, fun p hp => l _ _ _ e1.put (q p (e1.nul hp))⟩
theorem ee_lst {t : TA} (h : Ea t σ G fun xs G1 => xs.length ≤ sizeLine ∧ ∀ p, G1 p = none → Q (.ref p) (upd G1 p (.lst xs))) : Ee (tLst t) σ G Q := fun H Q' e l =>
  h H _ e fun xs G1 H1 e1 ⟨z, q⟩ => ⟨z, fun p hp => l _ _ _ e1.put (q p (e1.nul hp))⟩
/-! tests -/
theorem et_test {te : TE} {Q : Bool → Hp → Prop} (h : Ee te σ G fun v G1 => ∃ b, v = .bl b ∧ Q b G1) : Et (tTest te) σ G Q := fun H Q' e l =>
  h H _ e fun v G1 H1 e1 ⟨b, hb, q⟩ => ⟨b, hb, l b G1 H1 e1 q⟩
theorem et_tB {te : TE} {Q : Bool → Hp → Prop} (h : Ee te σ G fun v G1 => ∃ b, v = .bl b ∧ Q b G1) : Et (tB te) σ G Q := fun H Q' e l =>
  h H _ e fun v G1 H1 e1 ⟨b, hb, q⟩ => ⟨b, hb, l b G1 H1 e1 q⟩
theorem et_and {t u : TT} {Q : Bool → Hp → Prop} (h : Et t σ G fun b G1 => if b = true then Et u σ G1 Q else Q false G1) : Et (tAnd t u) σ G Q := fun H Q' e l =>
  h H _ e fun b G1 H1 e1 h1 => by
    cases b with
    | true => exact h1 H1 Q' e1 l
    | false => exact l false G1 H1 e1 h1
theorem et_or {t u : TT} {Q : Bool → Hp → Prop} (h : Et t σ G fun b G1 => if b = true then Q true G1 else Et u σ G1 Q) : Et (tOr t u) σ G Q := fun H Q' e l =>
  h H _ e fun b G1 H1 e1 h1 => by
    cases b with
    | true => exact l true G1 H1 e1 h1
    | false => exact h1 H1 Q' e1 l
theorem et_not {t : TT} {Q : Bool → Hp → Prop} (h : Et t σ G fun b G1 => Q (!b) G1) : Et (tNot t) σ G Q := fun H Q' e l =>
  h H _ e fun b G1 H1 e1 h1 => l (!b) G1 H1 e1 h1
theorem truv_up {K : PySem.W.Frag} {x : V} {G H : Hp} {k : Bool} (e : Ex G H) (h : TruV K x G k) : TruV K x H k := by
  cases x with
  | ref p =>
    rcases h with ⟨xs, s, q⟩ | ⟨xs, s, q⟩ | ⟨kvs, s, q⟩
    · exact .inl ⟨xs, e.sl s, q⟩
    · exact .inr (.inl ⟨xs, e.st s, q⟩)
    · exact .inr (.inr ⟨kvs, e _ _ s, q⟩)
  | _ => exact h
theorem et_tru {K : PySem.W.Frag} {ta : TE} {Q : Bool → Hp → Prop} (h : Ee ta σ G fun x G1 => ∃ k, TruV K x G1 k ∧ Q k G1) : Et (tTru K ta) σ G Q := fun H Q' e l =>
  h H _ e fun x G1 H1 e1 ⟨k, hk, q⟩ => ⟨k, truv_up e1 hk, l k G1 H1 e1 q⟩
theorem pt_tru {X : Cx} {a : Expr} {ta : TE} (ha : PE X a ta) (he : ∀ whole, isTrue a X.env whole = (do let v ← whole; standAt a.pos; holding [v] (truthy v)) := by intro _; rfl) : PT X a (tTru X.K ta) := pt_truth ha he
/-! values of and, or, not, if -/
theorem ee_and {ta tb : TE} (h : Ee ta σ G fun x G1 => ∃ b, x = .bl b ∧ if b = true then Ee tb σ G1 Q else Q (.bl false) G1) : Ee (tAndV ta tb) σ G Q := fun H Q' e l =>
  h H _ e fun x G1 H1 e1 ⟨b, hb, h1⟩ => ⟨b, hb, by
    cases b with
    | true => exact h1 H1 Q' e1 l
    | false => exact l _ G1 H1 e1 h1⟩
theorem ee_or {ta tb : TE} (h : Ee ta σ G fun x G1 => ∃ b, x = .bl b ∧ if b = true then Q (.bl true) G1 else Ee tb σ G1 Q) : Ee (tOrV ta tb) σ G Q := fun H Q' e l =>
  h H _ e fun x G1 H1 e1 ⟨b, hb, h1⟩ => ⟨b, hb, by
    cases b with
    | true => exact l _ G1 H1 e1 h1
    | false => exact h1 H1 Q' e1 l⟩
theorem ee_not {ta : TE} (h : Ee ta σ G fun x G1 => ∃ b, x = .bl b ∧ Q (.bl (!b)) G1) : Ee (tNotV ta) σ G Q := fun H Q' e l =>
  h H _ e fun x G1 H1 e1 ⟨b, hb, h1⟩ => ⟨b, hb, l _ G1 H1 e1 h1⟩
theorem ee_if {t : TT} {ta tb : TE} (h : Et t σ G fun b G1 => if b = true then Ee ta σ G1 Q else Ee tb σ G1 Q) : Ee (tIf t ta tb) σ G Q := fun H Q' e l =>
  h H _ e fun b G1 H1 e1 h1 => by
    cases b with
    | true => exact h1 H1 Q' e1 l
    | false => exact h1 H1 Q' e1 l
/-- two comparisons in a chain -/
theorem ee_chain {r r' : R2} {ta tb tc : TE} (h : Ee ta σ G fun x G1 => Ee tb σ G1 fun y G2 => Er r x y G2 fun z G3 => ∃ k, z = .bl k ∧ if k = true then Ee tc σ G3 fun w G4 => Er r' y w G4 Q else Q (.bl false) G3) : Ee (tChain r r' ta tb tc) σ G Q := fun H Q' e l =>
  h H _ e fun x G1 H1 e1 h1 => h1 H1 _ e1 fun y G2 H2 e2 h2 => h2 H2 _ e2 fun z G3 H3 e3 ⟨k, hk, h3⟩ => ⟨k, hk, by
    cases k with
    | true => exact h3 H3 _ e3 fun w G4 H4 e4 h4 => h4 H4 Q' e4 l
    | false => exact l _ G3 H3 e3 h3⟩
/-! calls of builtins, methods of builtins -/
theorem ee_cb {r : List V → Hp → VK → Prop} {t : TA} (h : Ea t σ G fun vs G1 => Ec r vs G1 Q) : Ee (tCB r t) σ G Q := fun H Q' e l =>
  h H _ e fun vs G1 H1 e1 h1 => h1 H1 Q' e1 l
def rcOr (r r' : List V → Hp → VK → Prop) : List V → Hp → VK → Prop := fun xs H Q => r xs H Q ∨ r' xs H Q
theorem ec_orL {r r' : List V → Hp → VK → Prop} {x : List V} (h : Ec r x G Q) : Ec (rcOr r r') x G Q := fun H Q' e l => .inl (h H Q' e l)
theorem ec_orR {r r' : List V → Hp → VK → Prop} {x : List V} (h : Ec r' x G Q) : Ec (rcOr r r') x G Q := fun H Q' e l => .inr (h H Q' e l)
def rLenU (K : PySem.W.Frag) : List V → Hp → VK → Prop := fun xs H Q => ∃ x n, xs = [x] ∧ LenV K x H n ∧ (n ≤ sizeLine → Q (.int n) H)
theorem call_lenU {X : Cx} : CallR X (.builtin "len") (rLenU X.K) := by
  intro pins s σ H xs us Q I r h
  obtain ⟨x, n, rfl, hL, q⟩ := h
  have hn : n ≤ sizeLine := by
    cases x with
    | str y => exact hL.2 ▸ hL.1
    | byt y => exact hL.2 ▸ hL.1
    | ref p =>
      rcases hL with ⟨xs, h, rfl⟩ | ⟨xs, h, rfl⟩
      · obtain ⟨_, _, _, z⟩ := I.list h; exact z
      · obtain ⟨_, _, _, z⟩ := I.tuple h; exact z
    | _ => exact hL.elim
  exact call_len pins s σ H _ us Q I r ⟨x, n, rfl, hL, q hn⟩
theorem ec_lenL {K : PySem.W.Frag} {p : Addr} {xs : List V} (h : SqL K G p xs) (q : xs.length ≤ sizeLine → Q (.int xs.length) G) : Ec (rLenU K) [.ref p] G Q := fun H Q' e l => ⟨_, _, rfl, .inl ⟨xs, e.sl h, rfl⟩, fun z => l _ G H e (q z)⟩
theorem ec_lenT {K : PySem.W.Frag} {p : Addr} {xs : List V} (h : SqT K G p xs) (q : xs.length ≤ sizeLine → Q (.int xs.length) G) : Ec (rLenU K) [.ref p] G Q := fun H Q' e l => ⟨_, _, rfl, .inr ⟨xs, e.st h, rfl⟩, fun z => l _ G H e (q z)⟩
theorem ec_lenS {K : PySem.W.Frag} {z : Str} (h : z.length ≤ sizeLine) (q : Q (.int z.length) G) : Ec (rLenU K) [.str z] G Q := fun H Q' e l => ⟨_, _, rfl, ⟨h, rfl⟩, fun _ => l _ G H e q⟩
def rInt1 : List V → Hp → VK → Prop := fun xs H Q => (∃ i, xs = [.int i] ∧ Q (.int i) H) ∨ ∃ k, xs = [.bl k] ∧ Q (.int (if k then 1 else 0)) H
theorem call_intU {X : Cx} : CallR X (.type "int") rInt1 := call_int1
theorem ec_int {i : Int} (q : Q (.int i) G) : Ec rInt1 [.int i] G Q := fun H Q' e l => .inl ⟨i, rfl, l _ G H e q⟩
theorem ec_intB {k : Bool} (q : Q (.int (if k then 1 else 0)) G) : Ec rInt1 [.bl k] G Q := fun H Q' e l => .inr ⟨k, rfl, l _ G H e q⟩
def rListU (K : PySem.W.Frag) : List V → Hp → VK → Prop := fun xs H Q => ∃ p ys, xs = [.ref p] ∧ (SqL K H p ys ∨ SqT K H p ys) ∧ ∀ l, H l = none → Q (.ref l) (upd H l (.lst ys))
theorem call_listU {X : Cx} : CallR X (.type "list") (rListU X.K) := call_list_of
theorem ec_list {K : PySem.W.Frag} {p : Addr} {ys : List V} (h : SqL K G p ys ∨ SqT K G p ys) (q : ∀ l, G l = none → Q (.ref l) (upd G l (.lst ys))) : Ec (rListU K) [.ref p] G Q := fun H Q' e l =>
  ⟨p, ys, rfl, h.elim (fun z => .inl (e.sl z)) (fun z => .inr (e.st z)), fun a ha => l _ _ _ e.put (q a (e.nul ha))⟩
def rTupU (K : PySem.W.Frag) : List V → Hp → VK → Prop := fun xs H Q => ∃ p ys, xs = [.ref p] ∧ ((SqL K H p ys ∧ ∀ l, H l = none → Q (.ref l) (upd H l (.tup ys))) ∨ (SqT K H p ys ∧ Q (.ref p) H))
theorem call_tupU {X : Cx} : CallR X (.type "tuple") (rTupU X.K) := call_tuple_of
theorem ec_tupL {K : PySem.W.Frag} {p : Addr} {ys : List V} (h : SqL K G p ys) (q : ∀ l, G l = none → Q (.ref l) (upd G l (.tup ys))) : Ec (rTupU K) [.ref p] G Q := fun H Q' e l =>
  ⟨p, ys, rfl, .inl ⟨e.sl h, fun a ha => l _ _ _ e.put (q a (e.nul ha))⟩⟩
theorem ec_tupT {K : PySem.W.Frag} {p : Addr} {ys : List V} (h : SqT K G p ys) (q : Q (.ref p) G) : Ec (rTupU K) [.ref p] G Q := fun H Q' e l => ⟨p, ys, rfl, .inr ⟨e.st h, l _ G H e q⟩⟩
def rMax2U : List V → Hp → VK → Prop := fun xs H Q => ∃ i j, xs = [.int i, .int j] ∧ Q (.int (if j > i then j else i)) H
def rMin2U : List V → Hp → VK → Prop := fun xs H Q => ∃ i j, xs = [.int i, .int j] ∧ Q (.int (if j < i then j else i)) H
theorem call_max2U {X : Cx} (hc : X.calm = true) : CallR X (.builtin "max") rMax2U := call_max2 hc
theorem call_min2U {X : Cx} (hc : X.calm = true) : CallR X (.builtin "min") rMin2U := call_min2 hc
theorem ec_max2 {i j : Int} (q : Q (.int (if j > i then j else i)) G) : Ec rMax2U [.int i, .int j] G Q := fun H Q' e l => ⟨i, j, rfl, l _ G H e q⟩
theorem ec_min2 {i j : Int} (q : Q (.int (if j < i then j else i)) G) : Ec rMin2U [.int i, .int j] G Q := fun H Q' e l => ⟨i, j, rfl, l _ G H e q⟩
def rOrdU : List V → Hp → VK → Prop := fun xs H Q => ∃ x : Str, xs = [.str x] ∧ x.length = 1 ∧ Q (.int (x.cps.getD 0 0 : Nat)) H
theorem call_ordU {X : Cx} : CallR X (.builtin "ord") rOrdU := call_ord
theorem ec_ord {x : Str} (h : x.length = 1) (q : Q (.int (x.cps.getD 0 0 : Nat)) G) : Ec rOrdU [.str x] G Q := fun H Q' e l => ⟨x, rfl, h, l _ G H e q⟩
/-! isinstance -/
def rIsiU (K : PySem.W.Frag) := rcOr (rIsi K) (rIsiT K)
theorem call_isiU {X : Cx} : CallR X (.builtin "isinstance") (rIsiU X.K) := CallR.or call_isi call_isiT
theorem tyof_up {K : PySem.W.Frag} {G H : Hp} {x : V} {t : Value} (e : Ex G H) (h : TyOf K G x t) : TyOf K H x t := by
  cases h with
  | non => exact .non
  | bl x => exact .bl x
  | int x => exact .int x
  | str x => exact .str x
  | flt x => exact .flt x
  | lst h => exact .lst (e _ _ h)
  | frz h => exact .frz (e _ _ h)
  | tup h => exact .tup (e _ _ h)
  | dK h => exact .dK (e _ _ h)
  | dT h => exact .dT (e _ _ h)
  | ins h a b c d e0 => exact .ins (e _ _ h) a b c d e0
theorem tyx_up {K : PySem.W.Frag} {G H : Hp} {x : V} {t : Value} (e : Ex G H) (h : TyX K G x t) : TyX K H x t := by
  cases h with
  | base h => exact .base (tyof_up e h)
  | byt b => exact .byt b
  | set h => exact .set (e _ _ h)
  | kList h c => exact .kList h c
  | kTuple h c => exact .kTuple h c
  | kDict h c => exact .kDict h c
  | fTuple h => exact .fTuple (e _ _ h)
  | fDict h => exact .fDict (e _ _ h)
theorem tyx_l {K : PySem.W.Frag} {p : Addr} {xs : List V} (h : SqL K G p xs) : TyX K G (.ref p) (.type "list") := by
  rcases h with (h | ⟨o, h⟩) | ⟨o, its, n, h, c, _⟩
  · exact .base (.lst h)
  · exact .base (.frz h)
  · exact .kList h c
theorem tyx_t {K : PySem.W.Frag} {p : Addr} {xs : List V} (h : SqT K G p xs) : TyX K G (.ref p) (.type "tuple") := by
  rcases h with (h | ⟨o, h⟩) | ⟨o, its, n, h, c, _⟩
  · exact .base (.tup h)
  · exact .fTuple h
  · exact .kTuple h c
theorem ec_isi {K : PySem.W.Frag} {x : V} {a b : String} {r : Bool} (h : TyX K G x (.type a)) (k : kitB a b = some r) (q : Q (.bl r) G) : Ec (rIsiU K) [x, .ty b] G Q :=
  ec_orL fun H Q' e l => ⟨x, .ty b, _, _, r, rfl, .ty b, tyx_up e h, kit_ty k, l _ G H e q⟩
theorem ec_isi2 {K : PySem.W.Frag} {x : V} {tp : Addr} {a b c : String} {r r' : Bool} (h : TyX K G x (.type a)) (ht : G tp = some (.tup [.ty b, .ty c])) (k : kitB a b = some r) (k' : kitB a c = some r') (q : Q (.bl (r || r')) G) : Ec (rIsiU K) [x, .ref tp] G Q :=
  ec_orR fun H Q' e l => ⟨x, tp, _, _, _, r || r', rfl, e _ _ ht, .cons (.ty b) (.cons (.ty c) .nil), tyx_up e h, by
    refine kitAny_cons (b := r) (kit_ty k) (fun h0 => ?_) (fun h1 => by rw [h1]; rfl)
    rw [h0]
    refine kitAny_cons (b := r') (kit_ty k') (fun h0 => ?_) (fun h1 => by rw [h1]; rfl)
    rw [h0]; rfl, l _ G H e q⟩
/-! own defs -/
/-- a promise over known heaps: arguments, known heap, what is wanted, what is wanted of an exception -/
abbrev Pm := List V → Hp → (V → Hp → Prop) → XK → Prop
def up (S : Pm) : Sp := fun vs H Q E => ∃ G Q0 E0, Ex G H ∧ S vs G Q0 E0 ∧ (∀ v G' H', Ex G' H' → Q0 v G' → Q v H') ∧ (∀ c d G' H', Ex G' H' → E0 c d G' → E c d H')
def dn (E : XK) : XK := fun c d G => ∀ H, Ex G H → E c d H
theorem ee_call {S : Pm} {dvs : List V} {E : XK} {t : TA} (h : Ea t σ G fun vs G1 => S (vs ++ dvs) G1 Q (dn E)) : Ee (tCall (up S) dvs E t) σ G Q := fun H Q' e l =>
  h H _ e fun vs G1 H1 e1 h1 => ⟨G1, Q, dn E, e1, h1, l, fun c d G' H' e' h' => h' H' e'⟩
theorem ee_meth {C : Addr} {m : Str} {S : Pm} {dvs : List V} {E : XK} {ta : TE} {t : TA}
    (h : Ee ta σ G fun x G1 => ∃ a dx fs, x = .ref a ∧ G1 a = some (.ins C dx fs) ∧ fs.lookup m = none ∧ Ea t σ G1 fun vs G2 => S (x :: (vs ++ dvs)) G2 Q (dn E)) : Ee (tMeth C m (up S) dvs E ta t) σ G Q := fun H Q' e l =>
  h H _ e fun x G1 H1 e1 ⟨a, dx, fs, h1, h2, h3, h4⟩ => ⟨a, dx, fs, h1, e1 _ _ h2, h3, h4 H1 _ e1 fun vs G2 H2 e2 h5 => ⟨G2, Q, dn E, e2, h5, l, fun c d G' H' e' h' => h' H' e'⟩⟩
theorem ee_make {C : Addr} {S : Pm} {dvs : List V} {E : XK} {t : TA}
    (h : Ea t σ G fun vs G1 => ∀ x dx, G1 x = none → G1 dx = none → dx ≠ x → S (.ref x :: (vs ++ dvs)) (upd (upd G1 dx (.own x)) x (.ins C dx [])) (fun v G2 => v = .non ∧ Q (.ref x) G2) (dn E)) : Ee (tMake C (up S) dvs E t) σ G Q := fun H Q' e l =>
  h H _ e fun vs G1 H1 e1 h1 x dx hx hd hn => ⟨_, _, dn E, e1.put.put, h1 x dx (e1.nul hx) (e1.nul hd) hn, fun v G' H' e' ⟨hv, q⟩ => ⟨hv, l _ G' H' e' q⟩, fun c d G' H' e' h' => h' H' e'⟩
/-! fields -/
theorem ee_fld {K : PySem.W.Frag} {ta : TE} {f : Str} (h : Ee ta σ G fun x G1 => ∃ a C dx fs v, x = .ref a ∧ G1 a = some (.ins C dx fs) ∧ Cls K C ∧ NoAttr K C f ∧ fs.lookup f = some v ∧ Q v G1) : Ee (tFld K ta f) σ G Q := fun H Q' e l =>
  h H _ e fun x G1 H1 e1 ⟨a, C, dx, fs, v, h1, h2, h3, h4, h5, q⟩ => ⟨a, C, dx, fs, v, h1, e1 _ _ h2, h3, h4, h5, l _ G1 H1 e1 q⟩
/-! methods of builtins -/
theorem tyv_up {K : PySem.W.Frag} {T : String} {x : V} {H : Hp} (e : Ex G H) (h : tyV K T x G) : tyV K T x H := by
  cases x with
  | ref p =>
    rcases h with ⟨a, xs, s⟩ | h | ⟨a, (⟨kvs, s⟩ | ⟨kvs, s⟩)⟩ | ⟨a, S, n, s⟩
    · exact .inl ⟨a, xs, e.sl s⟩
    · exact .inr (.inl h)
    · exact .inr (.inr (.inl ⟨a, .inl ⟨kvs, e _ _ s⟩⟩))
    · exact .inr (.inr (.inl ⟨a, .inr ⟨kvs, e _ _ s⟩⟩))
    · exact .inr (.inr (.inr ⟨a, S, n, e _ _ s⟩))
  | _ => exact h
theorem ee_bm {K : PySem.W.Frag} {T : String} {r : V → List V → Hp → VK → Prop} {to : TE} {t : TA} (h : Ee to σ G fun x G1 => tyV K T x G1 ∧ Ea t σ G1 fun xs G2 => Em r x xs G2 Q) : Ee (tBM K T r to t) σ G Q := fun H Q' e l =>
  h H _ e fun x G1 H1 e1 ⟨ty, h1⟩ => ⟨tyv_up e1 ty, h1 H1 _ e1 fun xs G2 H2 e2 h2 => h2 H2 Q' e2 l⟩
theorem ee_bm0 {K : PySem.W.Frag} {T : String} {r : V → List V → Hp → VK → Prop} {to : TE} (h : Ee to σ G fun x G1 => tyV K T x G1 ∧ Em r x [] G1 Q) : Ee (tBM0 K T r to) σ G Q := fun H Q' e l =>
  h H _ e fun x G1 H1 e1 ⟨ty, h1⟩ => ⟨tyv_up e1 ty, h1 H1 Q' e1 l⟩
theorem ty_list {K : PySem.W.Frag} {p : Addr} {xs : List V} (h : SqL K G p xs) : tyV K "list" (.ref p) G := .inl ⟨rfl, xs, h⟩
theorem ty_lst {K : PySem.W.Frag} {p : Addr} {xs : List V} (h : G p = some (.lst xs)) : tyV K "list" (.ref p) G := .inl ⟨rfl, xs, SqL.of h⟩
theorem em_append {p : Addr} {xs : List V} {y : V} (h : G p = some (.lst xs)) (hz : xs.length < sizeLine) (q : Q .non (upd G p (.lst (xs ++ [y])))) : Em rAppend (.ref p) [y] G Q := fun H Q' e l =>
  ⟨p, xs, y, rfl, rfl, e _ _ h, hz, l _ _ _ e.put q⟩
theorem em_extend {p b : Addr} {xs ys : List V} (h : G p = some (.lst xs)) (hb : G b = some (.lst ys)) (hz : xs.length + ys.length ≤ sizeLine) (q : Q .non (upd G p (.lst (xs ++ ys)))) : Em rExtend (.ref p) [.ref b] G Q := fun H Q' e l =>
  ⟨p, b, xs, ys, rfl, rfl, e _ _ h, e _ _ hb, hz, l _ _ _ e.put q⟩
/-- sep.join(list) -/
def rJoinU (K : PySem.W.Frag) : V → List V → Hp → VK → Prop := fun x xs H Q => ∃ a p, ∃ ys : List Str, x = .str a ∧ xs = [.ref p] ∧ (SqL K H p (ys.map V.str) ∨ SqT K H p (ys.map V.str)) ∧ (ys.map (·.length)).sum + ys.length * a.length ≤ 16777216 ∧ Q (.str (Txt.join a ys)) H
theorem mt_joinU {X : Cx} : MtR X "str.join" (rJoinU X.K) := mt_join
theorem ee_m1 {r : V → List V → Hp → VK → Prop} {to te : TE} (h : Ee to σ G fun x G1 => (∃ a, x = .str a) ∧ Ee te σ G1 fun y G2 => Em r x [y] G2 Q) : Ee (tM1 r to te) σ G Q := fun H Q' e l =>
  h H _ e fun x G1 H1 e1 ⟨a, h1⟩ => ⟨a, h1 H1 _ e1 fun y G2 H2 e2 h2 => h2 H2 Q' e2 l⟩
theorem em_join {K : PySem.W.Frag} {a : Str} {p : Addr} {ys : List Str} (h : SqL K G p (ys.map V.str)) (hz : (ys.map (·.length)).sum + ys.length * a.length ≤ 16777216) (q : Q (.str (Txt.join a ys)) G) : Em (rJoinU K) (.str a) [.ref p] G Q := fun H Q' e l =>
  ⟨a, p, ys, rfl, rfl, .inl (e.sl h), hz, l _ G H e q⟩
end

/-! ## statements -/
section
variable {σ : L2.St} {G G' : Hp} {D : Ek}
theorem lf_nx {D : Ek} {D' : Ends} {N : L2.St → Hp → Prop} {N' : L2.St → Hp → Prop} (l : Lf D D') (h : ∀ σ G H, Ex G H → N σ G → N' σ H) : Lf { D with nx := N } { D' with nx := N' } := ⟨h, l.rt, l.bk, l.ct⟩
theorem es_seq {t u : TS} (h : Es t { D with nx := fun σ' G' => Es u D σ' G' } σ G) : Es (tSeq t u) D σ G := fun H D' e l =>
  h H { D' with nx := u D' } e ⟨fun σ' G1 H1 e1 h1 => h1 H1 D' e1 l, l.rt, l.bk, l.ct⟩
theorem es_next (q : D.nx σ G) : Es tNext D σ G := fun H D' e l => l.nx _ _ _ e q
theorem es_brk (q : D.bk σ G) : Es tBreak D σ G := fun H D' e l => l.bk _ _ _ e q
theorem es_cont (q : D.ct σ G) : Es tCont D σ G := fun H D' e l => l.ct _ _ _ e q
theorem es_ret {te : TE} (h : Ee te σ G D.rt) : Es (tRet te) D σ G := fun H D' e l => h H _ e l.rt
theorem es_retN (q : D.rt .non G) : Es tRetN D σ G := fun H D' e l => l.rt _ _ _ e q
theorem es_drop {te : TE} (h : Ee te σ G fun _ G1 => D.nx σ G1) : Es (tDrop te) D σ G := fun H D' e l => h H _ e fun v G1 H1 e1 q => l.nx _ _ _ e1 q
theorem es_asg {te : TE} {g : TG} (h : Ee te σ G fun v G1 => Eg g v σ G1 D.nx) : Es (tAsg te g) D σ G := fun H D' e l =>
  h H _ e fun v G1 H1 e1 h1 => h1 H1 _ e1 l.nx
theorem es_if {c : TT} {t u : TS} (h : Et c σ G fun b G1 => if b = true then Es t D σ G1 else Es u D σ G1) : Es (tIfS c t u) D σ G := fun H D' e l =>
  h H _ e fun b G1 H1 e1 h1 => by
    cases b with
    | true => exact h1 H1 D' e1 l
    | false => exact h1 H1 D' e1 l
theorem es_aug {i : Nat} {te : TE} {ti : TIp} {v : V} (hv : σ[i]? = some (some v)) (h : Ee te σ G fun y G1 => Eip ti v y G1 fun z G2 => D.nx (σ.set i (some z)) G2) : Es (tAug i te ti) D σ G := fun H D' e l =>
  ⟨v, hv, h H _ e fun y G1 H1 e1 h1 => h1 H1 _ e1 fun z G2 H2 e2 q => l.nx _ _ _ e2 q⟩
theorem ip_I {f : Int → Int → Int} {i j : Int} {Q : V → Hp → Prop} (q : Q (.int (f i j)) G) : Eip (ipI f) (.int i) (.int j) G Q := fun H Q' e l => ⟨i, j, rfl, rfl, l _ G H e q⟩
/-! targets -/
theorem eg_name {i : Nat} {v : V} {Q : L2.St → Hp → Prop} (q : Q (σ.set i (some v)) G) : Eg (gName i) v σ G Q := fun H Q' e l => l _ G H e q
theorem eg_tup {K : PySem.W.Frag} {n : Nat} {t : TGs} {a : Addr} {xs : List V} {Q : L2.St → Hp → Prop} (h : SqT K G a xs) (hn : xs.length = n) (q : Egs t xs σ G Q) : Eg (gTup K n t) (.ref a) σ G Q := fun H Q' e l =>
  ⟨a, xs, rfl, e.st h, hn, q H Q' e l⟩
theorem egs_nil {Q : L2.St → Hp → Prop} (q : Q σ G) : Egs gNil [] σ G Q := fun H Q' e l => ⟨rfl, l _ G H e q⟩
theorem egs_cons {t : TG} {u : TGs} {v : V} {r : List V} {Q : L2.St → Hp → Prop} (h : Eg t v σ G fun σ' G' => Egs u r σ' G' Q) : Egs (gCons t u) (v :: r) σ G Q := fun H Q' e l =>
  ⟨v, r, rfl, h H _ e fun σ1 G1 H1 e1 h1 => h1 H1 Q' e1 l⟩
theorem eg_sub {to ti : TE} {t : TSet} {v : V} {Q : L2.St → Hp → Prop} (h : Ee to σ G fun o G1 => Ee ti σ G1 fun i G2 => Ez t o i v G2 fun G3 => Q σ G3) : Eg (gSub to ti t) v σ G Q := fun H Q' e l =>
  h H _ e fun o G1 H1 e1 h1 => h1 H1 _ e1 fun i G2 H2 e2 h2 => h2 H2 _ e2 fun G3 H3 e3 q => l _ G3 H3 e3 q
theorem ez_L {p : Addr} {k : Int} {j : Nat} {xs : List V} {v : V} {Q : Hp → Prop} (h : G p = some (.lst xs)) (hk : ixN xs.length k = some j) (q : Q (upd G p (.lst (xs.set j v)))) : Ez rSetL (.ref p) (.int k) v G Q := fun H Q' e l =>
  ⟨p, xs, k, j, rfl, rfl, e _ _ h, hk, l _ _ e.put q⟩
/-- xs[i] op= e -/
def rGetL (K : PySem.W.Frag) : V → V → Hp → VK → Prop := fun x y H Q => ∃ p xs i v, x = .ref p ∧ y = .int i ∧ SqL K H p xs ∧ 0 ≤ i ∧ xs[i.toNat]? = some v ∧ Q v H
theorem pget_list {X : Cx} : PGet X (rGetL X.K) := by
  intro pins s σ H o i ov iv Q I rx ry h
  obtain ⟨p, xs, k, v, rfl, rfl, hq, h0, hv, q⟩ := h
  cases rx
  obtain ⟨t, rfl⟩ := ry
  obtain ⟨its, r, pl, hz⟩ := I.list hq
  obtain ⟨w, ew, rw'⟩ := r.get hv
  have hlt := (List.getElem?_eq_some_iff.mp hv).1
  have hn := line63
  exact wpAny_getItem_list pl.isList h0 (by omega) (by simpa using ew) ⟨v, H, I, rw', q⟩
theorem es_augS {to ti te : TE} {tget : V → V → Hp → VK → Prop} {tip : TIp} {tset : TSet}
    (h : Ee to σ G fun o G1 => Ee ti σ G1 fun i G2 => Er tget o i G2 fun x G3 => Ee te σ G3 fun y G4 => Eip tip x y G4 fun z G5 => Ez tset o i z G5 fun G6 => D.nx σ G6) : Es (tAugS to ti te tget tip tset) D σ G := fun H D' e l =>
  h H _ e fun o G1 H1 e1 h1 => h1 H1 _ e1 fun i G2 H2 e2 h2 => h2 H2 _ e2 fun x G3 H3 e3 h3 => h3 H3 _ e3 fun y G4 H4 e4 h4 => h4 H4 _ e4 fun z G5 H5 e5 h5 => h5 H5 _ e5 fun G6 H6 e6 q => l.nx _ _ _ e6 q
theorem er_getL {K : PySem.W.Frag} {p : Addr} {i : Int} {xs : List V} {v : V} {Q : V → Hp → Prop} (h : SqL K G p xs) (h0 : 0 ≤ i) (a : xs[i.toNat]? = some v) (q : Q v G) : Er (rGetL K) (.ref p) (.int i) G Q :=
  fun H Q' e l => ⟨p, xs, i, v, rfl, rfl, e.sl h, h0, a, l _ G H e q⟩
/-! fields stored -/
theorem es_fld {K : PySem.W.Frag} {ta tv : TE} {f : Str} (h : Ee tv σ G fun y G1 => Ee ta σ G1 fun x G2 => ∃ a C dx fs, x = .ref a ∧ G2 a = some (.ins C dx fs) ∧ Cls K C ∧ NoAttr K C f ∧ fs.length < 1000 ∧ D.nx σ (upd G2 a (.ins C dx (putF f y fs)))) : Es (sFld K ta tv f) D σ G := fun H D' e l =>
  h H _ e fun y G1 H1 e1 h1 => h1 H1 _ e1 fun x G2 H2 e2 ⟨a, C, dx, fs, h2, h3, h4, h5, h6, q⟩ => ⟨a, C, dx, fs, h2, e2 _ _ h3, h4, h5, h6, l.nx _ _ _ e2.put q⟩
/-! while -/
theorem es_while {c : TT} {tb : TS} (W : Nat → L2.St → Hp → Prop) (m0 : Nat) (h0 : W m0 σ G)
    (hs : ∀ m σ G, W m σ G → Et c σ G fun b G1 => if b = true then Es tb { D with nx := fun σ' G' => ∃ m', m' < m ∧ W m' σ' G', ct := fun σ' G' => ∃ m', m' < m ∧ W m' σ' G', bk := D.nx } σ G1 else D.nx σ G1) : Es (tWhile c tb) D σ G := fun H D' e l => by
  refine ⟨fun m σ H => ∃ G, Ex G H ∧ W m σ G, ⟨m0, G, e, h0⟩, ?_⟩
  rintro m σ1 H1 ⟨G1, e1, w⟩
  refine hs m σ1 G1 w H1 _ e1 fun b G2 H2 e2 h2 => ?_
  cases b with
  | true =>
    refine ⟨fun σ' H' => ∃ G', Ex G' H' ∧ ∃ m', m' < m ∧ W m' σ' G', fun σ' H' ⟨G', e', m', lt, w'⟩ => ⟨m', lt, G', e', w'⟩, ?_⟩
    exact h2 H2 _ e2 ⟨fun σ G H e q => ⟨G, e, q⟩, l.rt, l.nx, fun σ G H e q => ⟨G, e, q⟩⟩
  | false => exact l.nx _ _ _ e2 h2
/-! what is walked -/
def Ei (wi : TI) (σ : L2.St) (G : Hp) (R : It → Hp → Prop) : Prop := ∀ (H : Hp) (R' : It → Hp → Prop), Ex G H → (∀ J G' H', Ex G' H' → R J G' → R' J H') → wi σ H R'
/-- n turns while Gd holds of the known heap; at turn i it yields as Y tells -/
structure Wk (J : It) (n : Nat) (Gd : Hp → Prop) (Y : Nat → Hp → V → Hp → Prop) : Prop where
  goes : ∀ i G H, i < n → Gd G → Ex G H → J.go i H
  stops : ∀ G H, Gd G → Ex G H → J.stop n H
  yields : ∀ i G H x H', i < n → Gd G → Ex G H → J.yld i H x H' → ∃ G', Ex G' H' ∧ Y i G x G'
/-- the i-th value, the heap as it was -/
def YV (f : Nat → Option V) : Nat → Hp → V → Hp → Prop := fun i G x G' => G' = G ∧ f i = some x
/-- a new pair -/
def YP (f g : Nat → Option V) : Nat → Hp → V → Hp → Prop := fun i G v G' => ∃ T x y, v = .ref T ∧ G T = none ∧ G' = upd G T (.tup [x, y]) ∧ f i = some x ∧ g i = some y
theorem es_for {wi : TI} {g : TG} {tb : TS}
    (h : Ei wi σ G fun J G1 => ∃ n Gd Y, Wk J n Gd Y ∧ ∃ Pv : Nat → L2.St → Hp → Prop, Pv 0 σ G1 ∧ (∀ i σ G, i ≤ n → Pv i σ G → Gd G) ∧
      (∀ i x σ G G', i < n → Pv i σ G → Y i G x G' → Eg g x σ G' fun σ2 G2 => Es tb { D with nx := Pv (i + 1), ct := Pv (i + 1), bk := D.nx } σ2 G2) ∧ (∀ σ G, Pv n σ G → D.nx σ G)) : Es (tFor wi g tb) D σ G := fun H D' e l => by
  refine h H _ e ?_
  rintro J G1 H1 e1 ⟨n, Gd, Y, wk, Pv, h0, hG, hs, hd⟩
  refine ⟨fun i m σ H => m = n - i ∧ i ≤ n ∧ ∃ G, Ex G H ∧ Pv i σ G, ⟨n, by simp, Nat.zero_le _, G1, e1, h0⟩, ?_⟩
  rintro i m σ2 H2 ⟨rfl, hi, G2, e2, p⟩
  have q := hG i σ2 G2 hi p
  by_cases hlt : i < n
  · refine .inr ⟨wk.goes i G2 H2 hlt q e2, fun σ' H' => ∃ G', Ex G' H' ∧ Pv (i + 1) σ' G', fun σ' H' ⟨G', e', p'⟩ => ⟨n - (i + 1), by omega, rfl, hlt, G', e', p'⟩, fun x H' y => ?_⟩
    obtain ⟨G3, e3, y3⟩ := wk.yields i G2 H2 x H' hlt q e2 y
    refine hs i x σ2 G2 G3 hlt p y3 H' _ e3 fun σ4 G4 H4 e4 h4 => ?_
    exact h4 H4 _ e4 ⟨fun σ G H e q => ⟨G, e, q⟩, l.rt, l.nx, fun σ G H e q => ⟨G, e, q⟩⟩
  · have en : i = n := by omega
    subst en
    exact .inl ⟨wk.stops G2 H2 q e2, l.nx _ _ _ e2 (hd σ2 G2 p)⟩
section
variable {K : PySem.W.Frag} {a b : Addr} {xs ys : List V}
theorem wk_list : Wk (Itl K a) xs.length (fun G => SqL K G a xs) (YV fun i => xs[i]?) :=
  ⟨fun i G H hi q e => ⟨xs, xs[i], e.sl q, by simp [hi]⟩, fun G H q e => ⟨xs, e.sl q, Nat.le_refl _⟩, fun i G H x H' hi q e y => ⟨G, by rw [y.1]; exact e, rfl, y.2 xs (e.sl q)⟩⟩
theorem wk_tup : Wk (Itt K a) xs.length (fun G => SqT K G a xs) (YV fun i => xs[i]?) :=
  ⟨fun i G H hi q e => ⟨xs, xs[i], e.st q, by simp [hi]⟩, fun G H q e => ⟨xs, e.st q, Nat.le_refl _⟩, fun i G H x H' hi q e y => ⟨G, by rw [y.1]; exact e, rfl, y.2 xs (e.st q)⟩⟩
theorem wk_range {lo : Int} {n : Nat} : Wk (Itr lo n) n (fun _ => True) (YV fun i => some (.int (lo + i))) :=
  ⟨fun _ _ _ hi _ _ => hi, fun _ _ _ _ => Nat.le_refl _, fun i G H x H' _ _ e y => ⟨G, by rw [y.1]; exact e, rfl, by rw [y.2]⟩⟩
theorem wk_rangeC {lo c : Int} {n : Nat} : Wk (Itc lo c n) n (fun _ => True) (YV fun i => some (.int (lo + (i : Nat) * c))) :=
  ⟨fun _ _ _ hi _ _ => hi, fun _ _ _ _ => Nat.le_refl _, fun i G H x H' _ _ e y => ⟨G, by rw [y.1]; exact e, rfl, by rw [y.2]⟩⟩
theorem wk_str {z : Str} : Wk (Its z) z.cps.size (fun _ => True) (YV fun i => z.cps[i]?.map fun c => .str ⟨#[c]⟩) :=
  ⟨fun _ _ _ hi _ _ => hi, fun _ _ _ _ => Nat.le_refl _, fun i G H x H' _ _ e y => ⟨G, by rw [y.1]; exact e, rfl, by obtain ⟨c, h1, h2⟩ := y.2; show Option.map _ _ = _; rw [h1, h2]; rfl⟩⟩
theorem wk_zip {n : Nat} (hn : n = min xs.length ys.length) : Wk (Itz K a b) n (fun G => SqL K G a xs ∧ SqL K G b ys) (YP (fun i => xs[i]?) (fun i => ys[i]?)) := by
  subst hn
  refine ⟨fun i G H hi q e => ?_, fun G H q e => ⟨xs, ys, e.sl q.1, e.sl q.2, by omega⟩, fun i G H v H' _ q e y => ?_⟩
  · have h1 : i < xs.length := by omega
    have h2 : i < ys.length := by omega
    exact ⟨xs, ys, xs[i], ys[i], e.sl q.1, e.sl q.2, by simp [h1], by simp [h2]⟩
  · obtain ⟨T, x, z, h1, h2, h3, h4, h5⟩ := y
    exact ⟨upd G T (.tup [x, z]), by rw [h3]; exact e.put, T, x, z, h1, e.nul h2, rfl, h4 xs (e.sl q.1), h5 ys (e.sl q.2)⟩
theorem wk_enum : Wk (Ite K a) xs.length (fun G => SqL K G a xs) (YP (fun i => some (.int (i : Nat))) (fun i => xs[i]?)) := by
  refine ⟨fun i G H hi q e => ⟨xs, xs[i], e.sl q, by simp [hi]⟩, fun G H q e => ⟨xs, e.sl q, Nat.le_refl _⟩, fun i G H v H' _ q e y => ?_⟩
  obtain ⟨T, x, h1, h2, h3, h4⟩ := y
  exact ⟨upd G T (.tup [.int (i : Nat), x]), by rw [h3]; exact e.put, T, .int (i : Nat), x, h1, e.nul h2, rfl, rfl, h4 xs (e.sl q)⟩
end
theorem ei_list {K : PySem.W.Frag} {tl : TE} {R : It → Hp → Prop} (h : Ee tl σ G fun x G1 => ∃ a xs, x = .ref a ∧ SqL K G1 a xs ∧ R (Itl K a) G1) : Ei (iList K tl) σ G R := fun H R' e l =>
  h H _ e fun x G1 H1 e1 ⟨a, xs, h1, h2, q⟩ => ⟨a, h1, ⟨xs, e1.sl h2⟩, l _ _ _ e1 q⟩
theorem ei_tup {K : PySem.W.Frag} {tl : TE} {R : It → Hp → Prop} (h : Ee tl σ G fun x G1 => ∃ a xs, x = .ref a ∧ SqT K G1 a xs ∧ R (Itt K a) G1) : Ei (iTup K tl) σ G R := fun H R' e l =>
  h H _ e fun x G1 H1 e1 ⟨a, xs, h1, h2, q⟩ => ⟨a, h1, ⟨xs, e1.st h2⟩, l _ _ _ e1 q⟩
theorem ei_r1 {ta : TA} {R : It → Hp → Prop} (h : Ea ta σ G fun vs G1 => ∃ j : Int, vs = [.int j] ∧ -(2 ^ 62) ≤ j ∧ j < 2 ^ 62 ∧ R (Itr 0 j.toNat) G1) : Ei (iRng1 ta) σ G R := fun H R' e l =>
  h H _ e fun vs G1 H1 e1 ⟨j, h1, h2, h3, q⟩ => ⟨j, h1, h2, h3, l _ _ _ e1 q⟩
theorem ei_r2 {ta : TA} {R : It → Hp → Prop} (h : Ea ta σ G fun vs G1 => ∃ i j : Int, vs = [.int i, .int j] ∧ (-(2 ^ 62) ≤ i ∧ i < 2 ^ 62 ∧ -(2 ^ 62) ≤ j ∧ j < 2 ^ 62) ∧ R (Itr i (j - i).toNat) G1) : Ei (iRng2 ta) σ G R := fun H R' e l =>
  h H _ e fun vs G1 H1 e1 ⟨i, j, h1, h2, q⟩ => ⟨i, j, h1, h2, l _ _ _ e1 q⟩
theorem ei_r3 {ta : TA} {R : It → Hp → Prop} (h : Ea ta σ G fun vs G1 => ∃ (i j c : Int) (n : Nat), vs = [.int i, .int j, .int c] ∧ RgC i j c n ∧ R (Itc i c n) G1) : Ei (iRng3 ta) σ G R := fun H R' e l =>
  h H _ e fun vs G1 H1 e1 ⟨i, j, c, n, h1, h2, q⟩ => ⟨i, j, c, n, h1, h2, l _ _ _ e1 q⟩
theorem ei_str {te : TE} {R : It → Hp → Prop} (h : Ee te σ G fun v G1 => ∃ x, v = .str x ∧ R (Its x) G1) : Ei (iStr te) σ G R := fun H R' e l =>
  h H _ e fun v G1 H1 e1 ⟨x, h1, q⟩ => ⟨x, h1, l _ _ _ e1 q⟩
theorem ei_zip {K : PySem.W.Frag} {ta : TA} {R : It → Hp → Prop} (h : Ea ta σ G fun vs G1 => ∃ a b xs ys, vs = [.ref a, .ref b] ∧ SqL K G1 a xs ∧ SqL K G1 b ys ∧ R (Itz K a b) G1) : Ei (iZip K ta) σ G R := fun H R' e l =>
  h H _ e fun vs G1 H1 e1 ⟨a, b, xs, ys, h1, h2, h3, q⟩ => ⟨a, b, xs, ys, h1, e1.sl h2, e1.sl h3, l _ _ _ e1 q⟩
theorem ei_enum {K : PySem.W.Frag} {ta : TA} {R : It → Hp → Prop} (h : Ea ta σ G fun vs G1 => ∃ a xs, vs = [.ref a] ∧ SqL K G1 a xs ∧ R (Ite K a) G1) : Ei (iEnum K ta) σ G R := fun H R' e l =>
  h H _ e fun vs G1 H1 e1 ⟨a, xs, h1, h2, q⟩ => ⟨a, xs, h1, e1.sl h2, l _ _ _ e1 q⟩
/-! comprehensions: Pv by the turn, the list so far, the known heap without it; p is its place -/
theorem ee_lc {wi : TI} {g : TG} {tt : TT} {te : TE} {vs : List Nat} {Q : V → Hp → Prop}
    (h : Ei wi σ G fun J G1 => ∃ n Gd Y, Wk J n Gd Y ∧ (∀ G p o, Gd G → G p = none → Gd (upd G p o)) ∧ ∀ p, G1 p = none → ∃ Pv : Nat → List V → Hp → Prop, Pv 0 [] G1 ∧ (∀ i acc G, i ≤ n → Pv i acc G → G p = none ∧ acc.length < sizeLine ∧ Gd G) ∧
      (∀ i acc x G G', i < n → Pv i acc G → Y i (upd G p (.lst acc)) x G' → Eg g x (wipe σ vs) G' fun σ2 G2 => wipe σ2 vs = wipe σ vs ∧ Et tt σ2 G2 fun b G3 =>
        if b = true then Ee te σ2 G3 fun y G4 => G4 p = some (.lst acc) ∧ ∃ G5, Ex (upd G5 p (.lst acc)) G4 ∧ Pv (i + 1) (acc ++ [y]) G5 else G3 p = some (.lst acc) ∧ ∃ G5, Ex (upd G5 p (.lst acc)) G3 ∧ Pv (i + 1) acc G5) ∧
      (∀ acc G, Pv n acc G → Q (.ref p) (upd G p (.lst acc)))) : Ee (tLc wi g tt te vs) σ G Q := fun H Q' e l => by
  refine h H _ e ?_
  rintro J G1 H1 e1 ⟨n, Gd, Y, wk, gd, hh⟩ p hp
  obtain ⟨Pv, h0, hG, hs, hd⟩ := hh p (e1.nul hp)
  refine ⟨fun i m H => m = n - i ∧ i ≤ n ∧ ∃ G acc, Ex (upd G p (.lst acc)) H ∧ Pv i acc G, ⟨n, by simp, Nat.zero_le _, G1, [], e1.put, h0⟩, ?_⟩
  rintro i m H2 ⟨rfl, hi, G2, acc, e2, pv⟩
  obtain ⟨gp, gz, gg⟩ := hG i acc G2 hi pv
  have q := gd _ p (.lst acc) gg gp
  by_cases hlt : i < n
  · refine .inr ⟨wk.goes i _ H2 hlt q e2, fun H' => ∃ G acc, Ex (upd G p (.lst acc)) H' ∧ Pv (i + 1) acc G, fun H' ⟨G', acc', e', p'⟩ => ⟨n - (i + 1), by omega, rfl, hlt, G', acc', e', p'⟩, fun x H' y => ?_⟩
    obtain ⟨G3, e3, y3⟩ := wk.yields i _ H2 x H' hlt q e2 y
    refine hs i acc x G2 G3 hlt pv y3 H' _ e3 fun σ4 G4 H4 e4 ⟨hw, h4⟩ => ⟨hw, ?_⟩
    refine h4 H4 _ e4 fun b G5 H5 e5 h5 => ?_
    cases b with
    | true =>
      refine h5 H5 _ e5 fun y G6 H6 e6 ⟨ha, G7, e7, p7⟩ => ⟨acc, e6 _ _ ha, gz, G7, _, ?_, p7⟩
      have := (e7.trans e6).put (p := p) (o := .lst (acc ++ [y]))
      rwa [upd_upd] at this
    | false =>
      obtain ⟨ha, G7, e7, p7⟩ := h5
      exact ⟨G7, acc, e7.trans e5, p7⟩
  · have en : i = n := by omega
    subst en
    exact .inl ⟨wk.stops _ H2 q e2, l _ _ _ e2 (hd acc G2 pv)⟩
theorem et_yes {Q : Bool → Hp → Prop} (q : Q true G) : Et tYes σ G Q := fun H Q' e l => l true G H e q
end
/-- a def's body, from its promise -/
theorem body_up {S : Pm} {t : TS} {N : List Str} (h : ∀ vs G Q E, S vs G Q E → Es t { nx := fun _ G' => Q .non G', rt := Q } (start N vs) G) : ∀ vs H Q E, up S vs H Q E → t { nx := fun _ H' => Q .non H', rt := Q } (start N vs) H := by
  rintro vs H Q E ⟨G, Q0, E0, e, hS, lq, le⟩
  exact h vs G Q0 E0 hS H _ e ⟨fun _ G H e q => lq _ _ _ e q, fun v G H e q => lq _ _ _ e q, fun _ _ _ _ z => z.elim, fun _ _ _ _ z => z.elim⟩
end Lw

namespace Lw
open PySem PySem.Spec PyProof.Rows L2
/-! ## defs by name -/
section
variable (P : Program) (w : World) (K : PySem.W.Frag) (mg : Str → Option Value) (base : Heap)
/-- the module's def x keeps the promise sp -/
structure Has (CX : CXT) (k : Nat) (x : Str) (ps : List Str) (sp : Sp) : Prop where
  ex : ∃ f fd, mg x = some (.ref f) ∧ PySem.W.keepIn K (.ref f) = true ∧ Binds K fd ps [] ∧ FnOk P w K mg base CX k f fd ps sp
/-- the method m of the class at C keeps it -/
structure HasM (CX : CXT) (k : Nat) (C : Addr) (m : Str) (ps : List Str) (sp : Sp) : Prop where
  ex : ∃ f fd, Meth K C m f ∧ Binds K fd ps [] ∧ FnOk P w K mg base CX k f fd ps sp
/-- the class at C is made by an __init__ that keeps it -/
structure HasI (CX : CXT) (k : Nat) (C : Addr) (ps : List Str) (sp : Sp) : Prop where
  ex : ∃ f fd, Mk K C f ∧ Binds K fd ps [] ∧ FnOk P w K mg base CX k f fd ps sp
end
/-- what the top has at a def's name -/
structure Fnd (K : PySem.W.Frag) (mg : Str → Option Value) (x : Str) (st : Stmt) : Prop where
  ex : ∃ f fd, mg x = some (.ref f) ∧ Fun K x x st f fd
/-- .. at a method's -/
structure FndM (K : PySem.W.Frag) (C : Addr) (m qual : Str) (st : Stmt) : Prop where
  ex : ∃ f fd, Meth K C m f ∧ Fun K m qual st f fd
/-- .. at a class's __init__ -/
structure FndI (K : PySem.W.Frag) (C : Addr) (qual : Str) (st : Stmt) : Prop where
  ex : ∃ f fd, Mk K C f ∧ Fun K "__init__" qual st f fd
section
variable {P : Program} {w : World} {K : PySem.W.Frag} {mg : Str → Option Value} {base : Heap}
abbrev BindOk (x qual : Str) (st : Stmt) (ps : List Str) : Prop := ∀ (kV doc pm : Value) (an : Option Addr) (cdv ct : Value) (us : List Value), us.length = ps.length → bindArgs (PySem.W.fnOf x qual (defArgs st) (defBody st) (defScope st) .none kV doc pm an cdv ct) ⟨us, []⟩ = pure (ps.zip us)
theorem fnok0 {x qual : Str} {st : Stmt} {f : Addr} {fd : FuncData} {N ps : List Str} {k : Nat} {S : Pm} {t : TS} (F : Fun K x qual st f fd) (sc : FnScope N ps (defScope st))
    (len : ∀ vs G Q E, S vs G Q E → vs.length = ps.length)
    (der : ∀ (f : Addr) (cdv : Value) (A : Around) (outer : List Env) (s : Shared) (H : Hp) (E : XK), Room k (A.deeper (envOfC qual (defScope st) s.heap.objs.size f cdv)) → PSs (cxOf CX0 P w K mg base N qual (defScope st) f cdv A outer s H E).nox (defBody st) t)
    (pure : ∀ vs G Q E, S vs G Q E → Es t { nx := fun _ G' => Q .non G', rt := Q } (start N vs) G) : FnOk P w K mg base CX0 (k + 1) f fd ps (up S) :=
  F.ok sc (fun vs H Q E ⟨G, Q0, E0, _, h, _⟩ => len vs G Q0 E0 h) fun cdv A outer s H vs Q E hr h => ⟨t, der f cdv A outer s H E hr, body_up pure vs H Q E h⟩
theorem Has.mk0 {x : Str} {st : Stmt} {N ps : List Str} {k : Nat} {S : Pm} {t : TS} (F : Fnd K mg x st) (sc : FnScope N ps (defScope st)) (hb : BindOk x x st ps)
    (len : ∀ vs G Q E, S vs G Q E → vs.length = ps.length)
    (der : ∀ (f : Addr) (cdv : Value) (A : Around) (outer : List Env) (s : Shared) (H : Hp) (E : XK), Room k (A.deeper (envOfC x (defScope st) s.heap.objs.size f cdv)) → PSs (cxOf CX0 P w K mg base N x (defScope st) f cdv A outer s H E).nox (defBody st) t)
    (pure : ∀ vs G Q E, S vs G Q E → Es t { nx := fun _ G' => Q .non G', rt := Q } (start N vs) G) : Has P w K mg base CX0 (k + 1) x ps (up S) := by
  obtain ⟨f, fd, hm, F⟩ := F.ex
  exact ⟨f, fd, hm, F.kp, F.binds hb, fnok0 F sc len der pure⟩
theorem HasM.mk0 {C : Addr} {m qual : Str} {st : Stmt} {N ps : List Str} {k : Nat} {S : Pm} {t : TS} (F : FndM K C m qual st) (sc : FnScope N ps (defScope st)) (hb : BindOk m qual st ps)
    (len : ∀ vs G Q E, S vs G Q E → vs.length = ps.length)
    (der : ∀ (f : Addr) (cdv : Value) (A : Around) (outer : List Env) (s : Shared) (H : Hp) (E : XK), Room k (A.deeper (envOfC qual (defScope st) s.heap.objs.size f cdv)) → PSs (cxOf CX0 P w K mg base N qual (defScope st) f cdv A outer s H E).nox (defBody st) t)
    (pure : ∀ vs G Q E, S vs G Q E → Es t { nx := fun _ G' => Q .non G', rt := Q } (start N vs) G) : HasM P w K mg base CX0 (k + 1) C m ps (up S) := by
  obtain ⟨f, fd, hm, F⟩ := F.ex
  exact ⟨f, fd, hm, F.binds hb, fnok0 F sc len der pure⟩
theorem HasI.mk0 {C : Addr} {qual : Str} {st : Stmt} {N ps : List Str} {k : Nat} {S : Pm} {t : TS} (F : FndI K C qual st) (sc : FnScope N ps (defScope st)) (hb : BindOk "__init__" qual st ps)
    (len : ∀ vs G Q E, S vs G Q E → vs.length = ps.length)
    (der : ∀ (f : Addr) (cdv : Value) (A : Around) (outer : List Env) (s : Shared) (H : Hp) (E : XK), Room k (A.deeper (envOfC qual (defScope st) s.heap.objs.size f cdv)) → PSs (cxOf CX0 P w K mg base N qual (defScope st) f cdv A outer s H E).nox (defBody st) t)
    (pure : ∀ vs G Q E, S vs G Q E → Es t { nx := fun _ G' => Q .non G', rt := Q } (start N vs) G) : HasI P w K mg base CX0 (k + 1) C ps (up S) := by
  obtain ⟨f, fd, hm, F⟩ := F.ex
  exact ⟨f, fd, hm, F.binds hb, fnok0 F sc len der pure⟩
/-- a promise that is never asked for -/
theorem Has.never {x : Str} {st : Stmt} {ps : List Str} {CX : CXT} {k : Nat} {S : Pm} (F : Fnd K mg x st) (hb : BindOk x x st ps) (no : ∀ vs G Q E, ¬ S vs G Q E) : Has P w K mg base CX k x ps (up S) := by
  obtain ⟨f, fd, hm, F⟩ := F.ex
  exact ⟨f, fd, hm, F.kp, F.binds hb, ⟨fun vs H Q E ⟨_, _, _, _, z, _⟩ => (no _ _ _ _ z).elim, fun _ _ _ _ _ _ _ _ _ _ _ _ _ ⟨_, _, _, _, z, _⟩ => (no _ _ _ _ z).elim⟩⟩
end
section
variable {X : Cx} {CX : CXT} {k : Nat} {C : Addr} {ps : List Str} {sp : Sp} {E : XK} {x m : Str} {p pos apos : Pos} {e o : Expr} {es : List Expr} {ta : TE} {t : TA}
theorem pe_callH (h : Has X.prog X.w X.K X.mg X.base CX k x ps sp) (hr : Room k X.A) (hg : Gl X x) (hx : Passes CX X E) (ha : PA X (e :: es) t)
    (hdb : (x == ("__debug__" : Str)) = false := by decide) (he : starEach (e :: es) X.env = (false, eval e X.env) :: starEach es X.env := by rfl) (hpl : (backTo pos (starEach es X.env)).any (·.1) = false := by rfl) :
    PE X (.Call (.Name x p) (e :: es) [] pos) (tCall sp [] E t) := by
  obtain ⟨f, fd, hm, kp, b, F⟩ := h.ex
  exact pe_call F hr hg hm kp b .nil hx ha hdb he hpl
theorem pe_callH0 (h : Has X.prog X.w X.K X.mg X.base CX k x ps sp) (hr : Room k X.A) (hg : Gl X x) (hx : Passes CX X E)
    (hdb : (x == ("__debug__" : Str)) = false := by decide) : PE X (.Call (.Name x p) [] [] pos) (tCall sp [] E tNil) := by
  obtain ⟨f, fd, hm, kp, b, F⟩ := h.ex
  exact pe_call0 F hr hg hm kp b .nil hx hdb
theorem pe_methH {pl : Sem Bool} (ho : PE X o ta) (c : Cls X.K C) (h : HasM X.prog X.w X.K X.mg X.base CX k C m ps sp) (hr : Room k X.A) (hx : Passes CX X E) (ha : PA X (e :: es) t)
    (hst : starEach (e :: es) X.env = (false, eval e X.env) :: starEach es X.env := by rfl) (hpl : (backTo pos (starEach es X.env)).any (·.1) = false := by rfl)
    (ht : eval (.Call (.Attribute o m apos) (e :: es) [] pos) X.env = (do
      let ov ← eval o X.env
      standAt apos.atName
      let (f, first) ← holding [ov] (getMethod ov m pl)
      callWith pos f first (backTo pos (starEach (e :: es) X.env)) (backToKw pos (keywordEach [] X.env))) := by rfl) :
    PE X (.Call (.Attribute o m apos) (e :: es) [] pos) (tMeth C m sp [] E ta t) := by
  obtain ⟨f, fd, hm, b, F⟩ := h.ex
  exact pe_meth ho c hm F hr b .nil hx ha hst hpl ht
theorem pe_methH0 {pl : Sem Bool} (ho : PE X o ta) (c : Cls X.K C) (h : HasM X.prog X.w X.K X.mg X.base CX k C m ps sp) (hr : Room k X.A) (hx : Passes CX X E)
    (ht : eval (.Call (.Attribute o m apos) [] [] pos) X.env = (do
      let ov ← eval o X.env
      standAt apos.atName
      let (f, first) ← holding [ov] (getMethod ov m pl)
      callWith pos f first (backTo pos (starEach [] X.env)) (backToKw pos (keywordEach [] X.env))) := by rfl) :
    PE X (.Call (.Attribute o m apos) [] [] pos) (tMeth C m sp [] E ta tNil) := by
  obtain ⟨f, fd, hm, b, F⟩ := h.ex
  exact pe_meth0 ho c hm F hr b .nil hx ht
theorem pe_makeH (h : HasI X.prog X.w X.K X.mg X.base CX k C ps sp) (hr : Room (k + 1) X.A) (hg : Gl X x) (hm : X.mg x = some (.ref C)) (hx : Passes CX X E) (ha : PA X (e :: es) t)
    (hdb : (x == ("__debug__" : Str)) = false := by decide) (he : starEach (e :: es) X.env = (false, eval e X.env) :: starEach es X.env := by rfl) (hpl : (backTo pos (starEach es X.env)).any (·.1) = false := by rfl) :
    PE X (.Call (.Name x p) (e :: es) [] pos) (tMake C sp [] E t) := by
  obtain ⟨f, fd, M, b, F⟩ := h.ex
  exact pe_make M F hr hg hm b .nil hx ha hdb he hpl
theorem pe_makeH0 (h : HasI X.prog X.w X.K X.mg X.base CX k C ps sp) (hr : Room (k + 1) X.A) (hg : Gl X x) (hm : X.mg x = some (.ref C)) (hx : Passes CX X E)
    (hdb : (x == ("__debug__" : Str)) = false := by decide) : PE X (.Call (.Name x p) [] [] pos) (tMake C sp [] E tNil) := by
  obtain ⟨f, fd, M, b, F⟩ := h.ex
  exact pe_make0 M F hr hg hm b .nil hx hdb
theorem rm64 {j : Nat} {A : Around} (r : Room j A) : A.units + 64 < cLine := r.units
theorem rm65 {j : Nat} {A : Around} (r : Room j A) : A.units + 65 < cLine := by have := r.un; omega
theorem rm0 {j : Nat} {A : Around} (r : Room j A) : A.units < cLine := r.units0
end
end Lw

namespace Lw
open PySem PySem.Spec PyProof.Rows L2
/-! ## ready forms -/
theorem ifd {P A B : Prop} [Decidable P] (h1 : P → A) (h2 : ¬ P → B) : if decide P = true then A else B := by
  by_cases h : P
  · rw [if_pos (decide_eq_true h)]; exact h1 h
  · rw [if_neg (by simp [h])]; exact h2 h
theorem ifnd {P A B : Prop} [Decidable P] (h1 : ¬ P → A) (h2 : P → B) : if (!decide P) = true then A else B := by
  by_cases h : P
  · rw [if_neg (by simp [h])]; exact h2 h
  · rw [if_pos (by simp [h])]; exact h1 h
theorem ite_nt {A B : Prop} (b : B) : if (!true) = true then A else B := by rw [if_neg (by decide)]; exact b
theorem ite_nf {A B : Prop} (a : A) : if (!false) = true then A else B := by rw [if_pos (by decide)]; exact a
theorem ift {c : Bool} {A B : Prop} (h : c = true) (a : A) : if c = true then A else B := by rw [if_pos h]; exact a
theorem iff_ {c : Bool} {A B : Prop} (h : c = false) (b : B) : if c = true then A else B := by rw [h]; exact iteF b
theorem ifb {c : Bool} {A B : Prop} (h1 : c = true → A) (h2 : c = false → B) : if c = true then A else B := by
  cases c with
  | true => exact iteT (h1 rfl)
  | false => exact iteF (h2 rfl)
theorem sz1000 {n : Nat} (h : n ≤ 1000) : n ≤ sizeLine := Nat.le_of_lt (small1000 h)
theorem szM {n : Nat} (h : n ≤ 16000000) : n ≤ sizeLine := Nat.le_trans h (by decide)
theorem szlt {n : Nat} (h : n < 16000000) : n < sizeLine := Nat.lt_of_lt_of_le h (by decide)
theorem line62 {n : Nat} (h : n ≤ sizeLine) : -(2 ^ 62) ≤ (n : Int) ∧ (n : Int) < 2 ^ 62 := by
  have : n ≤ 16777216 := by rw [← sizeLine_eq]; exact h
  omega
section
variable {σ : L2.St} {G : Hp} {D : Ek} {K : PySem.W.Frag}
theorem sqL_upd {a l : Addr} {o : HO} {xs : List V} (h : SqL K G l xs) (n : l ≠ a) : SqL K (upd G a o) l xs := by
  rcases h with (h | ⟨q, h⟩) | h
  · exact .inl (.inl (by rw [upd_ne n]; exact h))
  · exact .inl (.inr ⟨q, by rw [upd_ne n]; exact h⟩)
  · exact .inr h
theorem upd_comm {a b : Addr} {o u : HO} (h : a ≠ b) : upd (upd G a o) b u = upd (upd G b u) a o := by
  funext c; unfold upd; split
  · rename_i h1; subst h1; rw [if_neg (Ne.symm h)]
  · rfl
theorem get_new {a p : Addr} {o u : HO} (h : G a = some o) (n : G p = none) : upd G p u a = some o := by rw [upd_ne (ne_of_none h n)]; exact h
theorem get_ne {a p : Addr} {o u : HO} (h : G a = some o) (n : a ≠ p) : upd G p u a = some o := by rw [upd_ne n]; exact h
theorem nul_ne {a p : Addr} {u : HO} (h : G a = none) (n : a ≠ p) : upd G p u a = none := by rw [upd_ne n]; exact h
theorem ne_new {a p : Addr} {o : HO} (h : G a = some o) (n : G p = none) : a ≠ p := ne_of_none h n
theorem new_ne {a p : Addr} {o : HO} (h : G a = some o) (n : G p = none) : p ≠ a := (ne_of_none h n).symm
theorem nul_upd {a p : Addr} {u : HO} (h : upd G p u a = none) : G a = none := by
  by_cases q : a = p
  · subst q; rw [upd_same] at h; cases h
  · rw [upd_ne q] at h; exact h
theorem nul_updN {a p : Addr} {u : HO} (h : upd G p u a = none) : a ≠ p := by
  rintro rfl; rw [upd_same] at h; cases h
theorem er_isN_non {Q : V → Hp → Prop} (q : Q (.bl true) G) : Er rIsN .non .non G Q := er_isN q
theorem er_isN_bl {b : Bool} {Q : V → Hp → Prop} (q : Q (.bl false) G) : Er rIsN (.bl b) .non G Q := er_isN q
theorem er_isN_int {b : Int} {Q : V → Hp → Prop} (q : Q (.bl false) G) : Er rIsN (.int b) .non G Q := er_isN q
theorem er_isN_str {b : Str} {Q : V → Hp → Prop} (q : Q (.bl false) G) : Er rIsN (.str b) .non G Q := er_isN q
theorem er_isN_ref {b : Addr} {Q : V → Hp → Prop} (q : Q (.bl false) G) : Er rIsN (.ref b) .non G Q := er_isN q
theorem er_notN_non {Q : V → Hp → Prop} (q : Q (.bl false) G) : Er rNotN .non .non G Q := er_notN q
theorem er_notN_bl {b : Bool} {Q : V → Hp → Prop} (q : Q (.bl true) G) : Er rNotN (.bl b) .non G Q := er_notN q
theorem er_notN_int {b : Int} {Q : V → Hp → Prop} (q : Q (.bl true) G) : Er rNotN (.int b) .non G Q := er_notN q
theorem er_notN_str {b : Str} {Q : V → Hp → Prop} (q : Q (.bl true) G) : Er rNotN (.str b) .non G Q := er_notN q
theorem er_notN_ref {b : Addr} {Q : V → Hp → Prop} (q : Q (.bl true) G) : Er rNotN (.ref b) .non G Q := er_notN q
theorem tru_bl {b : Bool} {R : Bool → Prop} (q : R b) : ∃ k, TruV K (.bl b) G k ∧ R k := ⟨b, rfl, q⟩
theorem tru_int {b : Int} {R : Bool → Prop} (q : R (b != 0)) : ∃ k, TruV K (.int b) G k ∧ R k := ⟨_, rfl, q⟩
theorem tru_non {R : Bool → Prop} (q : R false) : ∃ k, TruV K .non G k ∧ R k := ⟨_, rfl, q⟩
theorem ex_bl {b : Bool} {R : Bool → Prop} (q : R b) : ∃ c, V.bl b = .bl c ∧ R c := ⟨b, rfl, q⟩
theorem ex_int {b : Int} {R : Int → Prop} (q : R b) : ∃ c, V.int b = .int c ∧ R c := ⟨b, rfl, q⟩
theorem ex_str {b : Str} {R : Str → Prop} (q : R b) : ∃ c, V.str b = .str c ∧ R c := ⟨b, rfl, q⟩
theorem ex_strx {b : Str} {R : Prop} (q : R) : (∃ c, V.str b = .str c) ∧ R := ⟨⟨b, rfl⟩, q⟩
theorem ex_ints1 {b : Int} {R : Int → Prop} (q : R b) : ∃ c, [V.int b] = [.int c] ∧ R c := ⟨b, rfl, q⟩
theorem ex_ints2 {a b : Int} {R : Int → Int → Prop} (q : R a b) : ∃ c d, [V.int a, V.int b] = [.int c, .int d] ∧ R c d := ⟨a, b, rfl, q⟩
def EsU (t : TS) (D : Ek) (σ : L2.St) (G : Hp) : Prop := Es t D σ G
theorem es_unf {t : TS} (h : EsU t D σ G) : Es t D σ G := h
/-! sequences of either sort -/
def Sq (K : PySem.W.Frag) (G : Hp) (a : Addr) (xs : List V) : Prop := SqL K G a xs ∨ SqT K G a xs
theorem ec_lenU {p : Addr} {xs : List V} {Q : V → Hp → Prop} (h : Sq K G p xs) (q : xs.length ≤ sizeLine → Q (.int xs.length) G) : Ec (rLenU K) [.ref p] G Q := h.elim (fun h => ec_lenL h q) fun h => ec_lenT h q
theorem er_ixU {p : Addr} {i : Int} {xs : List V} {v : V} {Q : V → Hp → Prop} (h : Sq K G p xs) (a : atI xs i = some v) (q : Q v G) : Er (rIx K) (.ref p) (.int i) G Q := h.elim (fun h => er_ixL h a q) fun h => er_ixT h a q
/-! data -/
theorem dp_list {v : V} {ds : List PyData} (h : Dp K G v (.list ds)) : ∃ a xs, v = .ref a ∧ SqL K G a xs ∧ DpAll K G xs ds := by cases h with | lst h1 h2 => exact ⟨_, _, rfl, h1, h2⟩
theorem dp_tup {v : V} {ds : List PyData} (h : Dp K G v (.tuple ds)) : ∃ a xs, v = .ref a ∧ SqT K G a xs ∧ DpAll K G xs ds := by cases h with | tup h1 h2 => exact ⟨_, _, rfl, h1, h2⟩
theorem dps_len : ∀ {xs : List V} {ds : List PyData}, DpAll K G xs ds → xs.length = ds.length
  | _, _, .nil => rfl
  | _, _, .cons _ t => by rw [List.length_cons, List.length_cons, dps_len t]
theorem dps_get : ∀ {xs : List V} {ds : List PyData} {i : Nat} {d : PyData}, DpAll K G xs ds → ds[i]? = some d → ∃ x, xs[i]? = some x ∧ Dp K G x d
  | _, _, _, _, .nil, h => by cases h
  | _, _, 0, _, .cons h _, e => by cases e; exact ⟨_, rfl, h⟩
  | _, _, i + 1, _, .cons _ t, e => dps_get (i := i) t e
theorem dps_get' : ∀ {xs : List V} {ds : List PyData} {i : Nat} {x : V}, DpAll K G xs ds → xs[i]? = some x → ∃ d, ds[i]? = some d ∧ Dp K G x d
  | _, _, _, _, .nil, h => by cases h
  | _, _, 0, _, .cons h _, e => by cases e; exact ⟨_, rfl, h⟩
  | _, _, i + 1, _, .cons _ t, e => dps_get' (i := i) t e
theorem dps_app : ∀ {xs ys : List V} {ds es : List PyData}, DpAll K G xs ds → DpAll K G ys es → DpAll K G (xs ++ ys) (ds ++ es)
  | _, _, _, _, .nil, h => h
  | _, _, _, _, .cons h t, k => .cons h (dps_app t k)
theorem dps_one {v : V} {d : PyData} (h : Dp K G v d) : DpAll K G [v] [d] := .cons h .nil
theorem dps_ints : ∀ ns : List Int, DpAll K G (ns.map V.int) (ns.map PyData.int)
  | [] => .nil
  | n :: r => .cons (.int n) (dps_ints r)
/-! data without lists: stays whatever happens to other things than tuples -/
def Tx (G H : Hp) : Prop := ∀ a xs, Rd G a (.tup xs) → Rd H a (.tup xs)
theorem Tx.refl : Tx G G := fun _ _ h => h
theorem Tx.trans {H I : Hp} (a : Tx G H) (b : Tx H I) : Tx G I := fun x o h => b x o (a x o h)
theorem Ex.tx {H : Hp} (e : Ex G H) : Tx G H := fun _ _ h => e.rd h
def NoTup (G : Hp) (p : Addr) : Prop := ∀ xs, ¬ Rd G p (.tup xs)
theorem noTup_lst {p : Addr} {xs : List V} (h : G p = some (.lst xs)) : NoTup G p := by
  rintro ys (h' | ⟨o, h'⟩) <;> (rw [h] at h'; cases h')
theorem noTup_ins {p C dx : Addr} {fs : List (Str × V)} (h : G p = some (.ins C dx fs)) : NoTup G p := by
  rintro ys (h' | ⟨o, h'⟩) <;> (rw [h] at h'; cases h')
theorem noTup_nul {p : Addr} (h : G p = none) : NoTup G p := by
  rintro ys (h' | ⟨o, h'⟩) <;> (rw [h] at h'; cases h')
theorem Tx.upd {p : Addr} {o : HO} (h : NoTup G p) : Tx G (upd G p o) := fun a xs r => by
  have n : a ≠ p := fun e => h xs (e ▸ r)
  rcases r with r | ⟨q, r⟩
  · exact .inl (by rw [upd_ne n]; exact r)
  · exact .inr ⟨q, by rw [upd_ne n]; exact r⟩
theorem Tx.st {H : Hp} {a : Addr} {xs : List V} (e : Tx G H) (h : SqT K G a xs) : SqT K H a xs := h.elim (fun r => .inl (e _ _ r)) .inr
mutual
inductive Im (K : PySem.W.Frag) (G : Hp) : V → PyData → Prop
  | non : Im K G .non .none
  | bl (b : Bool) : Im K G (.bl b) (.bool b)
  | int (i : Int) : Im K G (.int i) (.int i)
  | str (x : Str) : Im K G (.str x) (.str x)
  | tup {a : Addr} {xs : List V} {ds : List PyData} : SqT K G a xs → Ims K G xs ds → Im K G (.ref a) (.tuple ds)
inductive Ims (K : PySem.W.Frag) (G : Hp) : List V → List PyData → Prop
  | nil : Ims K G [] []
  | cons {v : V} {vs : List V} {d : PyData} {ds : List PyData} : Im K G v d → Ims K G vs ds → Ims K G (v :: vs) (d :: ds)
end
mutual
theorem Im.dp : ∀ {v : V} {d : PyData}, Im K G v d → Dp K G v d
  | _, _, .non => .non
  | _, _, .bl b => .bl b
  | _, _, .int i => .int i
  | _, _, .str x => .str x
  | _, _, .tup s h => .tup s h.dps
theorem Ims.dps : ∀ {v : List V} {d : List PyData}, Ims K G v d → DpAll K G v d
  | _, _, .nil => .nil
  | _, _, .cons h t => .cons h.dp t.dps
end
mutual
theorem Tx.im {H : Hp} (e : Tx G H) : ∀ {v : V} {d : PyData}, Im K G v d → Im K H v d
  | _, _, .non => .non
  | _, _, .bl b => .bl b
  | _, _, .int i => .int i
  | _, _, .str x => .str x
  | _, _, .tup s h => .tup (e.st s) (e.ims h)
theorem Tx.ims {H : Hp} (e : Tx G H) : ∀ {v : List V} {d : List PyData}, Ims K G v d → Ims K H v d
  | _, _, .nil => .nil
  | _, _, .cons h t => .cons (e.im h) (e.ims t)
end
theorem im_tup {v : V} {ds : List PyData} (h : Im K G v (.tuple ds)) : ∃ a xs, v = .ref a ∧ SqT K G a xs ∧ Ims K G xs ds := by cases h with | tup h1 h2 => exact ⟨_, _, rfl, h1, h2⟩
theorem ims_len : ∀ {xs : List V} {ds : List PyData}, Ims K G xs ds → xs.length = ds.length
  | _, _, .nil => rfl
  | _, _, .cons _ t => by rw [List.length_cons, List.length_cons, ims_len t]
theorem ims_get : ∀ {xs : List V} {ds : List PyData} {i : Nat} {d : PyData}, Ims K G xs ds → ds[i]? = some d → ∃ x, xs[i]? = some x ∧ Im K G x d
  | _, _, _, _, .nil, h => by cases h
  | _, _, 0, _, .cons h _, e => by cases e; exact ⟨_, rfl, h⟩
  | _, _, i + 1, _, .cons _ t, e => ims_get (i := i) t e
theorem ims_get' : ∀ {xs : List V} {ds : List PyData} {i : Nat} {x : V}, Ims K G xs ds → xs[i]? = some x → ∃ d, ds[i]? = some d ∧ Im K G x d
  | _, _, _, _, .nil, h => by cases h
  | _, _, 0, _, .cons h _, e => by cases e; exact ⟨_, rfl, h⟩
  | _, _, i + 1, _, .cons _ t, e => ims_get' (i := i) t e
theorem ims_app : ∀ {xs ys : List V} {ds es : List PyData}, Ims K G xs ds → Ims K G ys es → Ims K G (xs ++ ys) (ds ++ es)
  | _, _, _, _, .nil, h => h
  | _, _, _, _, .cons h t, k => .cons h (ims_app t k)
theorem ims_one {v : V} {d : PyData} (h : Im K G v d) : Ims K G [v] [d] := .cons h .nil
theorem ims_ints : ∀ ns : List Int, Ims K G (ns.map V.int) (ns.map PyData.int)
  | [] => .nil
  | n :: r => .cons (.int n) (ims_ints r)
/-! loops with a name for a target -/
abbrev Bd (D : Ek) (N : L2.St → Hp → Prop) : Ek := { D with nx := N, ct := N, bk := D.nx }
theorem es_forR1 {ta : TA} {j : Nat} {tb : TS} (h : Ea ta σ G fun vs G1 => ∃ n : Int, vs = [.int n] ∧ (-(2 ^ 62) ≤ n ∧ n < 2 ^ 62) ∧ ∃ Pv : Nat → L2.St → Hp → Prop, Pv 0 σ G1 ∧
    (∀ (i : Nat) σ G, (i : Int) < n → Pv i σ G → Es tb (Bd D (Pv (i + 1))) (σ.set j (some (.int (i : Int)))) G) ∧ (∀ σ G, Pv n.toNat σ G → D.nx σ G)) : Es (tFor (iRng1 ta) (gName j) tb) D σ G := by
  refine es_for (ei_r1 fun H Q' e l => h H _ e fun vs G1 H1 e1 ⟨n, h1, ⟨h2, h3⟩, Pv, h4, h5, h6⟩ => l _ G1 H1 e1 ⟨n, h1, h2, h3, _, _, _, wk_range, Pv, h4, fun _ _ _ _ _ => trivial, fun i x σ G G' hi p y => ?_, h6⟩)
  obtain ⟨rfl, y⟩ := y
  have : x = .int (i : Int) := by rw [← Option.some.inj y, Int.zero_add]
  subst this
  exact eg_name (h5 i σ G' (by omega) p)
theorem es_forR2 {ta : TA} {j : Nat} {tb : TS} (h : Ea ta σ G fun vs G1 => ∃ lo n : Int, vs = [.int lo, .int n] ∧ (-(2 ^ 62) ≤ lo ∧ lo < 2 ^ 62 ∧ -(2 ^ 62) ≤ n ∧ n < 2 ^ 62) ∧ ∃ Pv : Nat → L2.St → Hp → Prop, Pv 0 σ G1 ∧
    (∀ (i : Nat) σ G, lo + (i : Int) < n → Pv i σ G → Es tb (Bd D (Pv (i + 1))) (σ.set j (some (.int (lo + (i : Int))))) G) ∧ (∀ σ G, Pv (n - lo).toNat σ G → D.nx σ G)) : Es (tFor (iRng2 ta) (gName j) tb) D σ G := by
  refine es_for (ei_r2 fun H Q' e l => h H _ e fun vs G1 H1 e1 ⟨lo, n, h1, h2, Pv, h4, h5, h6⟩ => l _ G1 H1 e1 ⟨lo, n, h1, h2, _, _, _, wk_range, Pv, h4, fun _ _ _ _ _ => trivial, fun i x σ G G' hi p y => ?_, h6⟩)
  obtain ⟨rfl, y⟩ := y
  have : x = .int (lo + (i : Int)) := (Option.some.inj y).symm
  subst this
  exact eg_name (h5 i σ G' (by omega) p)
theorem es_forL {tl : TE} {g : TG} {tb : TS} (h : Ee tl σ G fun v G1 => ∃ a xs, v = .ref a ∧ SqL K G1 a xs ∧ ∃ Pv : Nat → L2.St → Hp → Prop, Pv 0 σ G1 ∧ (∀ i σ G, Pv i σ G → SqL K G a xs) ∧
    (∀ i x σ G, xs[i]? = some x → Pv i σ G → Eg g x σ G fun σ2 G2 => Es tb (Bd D (Pv (i + 1))) σ2 G2) ∧ (∀ σ G, Pv xs.length σ G → D.nx σ G)) : Es (tFor (iList K tl) g tb) D σ G := by
  refine es_for (ei_list fun H Q' e l => h H _ e fun v G1 H1 e1 ⟨a, xs, h1, h2, Pv, h3, h4, h5, h6⟩ => l _ G1 H1 e1 ⟨a, xs, h1, h2, _, _, _, wk_list, Pv, h3, fun i σ G _ p => h4 i σ G p, fun i x σ G G' hi p y => ?_, h6⟩)
  obtain ⟨rfl, y⟩ := y
  exact h5 i x σ G' y p
theorem es_forT {tl : TE} {g : TG} {tb : TS} (h : Ee tl σ G fun v G1 => ∃ a xs, v = .ref a ∧ SqT K G1 a xs ∧ ∃ Pv : Nat → L2.St → Hp → Prop, Pv 0 σ G1 ∧ (∀ i σ G, Pv i σ G → SqT K G a xs) ∧
    (∀ i x σ G, xs[i]? = some x → Pv i σ G → Eg g x σ G fun σ2 G2 => Es tb (Bd D (Pv (i + 1))) σ2 G2) ∧ (∀ σ G, Pv xs.length σ G → D.nx σ G)) : Es (tFor (iTup K tl) g tb) D σ G := by
  refine es_for (ei_tup fun H Q' e l => h H _ e fun v G1 H1 e1 ⟨a, xs, h1, h2, Pv, h3, h4, h5, h6⟩ => l _ G1 H1 e1 ⟨a, xs, h1, h2, _, _, _, wk_tup, Pv, h3, fun i σ G _ p => h4 i σ G p, fun i x σ G G' hi p y => ?_, h6⟩)
  obtain ⟨rfl, y⟩ := y
  exact h5 i x σ G' y p
theorem es_forS {te : TE} {j : Nat} {tb : TS} (h : Ee te σ G fun v G1 => ∃ z, v = .str z ∧ ∃ Pv : Nat → L2.St → Hp → Prop, Pv 0 σ G1 ∧
    (∀ i c σ G, z.cps[i]? = some c → Pv i σ G → Es tb (Bd D (Pv (i + 1))) (σ.set j (some (.str ⟨#[c]⟩))) G) ∧ (∀ σ G, Pv z.cps.size σ G → D.nx σ G)) : Es (tFor (iStr te) (gName j) tb) D σ G := by
  refine es_for (ei_str fun H Q' e l => h H _ e fun v G1 H1 e1 ⟨z, h1, Pv, h3, h5, h6⟩ => l _ G1 H1 e1 ⟨z, h1, _, _, _, wk_str, Pv, h3, fun _ _ _ _ _ => trivial, fun i x σ G G' hi p y => ?_, h6⟩)
  obtain ⟨rfl, y⟩ := y
  obtain ⟨c, hc, rfl⟩ := Option.map_eq_some_iff.mp y
  exact eg_name (h5 i c σ G' hc p)
theorem es_forZ {ta : TA} {g1 g2 : TG} {tb : TS} (h : Ea ta σ G fun vs G1 => ∃ a b xs ys, vs = [.ref a, .ref b] ∧ SqL K G1 a xs ∧ SqL K G1 b ys ∧ ∃ Pv : Nat → L2.St → Hp → Prop, Pv 0 σ G1 ∧ (∀ i σ G, Pv i σ G → SqL K G a xs ∧ SqL K G b ys) ∧
    (∀ i x y σ G T, xs[i]? = some x → ys[i]? = some y → Pv i σ G → G T = none → Egs (gCons g1 (gCons g2 gNil)) [x, y] σ (upd G T (.tup [x, y])) fun σ2 G2 => Es tb (Bd D (Pv (i + 1))) σ2 G2) ∧ (∀ σ G, Pv (min xs.length ys.length) σ G → D.nx σ G)) :
    Es (tFor (iZip K ta) (gTup K 2 (gCons g1 (gCons g2 gNil))) tb) D σ G := by
  refine es_for (ei_zip fun H Q' e l => h H _ e fun vs G1 H1 e1 ⟨a, b, xs, ys, h1, h2, h3, Pv, h4, h5, h6, h7⟩ => l _ G1 H1 e1 ⟨a, b, xs, ys, h1, h2, h3, _, _, _, wk_zip rfl, Pv, h4, fun i σ G _ p => h5 i σ G p, fun i x σ G G' hi p y => ?_, h7⟩)
  obtain ⟨T, x1, y1, rfl, nT, rfl, e1, e2⟩ := y
  exact eg_tup (SqT.of upd_same) rfl (h6 i x1 y1 σ G T e1 e2 p nT)
theorem es_forEn {ta : TA} {g1 g2 : TG} {tb : TS} (h : Ea ta σ G fun vs G1 => ∃ a xs, vs = [.ref a] ∧ SqL K G1 a xs ∧ ∃ Pv : Nat → L2.St → Hp → Prop, Pv 0 σ G1 ∧ (∀ i σ G, Pv i σ G → SqL K G a xs) ∧
    (∀ (i : Nat) x σ G T, xs[i]? = some x → Pv i σ G → G T = none → Egs (gCons g1 (gCons g2 gNil)) [.int (i : Int), x] σ (upd G T (.tup [.int (i : Int), x])) fun σ2 G2 => Es tb (Bd D (Pv (i + 1))) σ2 G2) ∧ (∀ σ G, Pv xs.length σ G → D.nx σ G)) :
    Es (tFor (iEnum K ta) (gTup K 2 (gCons g1 (gCons g2 gNil))) tb) D σ G := by
  refine es_for (ei_enum fun H Q' e l => h H _ e fun vs G1 H1 e1 ⟨a, xs, h1, h2, Pv, h4, h5, h6, h7⟩ => l _ G1 H1 e1 ⟨a, xs, h1, h2, _, _, _, wk_enum, Pv, h4, fun i σ G _ p => h5 i σ G p, fun i x σ G G' hi p y => ?_, h7⟩)
  obtain ⟨T, x1, y1, rfl, nT, rfl, e1, e2⟩ := y
  cases e1
  exact eg_tup (SqT.of upd_same) rfl (h6 i y1 σ G T e2 p nT)
/-! comprehensions -/
theorem ee_lcZ {ta : TA} {g1 g2 : TG} {tt : TT} {te : TE} {vs : List Nat} {Q : V → Hp → Prop}
    (h : Ea ta σ G fun us G1 => ∃ a b xs ys, us = [.ref a, .ref b] ∧ SqL K G1 a xs ∧ SqL K G1 b ys ∧ ∀ p, G1 p = none → ∃ Pv : Nat → List V → Hp → Prop, Pv 0 [] G1 ∧ (∀ i acc G, Pv i acc G → G p = none ∧ acc.length < sizeLine ∧ SqL K G a xs ∧ SqL K G b ys) ∧
      (∀ i acc x y G T, xs[i]? = some x → ys[i]? = some y → Pv i acc G → upd G p (.lst acc) T = none → Egs (gCons g1 (gCons g2 gNil)) [x, y] (wipe σ vs) (upd (upd G p (.lst acc)) T (.tup [x, y])) fun σ2 G2 => wipe σ2 vs = wipe σ vs ∧ Et tt σ2 G2 fun b G3 =>
        if b = true then Ee te σ2 G3 fun y G4 => G4 p = some (.lst acc) ∧ ∃ G5, Ex (upd G5 p (.lst acc)) G4 ∧ Pv (i + 1) (acc ++ [y]) G5 else G3 p = some (.lst acc) ∧ ∃ G5, Ex (upd G5 p (.lst acc)) G3 ∧ Pv (i + 1) acc G5) ∧
      (∀ acc G, Pv (min xs.length ys.length) acc G → Q (.ref p) (upd G p (.lst acc)))) : Ee (tLc (iZip K ta) (gTup K 2 (gCons g1 (gCons g2 gNil))) tt te vs) σ G Q := by
  refine ee_lc (ei_zip fun H Q' e l => h H _ e fun us G1 H1 e1 ⟨a, b, xs, ys, h1, h2, h3, hh⟩ => l _ G1 H1 e1 ⟨a, b, xs, ys, h1, h2, h3, _, (fun G => SqL K G a xs ∧ SqL K G b ys), _, wk_zip (a := a) (b := b) (xs := xs) (ys := ys) rfl, fun G p o hg hn => ⟨(Ex.new hn).sl hg.1, (Ex.new hn).sl hg.2⟩, fun p hp => ?_⟩)
  obtain ⟨Pv, h4, h5, h6, h7⟩ := hh p hp
  refine ⟨Pv, h4, fun i acc G _ p => h5 i acc G p, fun i acc x G G' hi p y => ?_, h7⟩
  obtain ⟨T, x1, y1, rfl, nT, rfl, e1, e2⟩ := y
  exact eg_tup (SqT.of upd_same) rfl (h6 i acc x1 y1 G T e1 e2 p nT)
theorem ee_lcL {tl : TE} {g : TG} {tt : TT} {te : TE} {vs : List Nat} {Q : V → Hp → Prop}
    (h : Ee tl σ G fun v G1 => ∃ a xs, v = .ref a ∧ SqL K G1 a xs ∧ ∀ p, G1 p = none → ∃ Pv : Nat → List V → Hp → Prop, Pv 0 [] G1 ∧ (∀ i acc G, Pv i acc G → G p = none ∧ acc.length < sizeLine ∧ SqL K G a xs) ∧
      (∀ i acc x G, xs[i]? = some x → Pv i acc G → Eg g x (wipe σ vs) (upd G p (.lst acc)) fun σ2 G2 => wipe σ2 vs = wipe σ vs ∧ Et tt σ2 G2 fun b G3 =>
        if b = true then Ee te σ2 G3 fun y G4 => G4 p = some (.lst acc) ∧ ∃ G5, Ex (upd G5 p (.lst acc)) G4 ∧ Pv (i + 1) (acc ++ [y]) G5 else G3 p = some (.lst acc) ∧ ∃ G5, Ex (upd G5 p (.lst acc)) G3 ∧ Pv (i + 1) acc G5) ∧
      (∀ acc G, Pv xs.length acc G → Q (.ref p) (upd G p (.lst acc)))) : Ee (tLc (iList K tl) g tt te vs) σ G Q := by
  refine ee_lc (ei_list fun H Q' e l => h H _ e fun v G1 H1 e1 ⟨a, xs, h1, h2, hh⟩ => l _ G1 H1 e1 ⟨a, xs, h1, h2, _, (fun G => SqL K G a xs), _, wk_list (a := a) (xs := xs), fun G p o hg hn => (Ex.new hn).sl hg, fun p hp => ?_⟩)
  obtain ⟨Pv, h4, h5, h6, h7⟩ := hh p hp
  refine ⟨Pv, h4, fun i acc G _ p => h5 i acc G p, fun i acc x G G' hi p y => ?_, h7⟩
  obtain ⟨rfl, y⟩ := y
  exact h6 i acc x G y p
theorem ee_lcR1 {ta : TA} {j : Nat} {tt : TT} {te : TE} {vs : List Nat} {Q : V → Hp → Prop}
    (h : Ea ta σ G fun us G1 => ∃ n : Int, us = [.int n] ∧ (-(2 ^ 62) ≤ n ∧ n < 2 ^ 62) ∧ ∀ p, G1 p = none → ∃ Pv : Nat → List V → Hp → Prop, Pv 0 [] G1 ∧ (∀ i acc G, Pv i acc G → G p = none ∧ acc.length < sizeLine) ∧
      (∀ (i : Nat) acc G, (i : Int) < n → Pv i acc G → wipe ((wipe σ vs).set j (some (.int (i : Int)))) vs = wipe σ vs ∧ Et tt ((wipe σ vs).set j (some (.int (i : Int)))) (upd G p (.lst acc)) fun b G3 =>
        if b = true then Ee te ((wipe σ vs).set j (some (.int (i : Int)))) G3 fun y G4 => G4 p = some (.lst acc) ∧ ∃ G5, Ex (upd G5 p (.lst acc)) G4 ∧ Pv (i + 1) (acc ++ [y]) G5 else G3 p = some (.lst acc) ∧ ∃ G5, Ex (upd G5 p (.lst acc)) G3 ∧ Pv (i + 1) acc G5) ∧
      (∀ acc G, Pv n.toNat acc G → Q (.ref p) (upd G p (.lst acc)))) : Ee (tLc (iRng1 ta) (gName j) tt te vs) σ G Q := by
  refine ee_lc (ei_r1 fun H Q' e l => h H _ e fun us G1 H1 e1 ⟨n, h1, ⟨h2, h3⟩, hh⟩ => l _ G1 H1 e1 ⟨n, h1, h2, h3, _, _, _, wk_range, fun G p o hg hn => trivial, fun p hp => ?_⟩)
  obtain ⟨Pv, h4, h5, h6, h7⟩ := hh p hp
  refine ⟨Pv, h4, fun i acc G _ p => ⟨(h5 i acc G p).1, (h5 i acc G p).2, trivial⟩, fun i acc x G G' hi p y => ?_, h7⟩
  obtain ⟨rfl, y⟩ := y
  have : x = .int (i : Int) := by rw [← Option.some.inj y, Int.zero_add]
  subst this
  exact eg_name (h6 i acc G (by omega) p)
end
end Lw

namespace Lw
open PySem PySem.Spec PyProof.Rows L2
local macro_rules | `(tactic| k_extra "x1") => `(tactic| first
  | with_reducible refine es_seq ?_
  | with_reducible refine es_asg ?_
  | with_reducible refine es_if ?_
  | with_reducible refine es_ret ?_
  | with_reducible refine es_drop ?_
  | with_reducible refine es_next ?_
  | with_reducible refine es_augS ?_
  | with_reducible refine es_fld ?_
  | ((with_reducible show Ee (tVar _) _ _ _); refine ee_var rfl ?_)
  | with_reducible refine ee_c ?_
  | with_reducible refine ee_op ?_
  | with_reducible refine ee_un ?_
  | with_reducible refine eu_neg ?_
  | with_reducible refine ee_cb ?_
  | with_reducible refine ee_call ?_
  | with_reducible refine ea_nil ?_
  | with_reducible refine ea_cons ?_
  | with_reducible refine ee_sl ?_
  | with_reducible refine eo_no ?_
  | with_reducible refine eo_part ?_
  | with_reducible refine ee_tup ?_
  | with_reducible refine ee_lst ?_
  | with_reducible refine et_test ?_
  | with_reducible refine et_tB ?_
  | with_reducible refine et_tru ?_
  | with_reducible refine et_and ?_
  | with_reducible refine et_or ?_
  | with_reducible refine et_not ?_
  | with_reducible refine ee_and ?_
  | with_reducible refine ee_or ?_
  | with_reducible refine ee_not ?_
  | with_reducible refine ee_if ?_
  | with_reducible refine ee_chain ?_
  | with_reducible refine er_addI ?_
  | with_reducible refine er_subI ?_
  | with_reducible refine er_eqI ?_
  | with_reducible refine er_neI ?_
  | with_reducible refine er_eqS ?_
  | with_reducible refine er_neS ?_
  | with_reducible refine er_eqB ?_
  | with_reducible refine er_neB ?_
  | with_reducible refine er_lt ?_
  | with_reducible refine er_le ?_
  | with_reducible refine er_gt ?_
  | with_reducible refine er_ge ?_
  | with_reducible refine er_isN_non ?_
  | with_reducible refine er_isN_bl ?_
  | with_reducible refine er_isN_int ?_
  | with_reducible refine er_isN_str ?_
  | with_reducible refine er_isN_ref ?_
  | with_reducible refine er_notN_non ?_
  | with_reducible refine er_notN_bl ?_
  | with_reducible refine er_notN_int ?_
  | with_reducible refine er_notN_str ?_
  | with_reducible refine er_notN_ref ?_
  | with_reducible refine er_isN ?_
  | with_reducible refine er_notN ?_
  | with_reducible refine ec_int ?_
  | with_reducible refine ec_max2 ?_
  | with_reducible refine ec_min2 ?_
  | with_reducible refine ip_I ?_
  | ((with_reducible refine eg_name ?_); dsimp only [List.set_cons_zero, List.set_cons_succ])
  | with_reducible refine eg_sub ?_
  | with_reducible refine egs_cons ?_
  | with_reducible refine egs_nil ?_
  | with_reducible refine tru_bl ?_
  | with_reducible refine tru_int ?_
  | with_reducible refine tru_non ?_
  | with_reducible refine iteT ?_
  | with_reducible refine iteF ?_
  | with_reducible refine ite_nt ?_
  | with_reducible refine ite_nf ?_
  | with_reducible refine ⟨_, rfl, ?_⟩)
local macro_rules | `(tactic| k_extra "s") => `(tactic| ((first | k_extra "x1" | ((with_reducible refine es_unf ?_); refine es_seq ?_)); (repeat k_extra "x1")))
local macro_rules | `(tactic| k_extra "x") => `(tactic| (repeat first | k_extra "x1" | ((with_reducible refine es_unf ?_); refine es_seq ?_)))
local macro_rules | `(tactic| k_extra "start") => `(tactic| dsimp only [L2.start, List.map_cons, List.map_nil, List.length_cons, List.length_nil, Nat.reduceAdd, Nat.reduceSub, List.replicate, List.cons_append, List.nil_append, Nat.zero_add])
structure Ad where
  zz : Unit
/-! ### the drawing of numbers from the script: a list of the script, a place, a rest, a seed -/
def StG (l : Addr) (p v r : Int) : HO := .lst [.ref l, .int p, .int v, .int r]
def SOk (n : Nat) (p v r : Int) : Prop := 0 ≤ p ∧ p ≤ n ∧ 0 ≤ v ∧ 0 ≤ r ∧ r < 2147483647
def LimOk (lim : Int) : Prop := 0 < lim ∧ lim.natAbs.log2 < 9000
theorem log2_ok {n : Int} (h : 0 < n) (h2 : n < 1073741824) : LimOk n := ⟨h, by
  have : n.natAbs < 2 ^ 30 := by omega
  have := PySem.Flt.log2_lt_of (k := 30) (by decide) this
  omega⟩
def S__law_next (K : PySem.W.Frag) (A : Ad) : Pm := fun vs G Q _ => ∃ (a l : Addr) (ns : List Int) (p v r : Int) (lim : Int), vs = [.ref a, .int lim] ∧ LimOk lim ∧ G a = some (StG l p v r) ∧ SqL K G l (ns.map V.int) ∧ l ≠ a ∧ ns.length ≤ 1000 ∧ SOk ns.length p v r ∧
  ∀ x p' v' r', 0 ≤ x → x < lim → SOk ns.length p' v' r' → Q (.int x) (upd G a (StG l p' v' r'))
/-! _law_next -/
def t__law_next_1 (K : PySem.W.Frag) (A : Ad) : TS := tSeq (tAugS (tVar 0) (tC (.int 1)) (tC (.int 1)) (rGetL K) (ipI fun i j => i + j) rSetL) (tIfS (tTest (tOp (rGeI) (tVar 2) (tOp (rPowU) (tC (.int 10)) (tC (.int 18))))) (tAsg (tVar 2) (gSub (tVar 0) (tC (.int 2)) rSetL)) (tAsg (tOp (rModU) (tCB (rInt1) (tCons (tOp (rAddU K) (tOp (rAddU K) (tOp (rMulU) (tOp (rIx K) (tVar 0) (tC (.int 3))) (tC (.int 48271))) (tOp (rModU) (tCB (rInt1) (tCons (tVar 2) tNil)) (tC (.int 2147483647)))) (tC (.int 7))) tNil)) (tC (.int 2147483647))) (gSub (tVar 0) (tC (.int 3)) rSetL)))
def t__law_next_2 (K : PySem.W.Frag) (A : Ad) : TS := tSeq (tAsg (tOp (rIx K) (tOp (rIx K) (tVar 0) (tC (.int 0))) (tOp (rIx K) (tVar 0) (tC (.int 1)))) (gName 2)) (t__law_next_1 K A)
def t__law_next_3 (K : PySem.W.Frag) (A : Ad) : TS := tSeq (tAsg (tOp (rDivU) (tOp (rIx K) (tVar 0) (tC (.int 2))) (tVar 1)) (gSub (tVar 0) (tC (.int 2)) rSetL)) (tRet (tVar 3))
def t__law_next_4 (K : PySem.W.Frag) (A : Ad) : TS := tSeq (tAsg (tOp (rModU) (tCB (rInt1) (tCons (tOp (rIx K) (tVar 0) (tC (.int 2))) tNil)) (tVar 1)) (gName 3)) (t__law_next_3 K A)
def t__law_next_5 (K : PySem.W.Frag) (A : Ad) : TS := tSeq (tAsg (tOp (rModU) (tCB (rInt1) (tCons (tOp (rAddU K) (tOp (rMulU) (tOp (rIx K) (tVar 0) (tC (.int 3))) (tC (.int 69621))) (tC (.int 12345))) tNil)) (tC (.int 2147483647))) (gSub (tVar 0) (tC (.int 3)) rSetL)) (tRet (tOp (rModU) (tCB (rInt1) (tCons (tOp (rDivU) (tOp (rIx K) (tVar 0) (tC (.int 3))) (tC (.int 7))) tNil)) (tVar 1)))
def t__law_next_6 (K : PySem.W.Frag) (A : Ad) : TS := tSeq (tIfS (tTest (tOp (rGtI) (tOp (rIx K) (tVar 0) (tC (.int 2))) (tC (.int 0)))) (t__law_next_4 K A) tNext) (t__law_next_5 K A)
def t__law_next (K : PySem.W.Frag) (A : Ad) : TS := tSeq (tIfS (tAnd (tTest (tOp (rEqU K) (tOp (rIx K) (tVar 0) (tC (.int 2))) (tC (.int 0)))) (tTest (tOp (rLtU K) (tOp (rIx K) (tVar 0) (tC (.int 1))) (tCB (rLenU K) (tCons (tOp (rIx K) (tVar 0) (tC (.int 0))) tNil))))) (t__law_next_2 K A) tNext) (t__law_next_6 K A)
theorem len__law_next {K : PySem.W.Frag} {A : Ad} : ∀ vs G Q E, S__law_next K A vs G Q E → vs.length = ["state", "limit"].length := by
  rintro vs G Q E ⟨a, l, ns, p, v, r, lim, rfl, _⟩; rfl
theorem ok__law_next {K : PySem.W.Frag} {A : Ad} : ∀ vs G Q E, S__law_next K A vs G Q E → Es (t__law_next K A) { nx := fun _ G' => Q .non G', rt := Q } (L2.start ["state", "limit", "cell", "value"] vs) G := by
  rintro vs G Q E ⟨a, l, ns, p, v, r, lim, rfl, hlim, ha, hl, hne, hn, hs, k⟩
  change Es _ _ (_ :: _ :: _ :: _ :: []) _
  -- the last part, from any state
  have fin : ∀ (c : Option V) (p v r : Int) (G' : Hp), (∀ o, upd G' a o = upd G a o) → G' a = some (StG l p v r) → SOk ns.length p v r → Es (t__law_next_6 K A) { nx := fun _ G' => Q .non G', rt := Q } [some (.ref a), some (.int lim), c, none] G' := by
    rintro c p v r G' up1 ha' ⟨h1, h2, h3, h4, h5⟩
    k_extra "s"
    refine er_ixL (SqL.of ha') (atI_nat (j := 2) rfl) ?_
    k_extra "x"
    refine ifd (fun hv => ?_) (fun hv => ?_)
    · k_extra "x"
      refine er_ixL (SqL.of ha') (atI_nat (j := 2) rfl) ?_
      k_extra "x"
      refine er_mod hlim.1 ?_
      k_extra "x"
      refine er_ixL (SqL.of ha') (atI_nat (j := 2) rfl) ?_
      k_extra "x"
      refine er_divW hlim ?_
      k_extra "x"
      refine ez_L ha' (j := 2) rfl ?_
      k_extra "x"
      rw [up1]
      exact k (v % lim) p (v / lim) r (Int.emod_nonneg _ (by have := hlim.1; omega)) (Int.emod_lt_of_pos _ hlim.1) ⟨h1, h2, Int.ediv_nonneg h3 (by have := hlim.1; omega), h4, h5⟩
    · k_extra "x"
      refine er_ixL (SqL.of ha') (atI_nat (j := 3) rfl) ?_
      k_extra "x"
      refine er_mulR (by decide) ?_
      k_extra "x"
      refine er_mod (by decide) ?_
      k_extra "x"
      refine ez_L ha' (j := 3) rfl ?_
      k_extra "x"
      refine er_ixL (SqL.of upd_same) (atI_nat (j := 3) rfl) ?_
      k_extra "x"
      refine er_div (by decide) ?_
      k_extra "x"
      refine er_mod hlim.1 ?_
      k_extra "x"
      rw [up1]
      exact k _ p v ((r * 69621 + 12345) % 2147483647) (Int.emod_nonneg _ (by have := hlim.1; omega)) (Int.emod_lt_of_pos _ hlim.1) ⟨h1, h2, h3, by omega, by omega⟩
  obtain ⟨h1, h2, h3, h4, h5⟩ := hs
  k_extra "s"
  refine er_ixL (SqL.of ha) (atI_nat (j := 2) rfl) ?_
  k_extra "s"
  refine ifd (fun hv => ?_) (fun hv => ?_)
  · k_extra "s"
    refine er_ixL (SqL.of ha) (atI_nat (j := 1) rfl) ?_
    k_extra "s"
    refine er_ixL (SqL.of ha) (atI_nat (j := 0) rfl) ?_
    k_extra "s"
    refine ec_lenL hl fun _ => ?_
    k_extra "s"
    refine ifd (fun hp => ?_) (fun hp => ?_)
    · rw [List.length_map] at hp
      k_extra "s"
      refine er_ixL (SqL.of ha) (atI_nat (j := 0) rfl) ?_
      k_extra "s"
      refine er_ixL (SqL.of ha) (atI_nat (j := 1) rfl) ?_
      obtain ⟨j, rfl⟩ := Int.eq_ofNat_of_zero_le h1
      have hj : j < ns.length := by omega
      have hc : (ns.map V.int)[j]? = some (.int ns[j]) := by rw [List.getElem?_map, List.getElem?_eq_getElem hj]; rfl
      refine er_ixL hl (atI_nat hc) ?_
      k_extra "s"
      k_extra "s"
      refine er_getL (SqL.of ha) (by decide) rfl ?_
      k_extra "s"
      refine ez_L ha (j := 1) rfl ?_
      k_extra "s"
      refine er_pow (by decide) ?_
      k_extra "s"
      refine ifd (fun hc => ?_) (fun hc => ?_)
      · k_extra "s"
        refine ez_L upd_same (j := 2) rfl ?_
        rw [upd_upd]
        have : (0 : Int) ≤ ns[j] := Int.le_trans (by decide) hc
        exact fin _ (j + 1) ns[j] r _ (fun o => by rw [upd_upd]) upd_same ⟨by omega, by omega, this, h4, h5⟩
      · k_extra "s"
        refine er_ixL (SqL.of upd_same) (atI_nat (j := 3) rfl) ?_
        k_extra "s"
        refine er_mulR (by decide) ?_
        k_extra "s"
        refine er_mod (by decide) ?_
        k_extra "s"
        refine er_mod (by decide) ?_
        k_extra "s"
        refine ez_L upd_same (j := 3) rfl ?_
        rw [upd_upd]
        exact fin _ (j + 1) v _ _ (fun o => by rw [upd_upd]) upd_same ⟨by omega, by omega, h3, by omega, by omega⟩
    · k_extra "s"
      exact fin _ _ _ _ _ (fun _ => rfl) ha ⟨h1, h2, h3, h4, h5⟩
  · k_extra "s"
    exact fin _ _ _ _ _ (fun _ => rfl) ha ⟨h1, h2, h3, h4, h5⟩
end Lw

namespace Lw
open PySem PySem.Spec PyProof.Rows L2
local macro_rules | `(tactic| k_extra "x1") => `(tactic| first
  | with_reducible refine es_seq ?_
  | with_reducible refine es_asg ?_
  | with_reducible refine es_if ?_
  | with_reducible refine es_ret ?_
  | with_reducible refine es_drop ?_
  | with_reducible refine es_next ?_
  | with_reducible refine es_augS ?_
  | with_reducible refine es_fld ?_
  | ((with_reducible show Ee (tVar _) _ _ _); refine ee_var rfl ?_)
  | with_reducible refine ee_c ?_
  | with_reducible refine ee_op ?_
  | with_reducible refine ee_un ?_
  | with_reducible refine eu_neg ?_
  | with_reducible refine ee_cb ?_
  | with_reducible refine ee_call ?_
  | with_reducible refine ea_nil ?_
  | with_reducible refine ea_cons ?_
  | with_reducible refine ee_sl ?_
  | with_reducible refine eo_no ?_
  | with_reducible refine eo_part ?_
  | with_reducible refine ee_tup ?_
  | with_reducible refine ee_lst ?_
  | with_reducible refine et_test ?_
  | with_reducible refine et_tB ?_
  | with_reducible refine et_tru ?_
  | with_reducible refine et_and ?_
  | with_reducible refine et_or ?_
  | with_reducible refine et_not ?_
  | with_reducible refine ee_and ?_
  | with_reducible refine ee_or ?_
  | with_reducible refine ee_not ?_
  | with_reducible refine ee_if ?_
  | with_reducible refine ee_chain ?_
  | with_reducible refine er_addI ?_
  | with_reducible refine er_subI ?_
  | with_reducible refine er_eqI ?_
  | with_reducible refine er_neI ?_
  | with_reducible refine er_eqS ?_
  | with_reducible refine er_neS ?_
  | with_reducible refine er_eqB ?_
  | with_reducible refine er_neB ?_
  | with_reducible refine er_lt ?_
  | with_reducible refine er_le ?_
  | with_reducible refine er_gt ?_
  | with_reducible refine er_ge ?_
  | with_reducible refine er_isN_non ?_
  | with_reducible refine er_isN_bl ?_
  | with_reducible refine er_isN_int ?_
  | with_reducible refine er_isN_str ?_
  | with_reducible refine er_isN_ref ?_
  | with_reducible refine er_notN_non ?_
  | with_reducible refine er_notN_bl ?_
  | with_reducible refine er_notN_int ?_
  | with_reducible refine er_notN_str ?_
  | with_reducible refine er_notN_ref ?_
  | with_reducible refine er_isN ?_
  | with_reducible refine er_notN ?_
  | with_reducible refine ec_int ?_
  | with_reducible refine ec_max2 ?_
  | with_reducible refine ec_min2 ?_
  | with_reducible refine ip_I ?_
  | ((with_reducible refine eg_name ?_); dsimp only [List.set_cons_zero, List.set_cons_succ])
  | with_reducible refine eg_sub ?_
  | with_reducible refine egs_cons ?_
  | with_reducible refine egs_nil ?_
  | with_reducible refine tru_bl ?_
  | with_reducible refine tru_int ?_
  | with_reducible refine tru_non ?_
  | with_reducible refine iteT ?_
  | with_reducible refine iteF ?_
  | with_reducible refine ite_nt ?_
  | with_reducible refine ite_nf ?_
  | with_reducible refine ⟨_, rfl, ?_⟩)
local macro_rules | `(tactic| k_extra "s") => `(tactic| ((first | k_extra "x1" | ((with_reducible refine es_unf ?_); refine es_seq ?_)); (repeat k_extra "x1")))
local macro_rules | `(tactic| k_extra "x") => `(tactic| (repeat first | k_extra "x1" | ((with_reducible refine es_unf ?_); refine es_seq ?_)))
local macro_rules | `(tactic| k_extra "start") => `(tactic| dsimp only [L2.start, List.map_cons, List.map_nil, List.length_cons, List.length_nil, Nat.reduceAdd, Nat.reduceSub, List.replicate, List.cons_append, List.nil_append, Nat.zero_add])
/-! ### _law_same: of twice the same data it is True -/
def Sn__law_same (K : PySem.W.Frag) (A : Ad) (n : Nat) : Pm := fun vs G Q _ => ∃ a e d, vs = [a, e] ∧ Dp K G a d ∧ Dp K G e d ∧ d.depth < n ∧ Q (.bl true) G
/-! _law_same -/
def t__law_same_1 (K : PySem.W.Frag) (A : Ad) (S : Pm) : TS := tSeq (tFor (iRng1 (tCons (tCB (rLenU K) (tCons (tVar 1) tNil)) tNil)) (gName 2) (tIfS (tNot (tTru K (tCall (up S) [] E0 (tCons (tOp (rIx K) (tVar 0) (tVar 2)) (tCons (tOp (rIx K) (tVar 1) (tVar 2)) tNil))))) (tRet (tC (.bl false))) tNext)) (tRet (tC (.bl true)))
def t__law_same_2 (K : PySem.W.Frag) (A : Ad) (S : Pm) : TS := tSeq (tIfS (tTest (tOp (rNeU K) (tCB (rLenU K) (tCons (tVar 0) tNil)) (tCB (rLenU K) (tCons (tVar 1) tNil)))) (tRet (tC (.bl false))) tNext) (t__law_same_1 K A S)
def t__law_same_3 (K : PySem.W.Frag) (A : Ad) (S : Pm) : TS := tSeq (tIfS (tAnd (tTru K (tCB (rIsiU K) (tCons (tVar 1) (tCons (tC (.ty "list")) tNil)))) (tNot (tTru K (tCB (rIsiU K) (tCons (tVar 0) (tCons (tC (.ty "list")) tNil)))))) (tRet (tC (.bl false))) tNext) (t__law_same_2 K A S)
def t__law_same_4 (K : PySem.W.Frag) (A : Ad) (S : Pm) : TS := tSeq (tIfS (tAnd (tTru K (tCB (rIsiU K) (tCons (tVar 1) (tCons (tC (.ty "tuple")) tNil)))) (tNot (tTru K (tCB (rIsiU K) (tCons (tVar 0) (tCons (tC (.ty "tuple")) tNil)))))) (tRet (tC (.bl false))) tNext) (t__law_same_3 K A S)
def t__law_same_5 (K : PySem.W.Frag) (A : Ad) (S : Pm) : TS := tSeq (tIfS (tTru K (tCB (rIsiU K) (tCons (tVar 1) (tCons (tC (.ty "str")) tNil)))) (tRet (tAndV (tCB (rIsiU K) (tCons (tVar 0) (tCons (tC (.ty "str")) tNil))) (tOp (rEqU K) (tVar 0) (tVar 1)))) tNext) (t__law_same_4 K A S)
def t__law_same_6 (K : PySem.W.Frag) (A : Ad) (S : Pm) : TS := tSeq (tIfS (tTru K (tCB (rIsiU K) (tCons (tVar 1) (tCons (tC (.ty "int")) tNil)))) (tRet (tAndV (tCB (rIsiU K) (tCons (tVar 0) (tCons (tC (.ty "int")) tNil))) (tAndV (tNotV (tCB (rIsiU K) (tCons (tVar 0) (tCons (tC (.ty "bool")) tNil)))) (tOp (rEqU K) (tVar 0) (tVar 1))))) tNext) (t__law_same_5 K A S)
def t__law_same_7 (K : PySem.W.Frag) (A : Ad) (S : Pm) : TS := tSeq (tIfS (tTru K (tCB (rIsiU K) (tCons (tVar 1) (tCons (tC (.ty "bool")) tNil)))) (tRet (tAndV (tCB (rIsiU K) (tCons (tVar 0) (tCons (tC (.ty "bool")) tNil))) (tOp (rEqU K) (tVar 0) (tVar 1)))) tNext) (t__law_same_6 K A S)
def t__law_same (K : PySem.W.Frag) (A : Ad) (S : Pm) : TS := tSeq (tIfS (tTest (tOp (rIsN) (tVar 1) (tC .non))) (tRet (tOp (rIsN) (tVar 0) (tC .non))) tNext) (t__law_same_7 K A S)
theorem len__law_same {K : PySem.W.Frag} {A : Ad} (n : Nat) : ∀ vs G Q E, Sn__law_same K A n vs G Q E → vs.length = ["actual", "expected"].length := by
  rintro vs G Q E ⟨a, e, d, rfl, _⟩; rfl
theorem no__law_same {K : PySem.W.Frag} {A : Ad} : ∀ vs G Q E, ¬ Sn__law_same K A 0 vs G Q E := by
  rintro vs G Q E ⟨a, e, d, _, _, _, h, _⟩; exact absurd h (Nat.not_lt_zero _)
theorem depth_mem {d : PyData} {ds : List PyData} (h : d ∈ ds) : d.depth ≤ PyData.depthAll ds := PyData.depth_le_depthAll ds d h
theorem law_same_tail {K : PySem.W.Frag} {A : Ad} {n : Nat} {G : Hp} {Q : V → Hp → Prop} {D : Ek} (hD : D.rt = Q) {a e : Addr} {xs ys : List V} {ds : List PyData} (h1 : Sq K G a xs) (h2 : Sq K G e ys) (k1 : DpAll K G xs ds) (k2 : DpAll K G ys ds) (hd : PyData.depthAll ds < n) (q : Q (.bl true) G) :
    Es (t__law_same_2 K A (Sn__law_same K A n)) D [some (.ref a), some (.ref e), none] G := by
  have e1 := dps_len k1
  have e2 := dps_len k2
  k_extra "s"
  refine ec_lenU h1 fun _ => ?_
  k_extra "s"
  refine ec_lenU h2 fun _ => ?_
  k_extra "s"
  refine ifnd (fun h => absurd (by rw [e1, e2]) h) fun _ => ?_
  k_extra "s"
  k_extra "s"
  refine es_forR1 ?_
  k_extra "s"
  refine ec_lenU h2 fun hz => ?_
  k_extra "s"
  refine ⟨line62 hz, fun i σ G' => G' = G ∧ ∃ c, σ = [some (.ref a), some (.ref e), c], ⟨rfl, _, rfl⟩, ?_, ?_⟩
  · rintro i σ G' hi ⟨rfl, c, rfl⟩
    obtain ⟨d, hd'⟩ : ∃ d, ds[i]? = some d := ⟨ds[i]'(by omega), List.getElem?_eq_getElem _⟩
    obtain ⟨x, hx, kx⟩ := dps_get k1 hd'
    obtain ⟨y, hy, ky⟩ := dps_get k2 hd'
    have hm := List.mem_of_getElem? hd'
    k_extra "s"
    refine er_ixU h1 (atI_nat hx) ?_
    k_extra "s"
    refine er_ixU h2 (atI_nat hy) ?_
    k_extra "s"
    refine ⟨x, y, d, rfl, kx, ky, Nat.lt_of_le_of_lt (depth_mem hm) hd, true, rfl, ?_⟩
    k_extra "s"
    exact ⟨rfl, _, rfl⟩
  · rintro σ G' ⟨rfl, c, rfl⟩
    k_extra "s"
    rw [hD]
    exact q
theorem ok__law_same {K : PySem.W.Frag} {A : Ad} (n : Nat) : ∀ vs G Q E, Sn__law_same K A (n + 1) vs G Q E → Es (t__law_same K A (Sn__law_same K A n)) { nx := fun _ G' => Q .non G', rt := Q } (L2.start ["actual", "expected", "k"] vs) G := by
  rintro vs G Q E ⟨a, e, d, rfl, ha, he, hd, q⟩
  change Es _ _ (_ :: _ :: _ :: []) _
  cases he with
  | non =>
    cases ha
    k_extra "s"
    exact q
  | bl b =>
    cases ha
    k_extra "s"
    k_extra "s"
    refine ec_isi (.base (.bl b)) (r := true) (by decide +kernel) ?_
    k_extra "s"
    refine ec_isi (.base (.bl b)) (r := true) (by decide +kernel) ?_
    k_extra "s"
    rw [decide_eq_true rfl]
    exact q
  | int i =>
    cases ha
    k_extra "s"
    k_extra "s"
    refine ec_isi (.base (.int i)) (r := false) (by decide +kernel) ?_
    k_extra "s"
    k_extra "s"
    refine ec_isi (.base (.int i)) (r := true) (by decide +kernel) ?_
    k_extra "s"
    refine ec_isi (.base (.int i)) (r := true) (by decide +kernel) ?_
    k_extra "s"
    refine ec_isi (.base (.int i)) (r := false) (by decide +kernel) ?_
    k_extra "s"
    rw [decide_eq_true rfl]
    exact q
  | str x =>
    cases ha
    k_extra "s"
    k_extra "s"
    refine ec_isi (.base (.str x)) (r := false) (by decide +kernel) ?_
    k_extra "s"
    k_extra "s"
    refine ec_isi (.base (.str x)) (r := false) (by decide +kernel) ?_
    k_extra "s"
    k_extra "s"
    refine ec_isi (.base (.str x)) (r := true) (by decide +kernel) ?_
    k_extra "s"
    refine ec_isi (.base (.str x)) (r := true) (by decide +kernel) ?_
    k_extra "s"
    rw [decide_eq_true rfl]
    exact q
  | lst h2 k2 =>
    obtain ⟨a, xs, rfl, h1, k1⟩ := dp_list ha
    k_extra "s"
    k_extra "s"
    refine ec_isi (tyx_l h2) (r := false) (by decide +kernel) ?_
    k_extra "s"
    k_extra "s"
    refine ec_isi (tyx_l h2) (r := false) (by decide +kernel) ?_
    k_extra "s"
    k_extra "s"
    refine ec_isi (tyx_l h2) (r := false) (by decide +kernel) ?_
    k_extra "s"
    k_extra "s"
    refine ec_isi (tyx_l h2) (r := false) (by decide +kernel) ?_
    k_extra "s"
    k_extra "s"
    refine ec_isi (tyx_l h2) (r := true) (by decide +kernel) ?_
    k_extra "s"
    refine ec_isi (tyx_l h1) (r := true) (by decide +kernel) ?_
    k_extra "s"
    simp only [PyData.depth] at hd
    exact law_same_tail rfl (.inl h1) (.inl h2) k1 k2 (by omega) q
  | tup h2 k2 =>
    obtain ⟨a, xs, rfl, h1, k1⟩ := dp_tup ha
    k_extra "s"
    k_extra "s"
    refine ec_isi (tyx_t h2) (r := false) (by decide +kernel) ?_
    k_extra "s"
    k_extra "s"
    refine ec_isi (tyx_t h2) (r := false) (by decide +kernel) ?_
    k_extra "s"
    k_extra "s"
    refine ec_isi (tyx_t h2) (r := false) (by decide +kernel) ?_
    k_extra "s"
    k_extra "s"
    refine ec_isi (tyx_t h2) (r := true) (by decide +kernel) ?_
    k_extra "s"
    refine ec_isi (tyx_t h1) (r := true) (by decide +kernel) ?_
    k_extra "s"
    k_extra "s"
    refine ec_isi (tyx_t h2) (r := false) (by decide +kernel) ?_
    k_extra "s"
    simp only [PyData.depth] at hd
    exact law_same_tail rfl (.inr h1) (.inr h2) k1 k2 (by omega) q
end Lw

namespace Lw
open PySem PySem.Spec PyProof.Rows L2
local macro_rules | `(tactic| k_extra "x1") => `(tactic| first
  | with_reducible refine es_seq ?_
  | with_reducible refine es_asg ?_
  | with_reducible refine es_if ?_
  | with_reducible refine es_ret ?_
  | with_reducible refine es_drop ?_
  | with_reducible refine es_next ?_
  | with_reducible refine es_augS ?_
  | with_reducible refine es_fld ?_
  | ((with_reducible show Ee (tVar _) _ _ _); refine ee_var rfl ?_)
  | with_reducible refine ee_c ?_
  | with_reducible refine ee_op ?_
  | with_reducible refine ee_un ?_
  | with_reducible refine eu_neg ?_
  | with_reducible refine ee_cb ?_
  | with_reducible refine ee_call ?_
  | with_reducible refine ea_nil ?_
  | with_reducible refine ea_cons ?_
  | with_reducible refine ee_sl ?_
  | with_reducible refine eo_no ?_
  | with_reducible refine eo_part ?_
  | with_reducible refine ee_tup ?_
  | with_reducible refine ee_lst ?_
  | with_reducible refine et_test ?_
  | with_reducible refine et_tB ?_
  | with_reducible refine et_tru ?_
  | with_reducible refine et_and ?_
  | with_reducible refine et_or ?_
  | with_reducible refine et_not ?_
  | with_reducible refine ee_and ?_
  | with_reducible refine ee_or ?_
  | with_reducible refine ee_not ?_
  | with_reducible refine ee_if ?_
  | with_reducible refine ee_chain ?_
  | with_reducible refine er_addI ?_
  | with_reducible refine er_subI ?_
  | with_reducible refine er_eqI ?_
  | with_reducible refine er_neI ?_
  | with_reducible refine er_eqS ?_
  | with_reducible refine er_neS ?_
  | with_reducible refine er_eqB ?_
  | with_reducible refine er_neB ?_
  | with_reducible refine er_lt ?_
  | with_reducible refine er_le ?_
  | with_reducible refine er_gt ?_
  | with_reducible refine er_ge ?_
  | with_reducible refine er_isN_non ?_
  | with_reducible refine er_isN_bl ?_
  | with_reducible refine er_isN_int ?_
  | with_reducible refine er_isN_str ?_
  | with_reducible refine er_isN_ref ?_
  | with_reducible refine er_notN_non ?_
  | with_reducible refine er_notN_bl ?_
  | with_reducible refine er_notN_int ?_
  | with_reducible refine er_notN_str ?_
  | with_reducible refine er_notN_ref ?_
  | with_reducible refine er_isN ?_
  | with_reducible refine er_notN ?_
  | with_reducible refine ec_int ?_
  | with_reducible refine ec_max2 ?_
  | with_reducible refine ec_min2 ?_
  | with_reducible refine ip_I ?_
  | ((with_reducible refine eg_name ?_); dsimp only [List.set_cons_zero, List.set_cons_succ])
  | with_reducible refine eg_sub ?_
  | with_reducible refine egs_cons ?_
  | with_reducible refine egs_nil ?_
  | with_reducible refine tru_bl ?_
  | with_reducible refine tru_int ?_
  | with_reducible refine tru_non ?_
  | with_reducible refine iteT ?_
  | with_reducible refine iteF ?_
  | with_reducible refine ite_nt ?_
  | with_reducible refine ite_nf ?_
  | with_reducible refine ⟨_, rfl, ?_⟩)
local macro_rules | `(tactic| k_extra "s") => `(tactic| ((first | k_extra "x1" | ((with_reducible refine es_unf ?_); refine es_seq ?_)); (repeat k_extra "x1")))
local macro_rules | `(tactic| k_extra "x") => `(tactic| (repeat first | k_extra "x1" | ((with_reducible refine es_unf ?_); refine es_seq ?_)))
local macro_rules | `(tactic| k_extra "start") => `(tactic| dsimp only [L2.start, List.map_cons, List.map_nil, List.length_cons, List.length_nil, Nat.reduceAdd, Nat.reduceSub, List.replicate, List.cons_append, List.nil_append, Nat.zero_add])
theorem l_upd {G : Hp} {a : Addr} {o : HO} (h : G a = none) : Ex G (upd G a o) := Ex.new h
/-- the drawing object stands at a -/
structure StP (K : PySem.W.Frag) (G : Hp) (a l : Addr) (ns : List Int) (p v r : Int) : Prop where
  at_ : G a = some (StG l p v r)
  li : G l = some (.lst (ns.map V.int))
  ne : l ≠ a
  sm : ns.length ≤ 1000
  ok : SOk ns.length p v r
theorem StP.put {K : PySem.W.Frag} {G : Hp} {a l : Addr} {ns : List Int} {p v r p' v' r' : Int} (h : StP K G a l ns p v r) (s : SOk ns.length p' v' r') : StP K (upd G a (StG l p' v' r')) a l ns p' v' r' :=
  ⟨upd_same, get_ne h.li h.ne, h.ne, h.sm, s⟩
theorem StP.new {K : PySem.W.Frag} {G : Hp} {a l q : Addr} {o : HO} {ns : List Int} {p v r : Int} (h : StP K G a l ns p v r) (n : G q = none) : StP K (upd G q o) a l ns p v r :=
  ⟨get_new h.at_ n, get_new h.li n, h.ne, h.sm, h.ok⟩
theorem StP.mut {K : PySem.W.Frag} {G : Hp} {a l q : Addr} {o : HO} {ns : List Int} {p v r : Int} (h : StP K G a l ns p v r) (n : a ≠ q) (m : l ≠ q) : StP K (upd G q o) a l ns p v r :=
  ⟨get_ne h.at_ n, get_ne h.li m, h.ne, h.sm, h.ok⟩
theorem nx_call {K : PySem.W.Frag} {A : Ad} {G : Hp} {a l : Addr} {ns : List Int} {p v r lim : Int} {Q : V → Hp → Prop} {E : XK} (h : StP K G a l ns p v r) (hl : LimOk lim)
    (q : ∀ x p' v' r', 0 ≤ x → x < lim → SOk ns.length p' v' r' → Q (.int x) (upd G a (StG l p' v' r'))) : S__law_next K A [.ref a, .int lim] G Q E :=
  ⟨a, l, ns, p, v, r, lim, rfl, hl, h.at_, SqL.of h.li, h.ne, h.sm, h.ok, q⟩
/-! ### _law_char -/
def S__law_char (K : PySem.W.Frag) (A : Ad) : Pm := fun vs G Q _ => ∃ i : Int, vs = [.int i] ∧ 0 ≤ i ∧ i < 94 ∧ ∀ c, c ≠ 10 → (1 ≤ i → c ≠ 32) → Q (.str ⟨#[c]⟩) G
/-! _law_char -/
def t__law_char_1 (K : PySem.W.Frag) (A : Ad) : TS := tSeq (tAsg (tOp (rAddU K) (tVar 1) (tC (.str "abcdefghijklmnopqrstuvwxyz{|}~\n"))) (gName 1)) (tRet (tOp (rIx K) (tVar 1) (tOp (rModU) (tCB (rInt1) (tCons (tVar 0) tNil)) (tC (.int 95)))))
def t__law_char (K : PySem.W.Frag) (A : Ad) : TS := tSeq (tAsg (tC (.str " '!\"#$&()*+,-./0123456789:;<=>?@ABCDEFGHIJKLMNOPQRSTUVWXYZ[\\]^_`")) (gName 1)) (t__law_char_1 K A)
theorem len__law_char {K : PySem.W.Frag} {A : Ad} : ∀ vs G Q E, S__law_char K A vs G Q E → vs.length = ["index"].length := by
  rintro vs G Q E ⟨i, rfl, _⟩; rfl
def tabC : Str := Str.ofString " '!\"#$&()*+,-./0123456789:;<=>?@ABCDEFGHIJKLMNOPQRSTUVWXYZ[\\]^_`" ++ Str.ofString "abcdefghijklmnopqrstuvwxyz{|}~\n"
theorem tabC_at : ∀ j : Fin 94, (match tabC.cps.toList[j.val]? with | some c => decide (c ≠ 10) && (decide (j.val = 0) || decide (c ≠ 32)) | none => false) = true := by decide +kernel
theorem tabC_len : tabC.length = 95 := by decide +kernel
theorem ok__law_char {K : PySem.W.Frag} {A : Ad} : ∀ vs G Q E, S__law_char K A vs G Q E → Es (t__law_char K A) { nx := fun _ G' => Q .non G', rt := Q } (L2.start ["index", "chars"] vs) G := by
  rintro vs G Q E ⟨i, rfl, h0, h1, q⟩
  change Es _ _ (_ :: _ :: []) _
  k_extra "s"
  k_extra "s"
  refine er_addS (by decide +kernel) ?_
  k_extra "s"
  refine er_mod (by decide) ?_
  obtain ⟨j, rfl⟩ := Int.eq_ofNat_of_zero_le h0
  have hj : j < 94 := by omega
  have t := tabC_at ⟨j, hj⟩
  have e : ((j : Int) % 95) = (j : Int) := Int.emod_eq_of_lt h0 (by omega)
  rw [e]
  cases hc : tabC.cps.toList[j]? with
  | none => simp [hc] at t
  | some c =>
    simp only [hc, Bool.and_eq_true, decide_eq_true_eq, Bool.or_eq_true] at t
    refine er_ixS (z := tabC) (by rw [tabC_len]; decide) (atI_nat hc) ?_
    exact q c t.1 (fun h => t.2.resolve_left (by omega))
/-! ### _law_line -/
def S__law_line (K : PySem.W.Frag) (A : Ad) : Pm := fun vs G Q _ => ∃ (a l : Addr) (ns : List Int) (p v r : Int), vs = [.ref a] ∧ StP K G a l ns p v r ∧
  ∀ z p' v' r', z.length ≤ 90 → (∀ c ∈ TL.tl z, c ≠ 10) → SOk ns.length p' v' r' → Q (.str z) (upd G a (StG l p' v' r'))
/-! _law_line -/
def t__law_line_1 (K : PySem.W.Frag) (A : Ad) : TS := tSeq (tFor (iRng1 (tCons (tCall (up (S__law_next K A)) [] E0 (tCons (tVar 0) (tCons (tOp (rIx K) (tLst (tCons (tC (.int 9)) (tCons (tC (.int 9)) (tCons (tC (.int 9)) (tCons (tC (.int 90)) tNil))))) (tCall (up (S__law_next K A)) [] E0 (tCons (tVar 0) (tCons (tC (.int 4)) tNil)))) tNil))) tNil)) (gName 2) (tAsg (tOp (rAddU K) (tVar 1) (tCall (up (S__law_char K A)) [] E0 (tCons (tCall (up (S__law_next K A)) [] E0 (tCons (tVar 0) (tCons (tC (.int 94)) tNil))) tNil))) (gName 1))) (tRet (tVar 1))
def t__law_line (K : PySem.W.Frag) (A : Ad) : TS := tSeq (tAsg (tC (.str "")) (gName 1)) (t__law_line_1 K A)
theorem len__law_line {K : PySem.W.Frag} {A : Ad} : ∀ vs G Q E, S__law_line K A vs G Q E → vs.length = ["state"].length := by
  rintro vs G Q E ⟨a, l, ns, p, v, r, rfl, _⟩; rfl
theorem tl_one (c : Nat) : TL.tl ⟨#[c]⟩ = [c] := rfl
theorem len_app (x y : Str) : (x ++ y).length = x.length + y.length := by rw [TL.len_tl, TL.tl_append, List.length_append, ← TL.len_tl, ← TL.len_tl]
theorem menu {α : Type} (l : List α) (x : Int) (h0 : 0 ≤ x) (h1 : x < l.length) : ∃ v, atI l x = some v ∧ v ∈ l := by
  obtain ⟨j, rfl⟩ := Int.eq_ofNat_of_zero_le h0
  have hj : j < l.length := by omega
  exact ⟨l[j], atI_nat (List.getElem?_eq_getElem hj), List.getElem_mem hj⟩
theorem ok__law_line {K : PySem.W.Frag} {A : Ad} : ∀ vs G Q E, S__law_line K A vs G Q E → Es (t__law_line K A) { nx := fun _ G' => Q .non G', rt := Q } (L2.start ["state", "line", "k"] vs) G := by
  rintro vs G Q E ⟨a, l, ns, p, v, r, rfl, h, q⟩
  change Es _ _ (_ :: _ :: _ :: []) _
  k_extra "s"
  k_extra "s"
  refine es_forR1 ?_
  k_extra "s"
  refine ⟨sz1000 (by decide), fun m hm => ?_⟩
  k_extra "s"
  refine nx_call (h.new hm) (log2_ok (by decide) (by decide)) fun x p1 v1 r1 hx0 hx1 s1 => ?_
  have nam : m ≠ a := new_ne h.at_ hm
  obtain ⟨w, hw, hm2⟩ := menu [V.int 9, V.int 9, V.int 9, V.int 90] x hx0 (by simpa using hx1)
  have hw2 : w = .int 9 ∨ w = .int 90 := by simpa using hm2
  refine er_ixL (SqL.of (get_ne upd_same nam)) hw ?_
  have ex : Ex (upd G a (StG l p1 v1 r1)) (upd (upd G m (.lst [V.int 9, V.int 9, V.int 9, V.int 90])) a (StG l p1 v1 r1)) := (Ex.new hm).put
  have hP := h.put s1
  obtain ⟨n, rfl, hn⟩ : ∃ n, w = .int n ∧ (n = 9 ∨ n = 90) := by rcases hw2 with rfl | rfl; exact ⟨_, rfl, .inl rfl⟩; exact ⟨_, rfl, .inr rfl⟩
  refine Ea.weak ex ?_
  k_extra "s"
  refine nx_call hP (log2_ok (by omega) (by omega)) fun x2 p2 v2 r2 hx20 hx21 s2 => ?_
  rw [upd_upd]
  k_extra "s"
  refine ⟨by omega, fun i σ G' => ∃ z p v r c, σ = [some (.ref a), some (.str z), c] ∧ G' = upd G a (StG l p v r) ∧ SOk ns.length p v r ∧ z.length ≤ i ∧ ∀ c ∈ TL.tl z, c ≠ 10,
    ⟨_, p2, v2, r2, _, rfl, rfl, s2, Nat.le_refl _, fun c hc => by cases hc⟩, ?_, ?_⟩
  · rintro i σ G' hi ⟨z, p, v, r, c, rfl, rfl, s, hz, hc⟩
    k_extra "s"
    refine nx_call (h.put s) (log2_ok (by decide) (by decide)) fun x3 p3 v3 r3 hx30 hx31 s3 => ?_
    rw [upd_upd]
    k_extra "s"
    refine ⟨x3, rfl, hx30, hx31, fun c' hc' _ => ?_⟩
    refine er_addS (by show z.length + 1 ≤ _; exact sz1000 (by omega)) ?_
    k_extra "s"
    refine ⟨_, _, _, _, _, rfl, rfl, s3, ?_, ?_⟩
    · rw [len_app]; show z.length + 1 ≤ i + 1; omega
    · intro y hy
      rw [TL.tl_append, tl_one] at hy
      rcases List.mem_append.mp hy with hy | hy
      · exact hc y hy
      · rw [List.mem_singleton] at hy; rw [hy]; exact hc'
  · rintro σ G' ⟨z, p, v, r, c, rfl, rfl, s, hz, hc⟩
    k_extra "s"
    exact q z p v r (by omega) hc s
end Lw

namespace Lw
open PySem PySem.Spec PyProof.Rows L2
local macro_rules | `(tactic| k_extra "x1") => `(tactic| first
  | with_reducible refine es_seq ?_
  | with_reducible refine es_asg ?_
  | with_reducible refine es_if ?_
  | with_reducible refine es_ret ?_
  | with_reducible refine es_drop ?_
  | with_reducible refine es_next ?_
  | with_reducible refine es_augS ?_
  | with_reducible refine es_fld ?_
  | ((with_reducible show Ee (tVar _) _ _ _); refine ee_var rfl ?_)
  | with_reducible refine ee_c ?_
  | with_reducible refine ee_op ?_
  | with_reducible refine ee_un ?_
  | with_reducible refine eu_neg ?_
  | with_reducible refine ee_cb ?_
  | with_reducible refine ee_call ?_
  | with_reducible refine ea_nil ?_
  | with_reducible refine ea_cons ?_
  | with_reducible refine ee_sl ?_
  | with_reducible refine eo_no ?_
  | with_reducible refine eo_part ?_
  | with_reducible refine ee_tup ?_
  | with_reducible refine ee_lst ?_
  | with_reducible refine et_test ?_
  | with_reducible refine et_tB ?_
  | with_reducible refine et_tru ?_
  | with_reducible refine et_and ?_
  | with_reducible refine et_or ?_
  | with_reducible refine et_not ?_
  | with_reducible refine ee_and ?_
  | with_reducible refine ee_or ?_
  | with_reducible refine ee_not ?_
  | with_reducible refine ee_if ?_
  | with_reducible refine ee_chain ?_
  | with_reducible refine er_addI ?_
  | with_reducible refine er_subI ?_
  | with_reducible refine er_eqI ?_
  | with_reducible refine er_neI ?_
  | with_reducible refine er_eqS ?_
  | with_reducible refine er_neS ?_
  | with_reducible refine er_eqB ?_
  | with_reducible refine er_neB ?_
  | with_reducible refine er_lt ?_
  | with_reducible refine er_le ?_
  | with_reducible refine er_gt ?_
  | with_reducible refine er_ge ?_
  | with_reducible refine er_isN_non ?_
  | with_reducible refine er_isN_bl ?_
  | with_reducible refine er_isN_int ?_
  | with_reducible refine er_isN_str ?_
  | with_reducible refine er_isN_ref ?_
  | with_reducible refine er_notN_non ?_
  | with_reducible refine er_notN_bl ?_
  | with_reducible refine er_notN_int ?_
  | with_reducible refine er_notN_str ?_
  | with_reducible refine er_notN_ref ?_
  | with_reducible refine er_isN ?_
  | with_reducible refine er_notN ?_
  | with_reducible refine ec_int ?_
  | with_reducible refine ec_max2 ?_
  | with_reducible refine ec_min2 ?_
  | with_reducible refine ip_I ?_
  | ((with_reducible refine eg_name ?_); dsimp only [List.set_cons_zero, List.set_cons_succ])
  | with_reducible refine eg_sub ?_
  | with_reducible refine egs_cons ?_
  | with_reducible refine egs_nil ?_
  | with_reducible refine tru_bl ?_
  | with_reducible refine tru_int ?_
  | with_reducible refine tru_non ?_
  | with_reducible refine iteT ?_
  | with_reducible refine iteF ?_
  | with_reducible refine ite_nt ?_
  | with_reducible refine ite_nf ?_
  | with_reducible refine ⟨_, rfl, ?_⟩)
local macro_rules | `(tactic| k_extra "s") => `(tactic| ((first | k_extra "x1" | ((with_reducible refine es_unf ?_); refine es_seq ?_)); (repeat k_extra "x1")))
local macro_rules | `(tactic| k_extra "x") => `(tactic| (repeat first | k_extra "x1" | ((with_reducible refine es_unf ?_); refine es_seq ?_)))
local macro_rules | `(tactic| k_extra "start") => `(tactic| dsimp only [L2.start, List.map_cons, List.map_nil, List.length_cons, List.length_nil, Nat.reduceAdd, Nat.reduceSub, List.replicate, List.cons_append, List.nil_append, Nat.zero_add])
/-! ### the mathematics of chunks, over lists of codes -/
def bol (b : Bool) : List Nat → Bool
  | [] => b
  | c :: r => bol (c == 10) r
def starts (pos : Nat) (b : Bool) : List Nat → List Nat
  | [] => []
  | c :: r => (if b = true ∧ c ≠ 32 ∧ c ≠ 10 then [pos] else []) ++ starts (pos + 1) (c == 10) r
theorem bol_app (b : Bool) : ∀ (l m : List Nat), bol b (l ++ m) = bol (bol b l) m
  | [], _ => rfl
  | c :: r, m => bol_app (c == 10) r m
theorem starts_app : ∀ (l m : List Nat) (pos : Nat) (b : Bool), starts pos b (l ++ m) = starts pos b l ++ starts (pos + l.length) (bol b l) m
  | [], _, _, _ => rfl
  | c :: r, m, pos, b => by
    show _ ++ starts (pos + 1) (c == 10) (r ++ m) = (_ ++ starts (pos + 1) (c == 10) r) ++ _
    rw [starts_app r m, List.append_assoc, List.length_cons, show pos + 1 + r.length = pos + (r.length + 1) by omega]
    rfl
theorem bol_snoc (b : Bool) (l : List Nat) (c : Nat) : bol b (l ++ [c]) = (c == 10) := by rw [bol_app]; rfl
/-- a line without a newline -/
theorem starts_line : ∀ (l : List Nat) (pos : Nat), (∀ c ∈ l, c ≠ 10) → starts pos false l = []
  | [], _, _ => rfl
  | c :: r, pos, h => by
    have hc : (c == 10) = false := by simpa using h c List.mem_cons_self
    show (if false = true ∧ _ then _ else _) ++ starts (pos + 1) (c == 10) r = []
    rw [if_neg (by simp), hc]
    exact starts_line r (pos + 1) fun c hc => h c (List.mem_cons_of_mem _ hc)
theorem bol_line : ∀ (l : List Nat), (∀ c ∈ l, c ≠ 10) → bol false l = false
  | [], _ => rfl
  | c :: r, h => by
    have hc : (c == 10) = false := by simpa using h c List.mem_cons_self
    show bol (c == 10) r = false
    rw [hc]
    exact bol_line r fun c hc => h c (List.mem_cons_of_mem _ hc)
theorem starts_bound : ∀ (l : List Nat) (pos : Nat) (b : Bool), ∀ s ∈ starts pos b l, pos ≤ s ∧ s < pos + l.length
  | [], _, _, s, h => by cases h
  | c :: r, pos, b, s, h => by
    rcases List.mem_append.mp h with h | h
    · split at h
      · rw [List.mem_singleton] at h; subst h; simp
      · cases h
    · have := starts_bound r (pos + 1) _ s h
      simp; omega
/-- what the program's loop tests at a place -/
def isStart (l : List Nat) (i : Nat) : Bool := decide (l[i]? ≠ some 32 ∧ l[i]? ≠ some 10 ∧ (i = 0 ∨ l[i - 1]? = some 10))
def startsTo (l : List Nat) (i : Nat) : List Nat := (List.range i).filter (isStart l)
theorem bol_last : ∀ (l : List Nat) (b : Bool), bol b l = if l = [] then b else decide (l[l.length - 1]? = some 10)
  | [], b => by rw [if_pos rfl]; rfl
  | [c], b => by
    rw [if_neg (by simp)]
    show (c == 10) = _
    by_cases h : c = 10 <;> simp [h]
  | c :: d :: r, b => by
    rw [if_neg (by simp)]
    show bol (c == 10) (d :: r) = _
    rw [bol_last (d :: r), if_neg (by simp)]
    simp
theorem isStart_app {l m : List Nat} {i : Nat} (h : i < l.length) : isStart (l ++ m) i = isStart l i := by
  unfold isStart
  rw [List.getElem?_append_left h, List.getElem?_append_left (by omega)]
theorem startsTo_app {l m : List Nat} {i : Nat} (h : i ≤ l.length) : startsTo (l ++ m) i = startsTo l i := by
  unfold startsTo
  refine List.filter_congr fun x hx => isStart_app ?_
  have := List.mem_range.mp hx
  omega
theorem startsTo_eq (l : List Nat) : startsTo l l.length = starts 0 true l := by
  suffices h : ∀ n, ∀ l : List Nat, l.length = n → startsTo l n = starts 0 true l from h _ l rfl
  intro n
  induction n with
  | zero => intro l h; rw [List.length_eq_zero_iff.mp h]; rfl
  | succ n ih =>
    intro l h
    obtain ⟨m, c, rfl⟩ : ∃ m c, l = m ++ [c] := ⟨l.dropLast, l.getLast (by rintro rfl; simp at h), (List.dropLast_concat_getLast _).symm⟩
    have hm : m.length = n := by simpa using h
    rw [starts_app, ← ih m hm, ← startsTo_app (m := [c]) (show n ≤ m.length by omega)]
    unfold startsTo
    rw [List.range_succ, List.filter_append]
    congr 1
    show _ = (if bol true m = true ∧ c ≠ 32 ∧ c ≠ 10 then [0 + m.length] else []) ++ []
    rw [List.filter_cons, List.filter_nil, List.append_nil, Nat.zero_add, hm]
    have e1 : (m ++ [c])[n]? = some c := by rw [List.getElem?_append_right (by omega), hm, Nat.sub_self]; rfl
    have e2 : (n = 0 ∨ (m ++ [c])[n - 1]? = some 10) ↔ bol true m = true := by
      rw [bol_last]
      by_cases h0 : n = 0
      · have : m = [] := List.length_eq_zero_iff.mp (by omega)
        simp [h0, this]
      · have : m ≠ [] := by rintro rfl; simp at hm; omega
        rw [List.getElem?_append_left (by omega), if_neg this, hm, decide_eq_true_eq]
        exact ⟨fun z => z.resolve_left h0, .inr⟩
    have e3 : (isStart (m ++ [c]) n = true) ↔ (bol true m = true ∧ c ≠ 32 ∧ c ≠ 10) := by
      unfold isStart
      rw [decide_eq_true_eq, e1, e2]
      simp only [ne_eq, Option.some.injEq]
      exact ⟨fun ⟨a, b, c⟩ => ⟨c, a, b⟩, fun ⟨a, b, c⟩ => ⟨b, c, a⟩⟩
    by_cases h : isStart (m ++ [c]) n = true
    · rw [if_pos h, if_pos (e3.mp h)]
    · rw [if_neg h, if_neg (fun z => h (e3.mpr z))]
def sl (l : List Nat) (a b : Nat) : List Nat := (l.drop a).take (b - a)
def chunksM (l : List Nat) : List (Nat × List Nat) :=
  let s := starts 0 true l
  List.zipWith (fun a b => (a, sl l a b)) s (s.tail ++ [l.length])
theorem sl_app {l m : List Nat} {a b : Nat} (hab : a ≤ b) (h : b ≤ l.length) : sl (l ++ m) a b = sl l a b := by
  unfold sl
  rw [List.drop_append_of_le_length (by omega), List.take_append_of_le_length (by rw [List.length_drop]; omega)]
theorem zip_ends (l m : List Nat) : ∀ (s : List Nat), (∀ x ∈ s, x ≤ l.length) → (s.Pairwise (· ≤ ·)) →
    List.zipWith (fun a b => (a, sl (l ++ m) a b)) (s ++ [l.length]) ((s ++ [l.length]).tail ++ [(l ++ m).length]) = List.zipWith (fun a b => (a, sl l a b)) s (s.tail ++ [l.length]) ++ [(l.length, m)]
  | [], _, _ => by
    show [(l.length, sl (l ++ m) l.length (l ++ m).length)] = [(l.length, m)]
    unfold sl
    rw [List.drop_left, List.length_append, Nat.add_sub_cancel_left, List.take_length]
  | [x], h, _ => by
    have hx := h x (List.mem_singleton.mpr rfl)
    have ih := zip_ends l m [] (fun _ z => by cases z) List.Pairwise.nil
    show (x, sl (l ++ m) x l.length) :: _ = (x, sl l x l.length) :: _
    rw [sl_app hx (Nat.le_refl _)]
    exact congrArg _ ih
  | x :: y :: r, h, hp => by
    have hy := h y (by simp)
    have hxy : x ≤ y := (List.pairwise_cons.mp hp).1 y (by simp)
    have ih := zip_ends l m (y :: r) (fun z hz => h z (List.mem_cons_of_mem _ hz)) (List.pairwise_cons.mp hp).2
    show (x, sl (l ++ m) x y) :: _ = (x, sl l x y) :: _
    rw [sl_app hxy hy]
    exact congrArg _ ih
theorem starts_sorted : ∀ (l : List Nat) (pos : Nat) (b : Bool), (starts pos b l).Pairwise (· ≤ ·)
  | [], _, _ => List.Pairwise.nil
  | c :: r, pos, b => by
    have ih := starts_sorted r (pos + 1) (c == 10)
    unfold starts
    split
    · refine List.pairwise_cons.mpr ⟨fun x hx => ?_, ih⟩
      have := starts_bound r (pos + 1) _ x hx
      omega
    · exact ih
/-- a chunk behind a text that ends a line -/
theorem chunksM_app {l m : List Nat} (hb : bol true l = true) (hm : ∀ pos, starts pos true m = [pos]) : chunksM (l ++ m) = chunksM l ++ [(l.length, m)] := by
  unfold chunksM
  have e : starts 0 true (l ++ m) = starts 0 true l ++ [l.length] := by rw [starts_app, hb, hm, Nat.zero_add]
  rw [e]
  exact zip_ends l m _ (fun x hx => by have := starts_bound l 0 true x hx; omega) (starts_sorted _ _ _)
theorem chunksM_none {l : List Nat} (h : starts 0 true l = []) : chunksM l = [] := by
  unfold chunksM; rw [h]; rfl
end Lw

namespace Lw
open PySem PySem.Spec PyProof.Rows L2
local macro_rules | `(tactic| k_extra "x1") => `(tactic| first
  | with_reducible refine es_seq ?_
  | with_reducible refine es_asg ?_
  | with_reducible refine es_if ?_
  | with_reducible refine es_ret ?_
  | with_reducible refine es_drop ?_
  | with_reducible refine es_next ?_
  | with_reducible refine es_augS ?_
  | with_reducible refine es_fld ?_
  | ((with_reducible show Ee (tVar _) _ _ _); refine ee_var rfl ?_)
  | with_reducible refine ee_c ?_
  | with_reducible refine ee_op ?_
  | with_reducible refine ee_un ?_
  | with_reducible refine eu_neg ?_
  | with_reducible refine ee_cb ?_
  | with_reducible refine ee_call ?_
  | with_reducible refine ea_nil ?_
  | with_reducible refine ea_cons ?_
  | with_reducible refine ee_sl ?_
  | with_reducible refine eo_no ?_
  | with_reducible refine eo_part ?_
  | with_reducible refine ee_tup ?_
  | with_reducible refine ee_lst ?_
  | with_reducible refine et_test ?_
  | with_reducible refine et_tB ?_
  | with_reducible refine et_tru ?_
  | with_reducible refine et_and ?_
  | with_reducible refine et_or ?_
  | with_reducible refine et_not ?_
  | with_reducible refine ee_and ?_
  | with_reducible refine ee_or ?_
  | with_reducible refine ee_not ?_
  | with_reducible refine ee_if ?_
  | with_reducible refine ee_chain ?_
  | with_reducible refine er_addI ?_
  | with_reducible refine er_subI ?_
  | with_reducible refine er_eqI ?_
  | with_reducible refine er_neI ?_
  | with_reducible refine er_eqS ?_
  | with_reducible refine er_neS ?_
  | with_reducible refine er_eqB ?_
  | with_reducible refine er_neB ?_
  | with_reducible refine er_lt ?_
  | with_reducible refine er_le ?_
  | with_reducible refine er_gt ?_
  | with_reducible refine er_ge ?_
  | with_reducible refine er_isN_non ?_
  | with_reducible refine er_isN_bl ?_
  | with_reducible refine er_isN_int ?_
  | with_reducible refine er_isN_str ?_
  | with_reducible refine er_isN_ref ?_
  | with_reducible refine er_notN_non ?_
  | with_reducible refine er_notN_bl ?_
  | with_reducible refine er_notN_int ?_
  | with_reducible refine er_notN_str ?_
  | with_reducible refine er_notN_ref ?_
  | with_reducible refine er_isN ?_
  | with_reducible refine er_notN ?_
  | with_reducible refine ec_int ?_
  | with_reducible refine ec_max2 ?_
  | with_reducible refine ec_min2 ?_
  | with_reducible refine ip_I ?_
  | ((with_reducible refine eg_name ?_); (try dsimp only [L2.wipe, List.set_cons_zero, List.set_cons_succ]))
  | with_reducible refine eg_sub ?_
  | with_reducible refine egs_cons ?_
  | with_reducible refine egs_nil ?_
  | with_reducible refine tru_bl ?_
  | with_reducible refine tru_int ?_
  | with_reducible refine tru_non ?_
  | with_reducible refine iteT ?_
  | with_reducible refine iteF ?_
  | with_reducible refine ite_nt ?_
  | with_reducible refine ite_nf ?_
  | with_reducible refine ⟨_, rfl, ?_⟩)
local macro_rules | `(tactic| k_extra "s") => `(tactic| ((first | k_extra "x1" | ((with_reducible refine es_unf ?_); refine es_seq ?_)); (repeat k_extra "x1")))
local macro_rules | `(tactic| k_extra "x") => `(tactic| (repeat first | k_extra "x1" | ((with_reducible refine es_unf ?_); refine es_seq ?_)))
local macro_rules | `(tactic| k_extra "start") => `(tactic| dsimp only [L2.start, List.map_cons, List.map_nil, List.length_cons, List.length_nil, Nat.reduceAdd, Nat.reduceSub, List.replicate, List.cons_append, List.nil_append, Nat.zero_add])
local macro_rules | `(tactic| k_extra "e1") => `(tactic| first
  | with_reducible refine es_next ?_
  | ((with_reducible show Ee (tVar _) _ _ _); refine ee_var rfl ?_)
  | with_reducible refine ee_c ?_
  | with_reducible refine ee_op ?_
  | with_reducible refine ee_un ?_
  | with_reducible refine eu_neg ?_
  | with_reducible refine ee_cb ?_
  | with_reducible refine ee_call ?_
  | with_reducible refine ea_nil ?_
  | with_reducible refine ea_cons ?_
  | with_reducible refine ee_sl ?_
  | with_reducible refine eo_no ?_
  | with_reducible refine eo_part ?_
  | with_reducible refine ee_tup ?_
  | with_reducible refine ee_lst ?_
  | with_reducible refine et_test ?_
  | with_reducible refine et_tB ?_
  | with_reducible refine et_tru ?_
  | with_reducible refine et_and ?_
  | with_reducible refine et_or ?_
  | with_reducible refine et_not ?_
  | with_reducible refine ee_and ?_
  | with_reducible refine ee_or ?_
  | with_reducible refine ee_not ?_
  | with_reducible refine ee_if ?_
  | with_reducible refine ee_chain ?_
  | with_reducible refine er_addI ?_
  | with_reducible refine er_subI ?_
  | with_reducible refine er_eqI ?_
  | with_reducible refine er_neI ?_
  | with_reducible refine er_eqS ?_
  | with_reducible refine er_neS ?_
  | with_reducible refine er_eqB ?_
  | with_reducible refine er_neB ?_
  | with_reducible refine er_lt ?_
  | with_reducible refine er_le ?_
  | with_reducible refine er_gt ?_
  | with_reducible refine er_ge ?_
  | with_reducible refine er_isN_non ?_
  | with_reducible refine er_isN_bl ?_
  | with_reducible refine er_isN_int ?_
  | with_reducible refine er_isN_str ?_
  | with_reducible refine er_isN_ref ?_
  | with_reducible refine er_notN_non ?_
  | with_reducible refine er_notN_bl ?_
  | with_reducible refine er_notN_int ?_
  | with_reducible refine er_notN_str ?_
  | with_reducible refine er_notN_ref ?_
  | with_reducible refine er_isN ?_
  | with_reducible refine er_notN ?_
  | with_reducible refine ec_int ?_
  | with_reducible refine ec_max2 ?_
  | with_reducible refine ec_min2 ?_
  | with_reducible refine ip_I ?_
  | ((with_reducible refine eg_name ?_); (try dsimp only [L2.wipe, List.set_cons_zero, List.set_cons_succ]))
  | with_reducible refine eg_sub ?_
  | with_reducible refine egs_cons ?_
  | with_reducible refine egs_nil ?_
  | with_reducible refine tru_bl ?_
  | with_reducible refine tru_int ?_
  | with_reducible refine tru_non ?_
  | with_reducible refine iteT ?_
  | with_reducible refine iteF ?_
  | with_reducible refine ite_nt ?_
  | with_reducible refine ite_nf ?_
  | with_reducible refine ex_bl ?_
  | with_reducible refine ex_int ?_
  | with_reducible refine ex_str ?_
  | with_reducible refine ex_strx ?_
  | with_reducible refine ex_ints1 ?_
  | with_reducible refine ex_ints2 ?_)
local macro_rules | `(tactic| k_extra "t1") => `(tactic| first
  | with_reducible refine es_asg ?_
  | with_reducible refine es_if ?_
  | with_reducible refine es_ret ?_
  | with_reducible refine es_drop ?_
  | with_reducible refine es_augS ?_
  | with_reducible refine es_fld ?_)
local macro_rules | `(tactic| k_extra "e") => `(tactic| first
  | ((with_reducible refine es_seq ?_); (try k_extra "t1"); (repeat k_extra "e1"))
  | (k_extra "t1"; (repeat k_extra "e1"))
  | (k_extra "e1"; (repeat k_extra "e1"))
  | ((with_reducible refine es_unf ?_); (refine es_seq ?_); (try k_extra "t1"); (repeat k_extra "e1")))
/-! ### _law_lines -/
def S__law_lines (K : PySem.W.Frag) (A : Ad) : Pm := fun vs G Q _ => ∃ (a l : Addr) (ns : List Int) (p v r n : Int), vs = [.ref a, .int n] ∧ StP K G a l ns p v r ∧ 0 ≤ n ∧ n ≤ 100 ∧
  ∀ z p' v' r', (z.length : Int) ≤ 92 * n → (∀ pos, starts pos true (TL.tl z) = []) → bol true (TL.tl z) = true → SOk ns.length p' v' r' → Q (.str z) (upd G a (StG l p' v' r'))
/-! _law_lines -/
def t__law_lines_1 (K : PySem.W.Frag) (A : Ad) : TS := tSeq (tIfS (tTest (tOp (rGtI) (tCall (up (S__law_next K A)) [] E0 (tCons (tVar 0) (tCons (tC (.int 3)) tNil))) (tC (.int 0)))) (tAsg (tOp (rAddU K) (tOp (rAddU K) (tVar 2) (tC (.str " "))) (tCall (up (S__law_line K A)) [] E0 (tCons (tVar 0) tNil))) (gName 2)) tNext) (tAsg (tOp (rAddU K) (tVar 2) (tC (.str "\n"))) (gName 2))
def t__law_lines_2 (K : PySem.W.Frag) (A : Ad) : TS := tSeq (tFor (iRng1 (tCons (tVar 1) tNil)) (gName 3) (t__law_lines_1 K A)) (tRet (tVar 2))
def t__law_lines (K : PySem.W.Frag) (A : Ad) : TS := tSeq (tAsg (tC (.str "")) (gName 2)) (t__law_lines_2 K A)
theorem len__law_lines {K : PySem.W.Frag} {A : Ad} : ∀ vs G Q E, S__law_lines K A vs G Q E → vs.length = ["state", "count"].length := by
  rintro vs G Q E ⟨a, l, ns, p, v, r, n, rfl, _⟩; rfl
theorem sp_str : Str.ofString " " = ⟨#[32]⟩ := by decide +kernel
theorem nl_str : Str.ofString "\n" = ⟨#[10]⟩ := by decide +kernel
theorem em_str : Str.ofString "" = ⟨#[]⟩ := by decide +kernel
theorem ok__law_lines {K : PySem.W.Frag} {A : Ad} : ∀ vs G Q E, S__law_lines K A vs G Q E → Es (t__law_lines K A) { nx := fun _ G' => Q .non G', rt := Q } (L2.start ["state", "count", "text", "k"] vs) G := by
  rintro vs G Q E ⟨a, l, ns, p, v, r, n, rfl, h, h0, h1, q⟩
  change Es _ _ (_ :: _ :: _ :: _ :: []) _
  k_extra "s"
  k_extra "s"
  refine es_forR1 ?_
  k_extra "s"
  refine ⟨by omega, fun i σ G' => ∃ z p v r c, σ = [some (.ref a), some (.int n), some (.str z), c] ∧ G' = upd G a (StG l p v r) ∧ SOk ns.length p v r ∧ z.length ≤ 92 * i ∧ (∀ pos, starts pos true (TL.tl z) = []) ∧ bol true (TL.tl z) = true,
    ⟨_, p, v, r, _, rfl, ?_, h.ok, by rw [em_str]; exact Nat.le_refl _, fun pos => by rw [em_str]; rfl, by rw [em_str]; rfl⟩, ?_, ?_⟩
  · funext b; unfold upd; split
    · rename_i e; rw [e]; exact h.at_
    · rfl
  · rintro i σ G' hi ⟨z, p, v, r, c, rfl, rfl, s, hz, hst, hb⟩
    -- the turn's end, from a text that ends a line or has a line begun
    have fin : ∀ (y : Str) (p v r : Int), SOk ns.length p v r → y.length ≤ 92 * i + 91 → (∀ pos, starts pos true (TL.tl y) = []) →
        Es (tAsg (tOp (rAddU K) (tVar 2) (tC (.str "\n"))) (gName 2)) (Bd { nx := fun σ' G' => Es (tRet (tVar 2)) { nx := fun _ G' => Q .non G', rt := Q } σ' G', rt := Q } fun σ G' => ∃ z p v r c, σ = [some (.ref a), some (.int n), some (.str z), c] ∧ G' = upd G a (StG l p v r) ∧ SOk ns.length p v r ∧ z.length ≤ 92 * (i + 1) ∧ (∀ pos, starts pos true (TL.tl z) = []) ∧ bol true (TL.tl z) = true)
          [some (.ref a), some (.int n), some (.str y), some (.int (i : Int))] (upd G a (StG l p v r)) := by
      intro y p v r s hy hst
      k_extra "s"
      refine er_addS (by rw [nl_str]; show y.length + 1 ≤ _; exact szM (by omega)) ?_
      k_extra "s"
      refine ⟨_, _, _, _, _, rfl, rfl, s, ?_, fun pos => ?_, ?_⟩
      · rw [len_app, nl_str]; show y.length + 1 ≤ _; omega
      · rw [TL.tl_append, nl_str, starts_app, hst]
        show (if _ then _ else _) ++ [] = _
        rw [if_neg (by simp [TL.tl])]; rfl
      · rw [TL.tl_append, nl_str]
        exact bol_snoc _ _ _
    k_extra "s"
    refine nx_call (h.put s) (log2_ok (by decide) (by decide)) fun x p2 v2 r2 hx0 hx1 s2 => ?_
    rw [upd_upd]
    k_extra "s"
    refine ifd (fun hx => ?_) (fun hx => ?_)
    · k_extra "s"
      refine er_addS (by rw [sp_str]; show z.length + 1 ≤ _; exact szM (by omega)) ?_
      k_extra "s"
      refine ⟨a, l, ns, p2, v2, r2, rfl, h.put s2, fun w p3 v3 r3 hw hwc s3 => ?_⟩
      rw [upd_upd]
      have hl1 : (z ++ Str.ofString " ").length = z.length + 1 := by rw [len_app, sp_str]; rfl
      refine er_addS (by rw [hl1]; exact szM (by omega)) ?_
      refine eg_name ?_
      refine fin _ _ _ _ s3 (by rw [len_app, hl1]; omega) (fun pos => ?_)
      rw [TL.tl_append, TL.tl_append, sp_str, starts_app, starts_app, hst, hb, bol_app, hb]
      show ((if _ then _ else _) ++ []) ++ starts _ false (TL.tl w) = []
      rw [if_neg (by simp [TL.tl]), starts_line _ _ hwc]; rfl
    · refine es_next ?_
      exact fin z p2 v2 r2 s2 (by omega) hst
  · rintro σ G' ⟨z, p, v, r, c, rfl, rfl, s, hz, hst, hb⟩
    k_extra "s"
    exact q z p v r (by omega) hst hb s
/-! ### line_starts -/
def vN (l : List Nat) : List V := l.map fun (n : Nat) => V.int (n : Int)
def S_line_starts (K : PySem.W.Frag) (A : Ad) : Pm := fun vs G Q _ => ∃ z : Str, vs = [.str z] ∧ z.length ≤ 16000000 ∧ ∀ p, G p = none → Q (.ref p) (upd G p (.lst (vN (starts 0 true (TL.tl z)))))
/-! line_starts -/
def t_line_starts_1 (K : PySem.W.Frag) (A : Ad) : TS := tSeq (tFor (iRng1 (tCons (tCB (rLenU K) (tCons (tVar 0) tNil)) tNil)) (gName 2) (tIfS (tAnd (tTest (tOp (rNotInU K) (tOp (rIx K) (tVar 0) (tVar 2)) (tTup (tCons (tC (.str " ")) (tCons (tC (.str "\n")) tNil))))) (tOr (tTest (tOp (rEqU K) (tVar 2) (tC (.int 0)))) (tTest (tOp (rEqU K) (tOp (rIx K) (tVar 0) (tOp (rSubI) (tVar 2) (tC (.int 1)))) (tC (.str "\n")))))) (tDrop (tBM K "list" (rAppend) (tVar 1) (tCons (tVar 2) tNil))) tNext)) (tRet (tVar 1))
def t_line_starts (K : PySem.W.Frag) (A : Ad) : TS := tSeq (tAsg (tLst tNil) (gName 1)) (t_line_starts_1 K A)
theorem len_line_starts {K : PySem.W.Frag} {A : Ad} : ∀ vs G Q E, S_line_starts K A vs G Q E → vs.length = ["text"].length := by
  rintro vs G Q E ⟨z, rfl, _⟩; rfl
theorem in_blank (c : Nat) : inV (.str ⟨#[c]⟩) [.str (Str.ofString " "), .str (Str.ofString "\n")] = decide (c = 32 ∨ c = 10) := by
  rw [sp_str, nl_str]
  unfold inV
  show (((⟨#[32]⟩ : Str) == ⟨#[c]⟩) || (((⟨#[10]⟩ : Str) == ⟨#[c]⟩) || false)) = _
  have e : ∀ d : Nat, ((⟨#[d]⟩ : Str) == ⟨#[c]⟩) = decide (c = d) := fun d => by
    by_cases h : c = d
    · subst h; simp
    · rw [decide_eq_false h]
      refine beq_false_of_ne fun z => h ?_
      have := congrArg Str.cps z
      simpa using this.symm
  rw [e, e, Bool.or_false, Bool.decide_or]
theorem startsTo_succ (l : List Nat) (i : Nat) : startsTo l (i + 1) = startsTo l i ++ (if isStart l i = true then [i] else []) := by
  unfold startsTo
  rw [List.range_succ, List.filter_append, List.filter_cons, List.filter_nil]
theorem startsTo_len (l : List Nat) (i : Nat) : (startsTo l i).length ≤ i := by
  unfold startsTo
  have := List.length_filter_le (isStart l) (List.range i)
  rwa [List.length_range] at this
theorem ok_line_starts {K : PySem.W.Frag} {A : Ad} : ∀ vs G Q E, S_line_starts K A vs G Q E → Es (t_line_starts K A) { nx := fun _ G' => Q .non G', rt := Q } (L2.start ["text", "found", "position"] vs) G := by
  rintro vs G Q E ⟨z, rfl, hz, q⟩
  change Es _ _ (_ :: _ :: _ :: []) _
  k_extra "s"
  refine ⟨Nat.zero_le _, fun p hp => ?_⟩
  k_extra "s"
  k_extra "s"
  refine es_forR1 ?_
  k_extra "s"
  refine ec_lenS (szM hz) ?_
  k_extra "s"
  have hlen : z.length = (TL.tl z).length := TL.len_tl z
  refine ⟨line62 (szM hz), fun i σ G' => ∃ c, σ = [some (.str z), some (.ref p), c] ∧ G' = upd G p (.lst (vN (startsTo (TL.tl z) i))), ⟨_, rfl, rfl⟩, ?_, ?_⟩
  · rintro i σ G' hi ⟨c, rfl, rfl⟩
    have hi' : i < (TL.tl z).length := by omega
    obtain ⟨ch, hch⟩ : ∃ ch, (TL.tl z)[i]? = some ch := ⟨_, List.getElem?_eq_getElem hi'⟩
    have hsl := startsTo_len (TL.tl z) i
    have no : isStart (TL.tl z) i = false → vN (startsTo (TL.tl z) (i + 1)) = vN (startsTo (TL.tl z) i) := fun h => by unfold vN; rw [startsTo_succ, if_neg (by rw [h]; decide), List.append_nil]
    have yes : isStart (TL.tl z) i = true → vN (startsTo (TL.tl z) (i + 1)) = vN (startsTo (TL.tl z) i) ++ [.int (i : Int)] := fun h => by unfold vN; rw [startsTo_succ, if_pos h, List.map_append]; rfl
    k_extra "s"
    refine er_ixS (szM hz) (atI_nat hch) ?_
    k_extra "s"
    refine ⟨sz1000 (by decide), fun t ht => ?_⟩
    refine er_notIn (.inr (SqT.of upd_same)) rfl (by decide +kernel) ?_
    rw [in_blank]
    k_extra "s"
    have app : isStart (TL.tl z) i = true → Es (tDrop (tBM K "list" (rAppend) (tVar 1) (tCons (tVar 2) tNil))) (Bd { nx := fun σ' G' => Es (tRet (tVar 1)) { nx := fun _ G' => Q .non G', rt := Q } σ' G', rt := Q } fun σ G' => ∃ c, σ = [some (.str z), some (.ref p), c] ∧ G' = upd G p (.lst (vN (startsTo (TL.tl z) (i + 1)))))
        [some (.str z), some (.ref p), some (.int (i : Int))] (upd (upd G p (.lst (vN (startsTo (TL.tl z) i)))) t (.tup [.str (Str.ofString " "), .str (Str.ofString "\n")])) := by
      intro h
      refine Es.weak (Ex.new ht) ?_
      k_extra "s"
      refine ee_bm ?_
      k_extra "s"
      refine ⟨ty_lst upd_same, ?_⟩
      k_extra "s"
      refine em_append upd_same (by unfold vN; rw [List.length_map]; exact szlt (by omega)) ?_
      refine ⟨_, rfl, ?_⟩
      rw [upd_upd, yes h]
    have skip : isStart (TL.tl z) i = false → ∃ c, [some (V.str z), some (.ref p), some (.int (i : Int))] = [some (.str z), some (.ref p), c] ∧ upd G p (.lst (vN (startsTo (TL.tl z) i))) = upd G p (.lst (vN (startsTo (TL.tl z) (i + 1)))) := fun h => ⟨_, rfl, by rw [no h]⟩
    refine ifnd (fun hc => ?_) (fun hc => ?_)
    · k_extra "s"
      refine ifd (fun h0 => ?_) (fun h0 => ?_)
      · k_extra "e"
        refine app ?_
        unfold isStart
        rw [hch]
        simp only [ne_eq, Option.some.injEq, decide_eq_true_eq]
        exact ⟨fun h => hc (.inl h), fun h => hc (.inr h), .inl (by omega)⟩
      · have e1 : (i : Int) - 1 = ((i - 1 : Nat) : Int) := by omega
        obtain ⟨c2, hc2⟩ : ∃ c2, (TL.tl z)[i - 1]? = some c2 := ⟨_, List.getElem?_eq_getElem (by omega)⟩
        k_extra "s"
        rw [e1]
        refine er_ixS (szM hz) (atI_nat hc2) ?_
        k_extra "s"
        have e2 : decide ((⟨#[c2]⟩ : Str) = Str.ofString "\n") = decide (c2 = 10) := by
          rw [nl_str]
          by_cases h : c2 = 10
          · subst h; simp
          · rw [decide_eq_false h, decide_eq_false]
            intro z; have := congrArg Str.cps z; simp at this; exact h this
        rw [e2]
        refine ifd (fun h => ?_) (fun h => ?_)
        · refine app ?_
          unfold isStart
          rw [hch, hc2]
          simp only [ne_eq, Option.some.injEq, decide_eq_true_eq]
          exact ⟨fun h => hc (.inl h), fun h => hc (.inr h), .inr h⟩
        · refine Es.weak (Ex.new ht) ?_
          refine es_next ?_
          refine skip ?_
          unfold isStart
          rw [hch, hc2]
          simp only [ne_eq, Option.some.injEq, decide_eq_false_iff_not]
          exact fun ⟨_, _, z⟩ => z.elim (fun z => h0 (by omega)) h
    · refine iteF ?_
      refine Es.weak (Ex.new ht) ?_
      refine es_next ?_
      refine skip ?_
      unfold isStart
      rw [hch]
      simp only [ne_eq, Option.some.injEq, decide_eq_false_iff_not]
      exact fun ⟨h1, h2, _⟩ => hc.elim h1 h2
  · rintro σ G' ⟨c, rfl, rfl⟩
    k_extra "s"
    rw [Int.toNat_natCast, hlen, startsTo_eq]
    exact q p hp
end Lw

namespace Lw
open PySem PySem.Spec PyProof.Rows L2
local macro_rules | `(tactic| k_extra "x1") => `(tactic| first
  | with_reducible refine es_seq ?_
  | with_reducible refine es_asg ?_
  | with_reducible refine es_if ?_
  | with_reducible refine es_ret ?_
  | with_reducible refine es_drop ?_
  | with_reducible refine es_next ?_
  | with_reducible refine es_augS ?_
  | with_reducible refine es_fld ?_
  | ((with_reducible show Ee (tVar _) _ _ _); refine ee_var rfl ?_)
  | with_reducible refine ee_c ?_
  | with_reducible refine ee_op ?_
  | with_reducible refine ee_un ?_
  | with_reducible refine eu_neg ?_
  | with_reducible refine ee_cb ?_
  | with_reducible refine ee_call ?_
  | with_reducible refine ea_nil ?_
  | with_reducible refine ea_cons ?_
  | with_reducible refine ee_sl ?_
  | with_reducible refine eo_no ?_
  | with_reducible refine eo_part ?_
  | with_reducible refine ee_tup ?_
  | with_reducible refine ee_lst ?_
  | with_reducible refine et_test ?_
  | with_reducible refine et_tB ?_
  | with_reducible refine et_tru ?_
  | with_reducible refine et_and ?_
  | with_reducible refine et_or ?_
  | with_reducible refine et_not ?_
  | with_reducible refine ee_and ?_
  | with_reducible refine ee_or ?_
  | with_reducible refine ee_not ?_
  | with_reducible refine ee_if ?_
  | with_reducible refine ee_chain ?_
  | with_reducible refine er_addI ?_
  | with_reducible refine er_subI ?_
  | with_reducible refine er_eqI ?_
  | with_reducible refine er_neI ?_
  | with_reducible refine er_eqS ?_
  | with_reducible refine er_neS ?_
  | with_reducible refine er_eqB ?_
  | with_reducible refine er_neB ?_
  | with_reducible refine er_lt ?_
  | with_reducible refine er_le ?_
  | with_reducible refine er_gt ?_
  | with_reducible refine er_ge ?_
  | with_reducible refine er_isN_non ?_
  | with_reducible refine er_isN_bl ?_
  | with_reducible refine er_isN_int ?_
  | with_reducible refine er_isN_str ?_
  | with_reducible refine er_isN_ref ?_
  | with_reducible refine er_notN_non ?_
  | with_reducible refine er_notN_bl ?_
  | with_reducible refine er_notN_int ?_
  | with_reducible refine er_notN_str ?_
  | with_reducible refine er_notN_ref ?_
  | with_reducible refine er_isN ?_
  | with_reducible refine er_notN ?_
  | with_reducible refine ec_int ?_
  | with_reducible refine ec_max2 ?_
  | with_reducible refine ec_min2 ?_
  | with_reducible refine ip_I ?_
  | ((with_reducible refine eg_name ?_); (try dsimp only [L2.wipe, List.set_cons_zero, List.set_cons_succ]))
  | with_reducible refine eg_sub ?_
  | with_reducible refine egs_cons ?_
  | with_reducible refine egs_nil ?_
  | with_reducible refine tru_bl ?_
  | with_reducible refine tru_int ?_
  | with_reducible refine tru_non ?_
  | with_reducible refine iteT ?_
  | with_reducible refine iteF ?_
  | with_reducible refine ite_nt ?_
  | with_reducible refine ite_nf ?_
  | with_reducible refine ⟨_, rfl, ?_⟩)
local macro_rules | `(tactic| k_extra "s") => `(tactic| ((first | k_extra "x1" | ((with_reducible refine es_unf ?_); refine es_seq ?_)); (repeat k_extra "x1")))
local macro_rules | `(tactic| k_extra "x") => `(tactic| (repeat first | k_extra "x1" | ((with_reducible refine es_unf ?_); refine es_seq ?_)))
local macro_rules | `(tactic| k_extra "start") => `(tactic| dsimp only [L2.start, List.map_cons, List.map_nil, List.length_cons, List.length_nil, Nat.reduceAdd, Nat.reduceSub, List.replicate, List.cons_append, List.nil_append, Nat.zero_add])
local macro_rules | `(tactic| k_extra "e1") => `(tactic| first
  | with_reducible refine es_next ?_
  | ((with_reducible show Ee (tVar _) _ _ _); refine ee_var rfl ?_)
  | with_reducible refine ee_c ?_
  | with_reducible refine ee_op ?_
  | with_reducible refine ee_un ?_
  | with_reducible refine eu_neg ?_
  | with_reducible refine ee_cb ?_
  | with_reducible refine ee_call ?_
  | with_reducible refine ea_nil ?_
  | with_reducible refine ea_cons ?_
  | with_reducible refine ee_sl ?_
  | with_reducible refine eo_no ?_
  | with_reducible refine eo_part ?_
  | with_reducible refine ee_tup ?_
  | with_reducible refine ee_lst ?_
  | with_reducible refine et_test ?_
  | with_reducible refine et_tB ?_
  | with_reducible refine et_tru ?_
  | with_reducible refine et_and ?_
  | with_reducible refine et_or ?_
  | with_reducible refine et_not ?_
  | with_reducible refine ee_and ?_
  | with_reducible refine ee_or ?_
  | with_reducible refine ee_not ?_
  | with_reducible refine ee_if ?_
  | with_reducible refine ee_chain ?_
  | with_reducible refine er_addI ?_
  | with_reducible refine er_subI ?_
  | with_reducible refine er_eqI ?_
  | with_reducible refine er_neI ?_
  | with_reducible refine er_eqS ?_
  | with_reducible refine er_neS ?_
  | with_reducible refine er_eqB ?_
  | with_reducible refine er_neB ?_
  | with_reducible refine er_lt ?_
  | with_reducible refine er_le ?_
  | with_reducible refine er_gt ?_
  | with_reducible refine er_ge ?_
  | with_reducible refine er_isN_non ?_
  | with_reducible refine er_isN_bl ?_
  | with_reducible refine er_isN_int ?_
  | with_reducible refine er_isN_str ?_
  | with_reducible refine er_isN_ref ?_
  | with_reducible refine er_notN_non ?_
  | with_reducible refine er_notN_bl ?_
  | with_reducible refine er_notN_int ?_
  | with_reducible refine er_notN_str ?_
  | with_reducible refine er_notN_ref ?_
  | with_reducible refine er_isN ?_
  | with_reducible refine er_notN ?_
  | with_reducible refine ec_int ?_
  | with_reducible refine ec_max2 ?_
  | with_reducible refine ec_min2 ?_
  | with_reducible refine ip_I ?_
  | ((with_reducible refine eg_name ?_); (try dsimp only [L2.wipe, List.set_cons_zero, List.set_cons_succ]))
  | with_reducible refine eg_sub ?_
  | with_reducible refine egs_cons ?_
  | with_reducible refine egs_nil ?_
  | with_reducible refine tru_bl ?_
  | with_reducible refine tru_int ?_
  | with_reducible refine tru_non ?_
  | with_reducible refine iteT ?_
  | with_reducible refine iteF ?_
  | with_reducible refine ite_nt ?_
  | with_reducible refine ite_nf ?_
  | with_reducible refine ex_bl ?_
  | with_reducible refine ex_int ?_
  | with_reducible refine ex_str ?_
  | with_reducible refine ex_strx ?_
  | with_reducible refine ex_ints1 ?_
  | with_reducible refine ex_ints2 ?_)
local macro_rules | `(tactic| k_extra "t1") => `(tactic| first
  | with_reducible refine es_asg ?_
  | with_reducible refine es_if ?_
  | with_reducible refine es_ret ?_
  | with_reducible refine es_drop ?_
  | with_reducible refine es_augS ?_
  | with_reducible refine es_fld ?_)
local macro_rules | `(tactic| k_extra "e") => `(tactic| first
  | ((with_reducible refine es_seq ?_); (try k_extra "t1"); (repeat k_extra "e1"))
  | (k_extra "t1"; (repeat k_extra "e1"))
  | (k_extra "e1"; (repeat k_extra "e1"))
  | ((with_reducible refine es_unf ?_); (refine es_seq ?_); (try k_extra "t1"); (repeat k_extra "e1")))
/-! ### chunks -/
def encC (x : Nat × List Nat) : PyData := .tuple [.int (x.1 : Int), .str ⟨x.2.toArray⟩]
def S_chunks (K : PySem.W.Frag) (A : Ad) : Pm := fun vs G Q _ => ∃ z : Str, vs = [.str z] ∧ z.length ≤ 15000000 ∧ ∀ p xs G', Ex G G' → G p = none → G' p = some (.lst xs) → Ims K G' xs ((chunksM (TL.tl z)).map encC) → Q (.ref p) G'
/-! chunks -/
def t_chunks_1 (K : PySem.W.Frag) (A : Ad) : TS := tSeq (tAsg (tOp (rAddU K) (tSl (rSlU K) (tVar 1) (tPart (tC (.int 1))) tNoPart) (tLst (tCons (tCB (rLenU K) (tCons (tVar 0) tNil)) tNil))) (gName 2)) (tRet (tLc (iZip K (tCons (tVar 1) (tCons (tVar 2) tNil))) (gTup K 2 (gCons (gName 3) (gCons (gName 4) gNil))) tYes (tTup (tCons (tVar 3) (tCons (tSl (rSlU K) (tVar 0) (tPart (tVar 3)) (tPart (tVar 4))) tNil))) [3, 4]))
def t_chunks (K : PySem.W.Frag) (A : Ad) : TS := tSeq (tAsg (tCall (up (S_line_starts K A)) [] E0 (tCons (tVar 0) tNil)) (gName 1)) (t_chunks_1 K A)
theorem len_chunks {K : PySem.W.Frag} {A : Ad} : ∀ vs G Q E, S_chunks K A vs G Q E → vs.length = ["text"].length := by
  rintro vs G Q E ⟨z, rfl, _⟩; rfl
theorem cut1 (xs : List V) : cutV xs (some 1) none = xs.tail := by
  unfold cutV
  rw [show HT.sIx xs.length 0 (some 1) = min 1 xs.length from HT.sIx_nat xs.length 0 1, HT.sIx_none]
  cases xs with
  | nil => rfl
  | cons x r =>
    rw [show min 1 (x :: r).length = 1 by rw [List.length_cons]; omega]
    show (List.take ((x :: r).length - 1) r) = r
    simp
theorem cutS_nat (z : Str) (a b : Nat) (ha : a ≤ z.length) (hb : b ≤ z.length) : cutS z (some (a : Int)) (some (b : Int)) = ⟨(sl (TL.tl z) a b).toArray⟩ := by
  unfold cutS sl
  rw [show HT.sIx z.length 0 (some (a : Int)) = min a z.length from HT.sIx_nat _ _ _, show HT.sIx z.length z.length (some (b : Int)) = min b z.length from HT.sIx_nat _ _ _, Nat.min_eq_left ha, Nat.min_eq_left hb]
theorem vN_get {l : List Nat} {i : Nat} {x : V} (h : (vN l)[i]? = some x) : ∃ n, l[i]? = some n ∧ x = .int (n : Int) := by
  unfold vN at h
  rw [List.getElem?_map] at h
  obtain ⟨n, h1, h2⟩ := Option.map_eq_some_iff.mp h
  exact ⟨n, h1, h2.symm⟩
theorem ok_chunks {K : PySem.W.Frag} {A : Ad} : ∀ vs G Q E, S_chunks K A vs G Q E → Es (t_chunks K A) { nx := fun _ G' => Q .non G', rt := Q } (L2.start ["text", "starts", "ends", "start", "end"] vs) G := by
  rintro vs G Q E ⟨z, rfl, hz, q⟩
  change Es _ _ (_ :: _ :: _ :: _ :: _ :: []) _
  have hlen : z.length = (TL.tl z).length := TL.len_tl z
  generalize hs : starts 0 true (TL.tl z) = s at *
  have hsb : ∀ x ∈ s, x < z.length := fun x hx => by
    have := starts_bound (TL.tl z) 0 true x (hs ▸ hx)
    omega
  have hsl : s.length ≤ z.length := by
    rw [← hs, ← startsTo_eq, hlen]; exact startsTo_len _ _
  k_extra "e"
  refine ⟨z, rfl, by omega, fun p hp => ?_⟩
  rw [hs]
  k_extra "e"
  k_extra "e"
  refine ew_L (SqL.of upd_same) fun p2 hp2 => ?_
  rw [cut1]
  have e2 : (vN s).tail = vN s.tail := by unfold vN; rw [List.map_tail]
  rw [e2]
  k_extra "e"
  refine ec_lenS (szM (by omega)) ?_
  k_extra "e"
  refine ⟨sz1000 (by simp), fun p3 hp3 => ?_⟩
  have h23 : p2 ≠ p3 := ne_new upd_same hp3
  have h13 : p ≠ p3 := ne_new (get_new upd_same hp2) hp3
  have h12 : p ≠ p2 := ne_new upd_same hp2
  refine er_addL (get_ne upd_same h23) upd_same (by unfold vN; rw [List.length_map, List.length_tail]; exact szM (by simp; omega)) fun p4 hp4 => ?_
  have e4 : vN s.tail ++ [V.int (z.length : Int)] = vN (s.tail ++ [z.length]) := by unfold vN; rw [List.map_append]; rfl
  rw [e4]
  generalize hG : upd (upd (upd (upd G p (.lst (vN s))) p2 (.lst (vN s.tail))) p3 (.lst [V.int (z.length : Int)])) p4 (.lst (vN (s.tail ++ [z.length]))) = G1
  have x1 : Ex G G1 := by
    rw [← hG]
    exact (((Ex.new hp).trans (Ex.new hp2)).trans (Ex.new hp3)).trans (Ex.new hp4)
  have hS : SqL K G1 p (vN s) := by rw [← hG]; exact SqL.of (get_new (get_new (get_new upd_same hp2) hp3) hp4)
  have hE : SqL K G1 p4 (vN (s.tail ++ [z.length])) := by rw [← hG]; exact SqL.of upd_same
  have eL : min (vN s).length (vN (s.tail ++ [z.length])).length = (chunksM (TL.tl z)).length := by
    unfold chunksM vN
    rw [hs, List.length_zipWith, List.length_map, List.length_map, hlen]
  k_extra "e"
  k_extra "e"
  refine ee_lcZ ?_
  k_extra "e"
  refine ⟨p, p4, _, _, rfl, hS, hE, fun d hd => ⟨fun i acc G' => Ex G1 G' ∧ G' d = none ∧ Ims K G' acc (((chunksM (TL.tl z)).take i).map encC), ⟨Ex.refl _, hd, by rw [List.take_zero]; exact .nil⟩, ?_, ?_, ?_⟩⟩
  · rintro i acc G' ⟨h1, h2, h3⟩
    refine ⟨h2, ?_, h1.sl hS, h1.sl hE⟩
    have := ims_len h3
    rw [List.length_map, List.length_take] at this
    have h4 : (chunksM (TL.tl z)).length ≤ s.length := by unfold chunksM; rw [hs, List.length_zipWith]; omega
    exact szlt (by omega)
  · rintro i acc x y G' T hx hy ⟨h1, h2, h3⟩ hT
    obtain ⟨a, ha, rfl⟩ := vN_get hx
    obtain ⟨b, hb, rfl⟩ := vN_get hy
    have ha2 := hsb a (List.mem_of_getElem? ha)
    have hb2 : b ≤ z.length := by
      rcases List.mem_append.mp (List.mem_of_getElem? hb) with h | h
      · exact Nat.le_of_lt (hsb b (List.mem_of_mem_tail h))
      · rw [List.mem_singleton] at h; omega
    have hc : (chunksM (TL.tl z))[i]? = some (a, sl (TL.tl z) a b) := by
      unfold chunksM
      rw [hs, ← hlen, List.getElem?_zipWith, ha, hb]
    k_extra "e"
    refine ⟨rfl, et_yes (iteT ?_)⟩
    k_extra "e"
    refine ew_S (szM (by omega)) ?_
    k_extra "e"
    refine ⟨sz1000 (by simp), fun t ht => ?_⟩
    rw [cutS_nat z a b (by omega) hb2]
    have ht2 : upd G' d (.lst acc) t = none := nul_upd ht
    have ht3 : G' t = none := nul_upd ht2
    have hdt : d ≠ t := ne_new upd_same ht2
    have hdT : d ≠ T := ne_new upd_same hT
    refine ⟨get_ne (get_ne upd_same hdT) hdt, upd G' t (.tup [.int (a : Int), .str ⟨(sl (TL.tl z) a b).toArray⟩]), ?_, ?_, ?_, ?_⟩
    · refine Ex.putL (Ex.putL ?_ upd_same) (get_ne (get_ne upd_same hdT) hdt)
      exact ((Ex.new h2).trans (Ex.new hT)).trans (Ex.new ht)
    · exact h1.trans (Ex.new ht3)
    · exact nul_ne h2 hdt
    · rw [List.take_add_one, hc, List.map_append]
      refine ims_app ((Ex.new ht3).tx.ims h3) (ims_one ?_)
      exact .tup (SqT.of upd_same) (.cons (.int _) (.cons (.str _) .nil))
  · rintro acc G' ⟨h1, h2, h3⟩
    rw [eL, List.take_length] at h3
    exact q d acc _ (x1.trans (h1.trans (Ex.new h2))) (x1.nul hd) upd_same ((Ex.new h2).tx.ims h3)
end Lw

namespace Lw
open PySem PySem.Spec PyProof.Rows L2
local macro_rules | `(tactic| k_extra "x1") => `(tactic| first
  | with_reducible refine es_seq ?_
  | with_reducible refine es_asg ?_
  | with_reducible refine es_if ?_
  | with_reducible refine es_ret ?_
  | with_reducible refine es_drop ?_
  | with_reducible refine es_next ?_
  | with_reducible refine es_augS ?_
  | with_reducible refine es_fld ?_
  | ((with_reducible show Ee (tVar _) _ _ _); refine ee_var rfl ?_)
  | with_reducible refine ee_c ?_
  | with_reducible refine ee_op ?_
  | with_reducible refine ee_un ?_
  | with_reducible refine eu_neg ?_
  | with_reducible refine ee_cb ?_
  | with_reducible refine ee_call ?_
  | with_reducible refine ea_nil ?_
  | with_reducible refine ea_cons ?_
  | with_reducible refine ee_sl ?_
  | with_reducible refine eo_no ?_
  | with_reducible refine eo_part ?_
  | with_reducible refine ee_tup ?_
  | with_reducible refine ee_lst ?_
  | with_reducible refine et_test ?_
  | with_reducible refine et_tB ?_
  | with_reducible refine et_tru ?_
  | with_reducible refine et_and ?_
  | with_reducible refine et_or ?_
  | with_reducible refine et_not ?_
  | with_reducible refine ee_and ?_
  | with_reducible refine ee_or ?_
  | with_reducible refine ee_not ?_
  | with_reducible refine ee_if ?_
  | with_reducible refine ee_chain ?_
  | with_reducible refine er_addI ?_
  | with_reducible refine er_subI ?_
  | with_reducible refine er_eqI ?_
  | with_reducible refine er_neI ?_
  | with_reducible refine er_eqS ?_
  | with_reducible refine er_neS ?_
  | with_reducible refine er_eqB ?_
  | with_reducible refine er_neB ?_
  | with_reducible refine er_lt ?_
  | with_reducible refine er_le ?_
  | with_reducible refine er_gt ?_
  | with_reducible refine er_ge ?_
  | with_reducible refine er_isN_non ?_
  | with_reducible refine er_isN_bl ?_
  | with_reducible refine er_isN_int ?_
  | with_reducible refine er_isN_str ?_
  | with_reducible refine er_isN_ref ?_
  | with_reducible refine er_notN_non ?_
  | with_reducible refine er_notN_bl ?_
  | with_reducible refine er_notN_int ?_
  | with_reducible refine er_notN_str ?_
  | with_reducible refine er_notN_ref ?_
  | with_reducible refine er_isN ?_
  | with_reducible refine er_notN ?_
  | with_reducible refine ec_int ?_
  | with_reducible refine ec_max2 ?_
  | with_reducible refine ec_min2 ?_
  | with_reducible refine ip_I ?_
  | ((with_reducible refine eg_name ?_); (try dsimp only [L2.wipe, List.set_cons_zero, List.set_cons_succ]))
  | with_reducible refine eg_sub ?_
  | with_reducible refine egs_cons ?_
  | with_reducible refine egs_nil ?_
  | with_reducible refine tru_bl ?_
  | with_reducible refine tru_int ?_
  | with_reducible refine tru_non ?_
  | with_reducible refine iteT ?_
  | with_reducible refine iteF ?_
  | with_reducible refine ite_nt ?_
  | with_reducible refine ite_nf ?_
  | with_reducible refine ⟨_, rfl, ?_⟩)
local macro_rules | `(tactic| k_extra "s") => `(tactic| ((first | k_extra "x1" | ((with_reducible refine es_unf ?_); refine es_seq ?_)); (repeat k_extra "x1")))
local macro_rules | `(tactic| k_extra "x") => `(tactic| (repeat first | k_extra "x1" | ((with_reducible refine es_unf ?_); refine es_seq ?_)))
local macro_rules | `(tactic| k_extra "start") => `(tactic| dsimp only [L2.start, List.map_cons, List.map_nil, List.length_cons, List.length_nil, Nat.reduceAdd, Nat.reduceSub, List.replicate, List.cons_append, List.nil_append, Nat.zero_add])
local macro_rules | `(tactic| k_extra "e1") => `(tactic| first
  | with_reducible refine es_next ?_
  | ((with_reducible show Ee (tVar _) _ _ _); refine ee_var rfl ?_)
  | with_reducible refine ee_c ?_
  | with_reducible refine ee_op ?_
  | with_reducible refine ee_un ?_
  | with_reducible refine eu_neg ?_
  | with_reducible refine ee_cb ?_
  | with_reducible refine ee_call ?_
  | with_reducible refine ea_nil ?_
  | with_reducible refine ea_cons ?_
  | with_reducible refine ee_sl ?_
  | with_reducible refine eo_no ?_
  | with_reducible refine eo_part ?_
  | with_reducible refine ee_tup ?_
  | with_reducible refine ee_lst ?_
  | with_reducible refine et_test ?_
  | with_reducible refine et_tB ?_
  | with_reducible refine et_tru ?_
  | with_reducible refine et_and ?_
  | with_reducible refine et_or ?_
  | with_reducible refine et_not ?_
  | with_reducible refine ee_and ?_
  | with_reducible refine ee_or ?_
  | with_reducible refine ee_not ?_
  | with_reducible refine ee_if ?_
  | with_reducible refine ee_chain ?_
  | with_reducible refine er_addI ?_
  | with_reducible refine er_subI ?_
  | with_reducible refine er_eqI ?_
  | with_reducible refine er_neI ?_
  | with_reducible refine er_eqS ?_
  | with_reducible refine er_neS ?_
  | with_reducible refine er_eqB ?_
  | with_reducible refine er_neB ?_
  | with_reducible refine er_lt ?_
  | with_reducible refine er_le ?_
  | with_reducible refine er_gt ?_
  | with_reducible refine er_ge ?_
  | with_reducible refine er_isN_non ?_
  | with_reducible refine er_isN_bl ?_
  | with_reducible refine er_isN_int ?_
  | with_reducible refine er_isN_str ?_
  | with_reducible refine er_isN_ref ?_
  | with_reducible refine er_notN_non ?_
  | with_reducible refine er_notN_bl ?_
  | with_reducible refine er_notN_int ?_
  | with_reducible refine er_notN_str ?_
  | with_reducible refine er_notN_ref ?_
  | with_reducible refine er_isN ?_
  | with_reducible refine er_notN ?_
  | with_reducible refine ec_int ?_
  | with_reducible refine ec_max2 ?_
  | with_reducible refine ec_min2 ?_
  | with_reducible refine ip_I ?_
  | ((with_reducible refine eg_name ?_); (try dsimp only [L2.wipe, List.set_cons_zero, List.set_cons_succ]))
  | with_reducible refine eg_sub ?_
  | with_reducible refine egs_cons ?_
  | with_reducible refine egs_nil ?_
  | with_reducible refine tru_bl ?_
  | with_reducible refine tru_int ?_
  | with_reducible refine tru_non ?_
  | with_reducible refine iteT ?_
  | with_reducible refine iteF ?_
  | with_reducible refine ite_nt ?_
  | with_reducible refine ite_nf ?_
  | with_reducible refine ex_bl ?_
  | with_reducible refine ex_int ?_
  | with_reducible refine ex_str ?_
  | with_reducible refine ex_strx ?_
  | with_reducible refine ex_ints1 ?_
  | with_reducible refine ex_ints2 ?_)
local macro_rules | `(tactic| k_extra "t1") => `(tactic| first
  | with_reducible refine es_asg ?_
  | with_reducible refine es_if ?_
  | with_reducible refine es_ret ?_
  | with_reducible refine es_drop ?_
  | with_reducible refine es_augS ?_
  | with_reducible refine es_fld ?_)
local macro_rules | `(tactic| k_extra "e") => `(tactic| first
  | ((with_reducible refine es_seq ?_); (try k_extra "t1"); (repeat k_extra "e1"))
  | (k_extra "t1"; (repeat k_extra "e1"))
  | (k_extra "e1"; (repeat k_extra "e1"))
  | ((with_reducible refine es_unf ?_); (refine es_seq ?_); (try k_extra "t1"); (repeat k_extra "e1")))
/-! ### the law -/
def S__law_same (K : PySem.W.Frag) (A : Ad) : Pm := Sn__law_same K A 8
def S_law (K : PySem.W.Frag) (A : Ad) : Pm := fun vs G Q _ => ∃ (a : Addr) (ns : List Int), vs = [.ref a] ∧ SqL K G a (ns.map V.int) ∧ ns.length ≤ 63 ∧ ∀ G', Q (.bl true) G'
/-! law -/
def t_law_1 (K : PySem.W.Frag) (A : Ad) : TS := tSeq (tDrop (tBM K "list" (rAppend) (tVar 3) (tCons (tTup (tCons (tCB (rLenU K) (tCons (tVar 2) tNil)) (tCons (tVar 7) tNil))) tNil))) (tAsg (tOp (rAddU K) (tVar 2) (tVar 7)) (gName 2))
def t_law_2 (K : PySem.W.Frag) (A : Ad) : TS := tSeq (tIfS (tAnd (tTest (tOp (rEqU K) (tVar 6) (tOp (rSubI) (tVar 5) (tC (.int 1))))) (tTest (tOp (rEqU K) (tCall (up (S__law_next K A)) [] E0 (tCons (tVar 1) (tCons (tC (.int 2)) tNil))) (tC (.int 1))))) (tAsg (tSl (rSlU K) (tVar 7) tNoPart (tPart (tOp (rSubI) (tCB (rLenU K) (tCons (tVar 7) tNil)) (tC (.int 1))))) (gName 7)) tNext) (t_law_1 K A)
def t_law_3 (K : PySem.W.Frag) (A : Ad) : TS := tSeq (tAsg (tOp (rAddU K) (tOp (rAddU K) (tOp (rAddU K) (tCall (up (S__law_char K A)) [] E0 (tCons (tOp (rAddU K) (tC (.int 1)) (tCall (up (S__law_next K A)) [] E0 (tCons (tVar 1) (tCons (tC (.int 93)) tNil)))) tNil)) (tCall (up (S__law_line K A)) [] E0 (tCons (tVar 1) tNil))) (tC (.str "\n"))) (tCall (up (S__law_lines K A)) [] E0 (tCons (tVar 1) (tCons (tCall (up (S__law_next K A)) [] E0 (tCons (tVar 1) (tCons (tOp (rIx K) (tLst (tCons (tC (.int 4)) (tCons (tC (.int 9)) tNil))) (tCall (up (S__law_next K A)) [] E0 (tCons (tVar 1) (tCons (tC (.int 2)) tNil)))) tNil))) tNil)))) (gName 7)) (t_law_2 K A)
def t_law_4 (K : PySem.W.Frag) (A : Ad) : TS := tSeq (tIfS (tNot (tTru K (tCall (up (S__law_same K A)) [] E0 (tCons (tVar 8) (tCons (tVar 3) tNil))))) (tRet (tC (.bl false))) tNext) (tRet (tOp (rEqU K) (tOp (rAddU K) (tVar 4) (tM1 (rJoinU K) (tC (.str "")) (tLc (iList K (tVar 8)) (gTup K 2 (gCons (gName 9) (gCons (gName 7) gNil))) tYes (tVar 7) [9, 7]))) (tVar 2)))
def t_law_5 (K : PySem.W.Frag) (A : Ad) : TS := tSeq (tAsg (tCall (up (S_chunks K A)) [] E0 (tCons (tVar 2) tNil)) (gName 8)) (t_law_4 K A)
def t_law_6 (K : PySem.W.Frag) (A : Ad) : TS := tSeq (tFor (iRng1 (tCons (tVar 5) tNil)) (gName 6) (t_law_3 K A)) (t_law_5 K A)
def t_law_7 (K : PySem.W.Frag) (A : Ad) : TS := tSeq (tIfS (tTest (tOp (rEqU K) (tCall (up (S__law_next K A)) [] E0 (tCons (tVar 1) (tCons (tC (.int 6)) tNil))) (tC (.int 5)))) (tAsg (tOp (rAddU K) (tC (.int 60)) (tCall (up (S__law_next K A)) [] E0 (tCons (tVar 1) (tCons (tC (.int 90)) tNil)))) (gName 5)) tNext) (t_law_6 K A)
def t_law_8 (K : PySem.W.Frag) (A : Ad) : TS := tSeq (tAsg (tCall (up (S__law_next K A)) [] E0 (tCons (tVar 1) (tCons (tC (.int 13)) tNil))) (gName 5)) (t_law_7 K A)
def t_law_9 (K : PySem.W.Frag) (A : Ad) : TS := tSeq (tAsg (tVar 2) (gName 4)) (t_law_8 K A)
def t_law_10 (K : PySem.W.Frag) (A : Ad) : TS := tSeq (tAsg (tLst tNil) (gName 3)) (t_law_9 K A)
def t_law_11 (K : PySem.W.Frag) (A : Ad) : TS := tSeq (tAsg (tCall (up (S__law_lines K A)) [] E0 (tCons (tVar 1) (tCons (tCall (up (S__law_next K A)) [] E0 (tCons (tVar 1) (tCons (tC (.int 4)) tNil))) tNil))) (gName 2)) (t_law_10 K A)
def t_law (K : PySem.W.Frag) (A : Ad) : TS := tSeq (tAsg (tLst (tCons (tCB (rListU K) (tCons (tVar 0) tNil)) (tCons (tC (.int 0)) (tCons (tC (.int 0)) (tCons (tC (.int 1)) tNil))))) (gName 1)) (t_law_11 K A)
theorem len_law {K : PySem.W.Frag} {A : Ad} : ∀ vs G Q E, S_law K A vs G Q E → vs.length = ["script"].length := by
  rintro vs G Q E ⟨a, ns, rfl, _⟩; rfl
theorem flat_len : ∀ (E : List (Nat × List Nat)), ((E.map (·.2)).flatten).length = (E.map (fun x => x.2.length)).sum
  | [] => rfl
  | x :: r => by rw [List.map_cons, List.flatten_cons, List.length_append, flat_len r, List.map_cons, List.sum_cons]
theorem join_em : ∀ (E : List (Nat × List Nat)), TL.tl (Txt.join (Str.ofString "") (E.map fun x => (⟨x.2.toArray⟩ : Str))) = (E.map (·.2)).flatten := by
  intro E
  rw [TL.join_eq, TL.tl_join, em_str]
  have : ∀ l : List (List Nat), TL.joinL [] l = l.flatten := by
    intro l
    induction l with
    | nil => rfl
    | cons x r ih =>
      cases r with
      | nil => show x = x ++ []; rw [List.append_nil]
      | cons y r => show x ++ ([] ++ TL.joinL [] (y :: r)) = _; rw [ih]; rfl
  show TL.joinL [] _ = _
  rw [this, List.map_map]
  rfl
theorem encC_depth (E : List (Nat × List Nat)) : (PyData.list (E.map encC)).depth < 8 := by
  have h : ∀ E : List (Nat × List Nat), PyData.depthAll (E.map encC) ≤ 1 := by
    intro E
    induction E with
    | nil => exact Nat.zero_le _
    | cons x r ih =>
      rw [List.map_cons]
      simp only [PyData.depthAll]
      refine Nat.max_le.mpr ⟨?_, ih⟩
      simp [encC, PyData.depth, PyData.depthAll]
  simp only [PyData.depth]
  have := h E
  omega
theorem ok_law {K : PySem.W.Frag} {A : Ad} : ∀ vs G Q E, S_law K A vs G Q E → Es (t_law K A) { nx := fun _ G' => Q .non G', rt := Q } (L2.start ["script", "state", "text", "expected", "before", "count", "k", "chunk", "actual", "position"] vs) G := by
  rintro vs G Q E ⟨a0, ns, rfl, hS, hn, q⟩
  change Es _ _ (_ :: _ :: _ :: _ :: _ :: _ :: _ :: _ :: _ :: _ :: []) _
  k_extra "e"
  refine ec_list (.inl hS) fun l hl => ?_
  k_extra "e"
  refine ⟨sz1000 (by simp), fun a ha => ?_⟩
  have hP : StP K (upd (upd G l (.lst (ns.map V.int))) a (.lst [.ref l, .int 0, .int 0, .int 1])) a l ns 0 0 1 :=
    ⟨upd_same, get_new upd_same ha, ne_new upd_same ha, by omega, ⟨by decide, by omega, by decide, by decide, by decide⟩⟩
  generalize upd (upd G l (.lst (ns.map V.int))) a (.lst [.ref l, .int 0, .int 0, .int 1]) = G2 at hP ⊢
  -- text = _law_lines(state, _law_next(state, 4))
  k_extra "e"
  k_extra "e"
  refine nx_call hP (log2_ok (by decide) (by decide)) fun x p1 v1 r1 hx0 hx1 s1 => ?_
  k_extra "e"
  refine ⟨a, l, ns, p1, v1, r1, x, rfl, hP.put s1, hx0, by omega, fun before p2 v2 r2 hbl hbs hbb s2 => ?_⟩
  rw [upd_upd]
  k_extra "e"
  k_extra "e"
  refine ⟨Nat.zero_le _, fun pe hpe => ?_⟩
  have hpa : pe ≠ a := new_ne upd_same hpe
  have hpl : pe ≠ l := new_ne (hP.put s2).li hpe
  have hP3 := (hP.put s2).new (o := .lst []) hpe
  have hE3 : upd (upd G2 a (StG l p2 v2 r2)) pe (.lst []) pe = some (.lst []) := upd_same
  generalize upd (upd G2 a (StG l p2 v2 r2)) pe (.lst []) = G3 at hP3 hE3 ⊢
  k_extra "e"
  k_extra "e"
  k_extra "e"
  refine nx_call hP3 (log2_ok (by decide) (by decide)) fun n1 p3 v3 r3 hn0 hn1 s3 => ?_
  have hP4 := hP3.put s3
  have hE4 : upd G3 a (StG l p3 v3 r3) pe = some (.lst []) := get_ne hE3 hpa
  generalize upd G3 a (StG l p3 v3 r3) = G4 at hP4 hE4 ⊢
  -- from the loop on
  have main : ∀ (count : Int) (G : Hp) (p v r : Int), 0 ≤ count → count ≤ 149 → StP K G a l ns p v r → G pe = some (.lst []) →
      Es (t_law_6 K A) { nx := fun _ G' => Q .non G', rt := Q } [some (.ref a0), some (.ref a), some (.str before), some (.ref pe), some (.str before), some (.int count), none, none, none, none] G := by
    clear hP hP3 hE3 hP4 hE4 hS
    intro count G p v r hc0 hc1 hP hE
    k_extra "e"
    refine es_forR1 ?_
    k_extra "e"
    refine ⟨by omega, fun i σ G' => ∃ (text : Str) (E : List (Nat × List Nat)) (xs : List V) (p v r : Int) (c6 c7 : Option V),
      σ = [some (.ref a0), some (.ref a), some (.str text), some (.ref pe), some (.str before), some (.int count), c6, c7, none, none] ∧ StP K G' a l ns p v r ∧ G' pe = some (.lst xs) ∧ Ims K G' xs (E.map encC) ∧
      chunksM (TL.tl text) = E ∧ TL.tl text = TL.tl before ++ (E.map (·.2)).flatten ∧ text.length ≤ 1000 + 1000 * i ∧ E.length ≤ i ∧ ((i : Int) < count → bol true (TL.tl text) = true),
      ⟨before, [], [], p, v, r, none, none, rfl, hP, hE, .nil, chunksM_none (hbs 0), by simp, by omega, Nat.le_refl _, fun _ => hbb⟩, ?_, ?_⟩
    · rintro i σ G' hi ⟨text, E, xs, p, v, r, c6, c7, rfl, hP, hE, hI, hC, hT, hL, hEl, hB⟩
      have hB := hB hi
      -- the turn's end
      have fin : ∀ (ch : Str) (G : Hp) (p v r : Int), ch.length ≤ 950 → (∀ pos, starts pos true (TL.tl ch) = [pos]) → ((i : Int) + 1 < count → bol true (TL.tl ch) = true) → StP K G a l ns p v r → G pe = some (.lst xs) → Ims K G xs (E.map encC) →
          Es (t_law_1 K A) (Bd { nx := fun σ' G' => Es (t_law_5 K A) { nx := fun _ G' => Q .non G', rt := Q } σ' G', rt := Q } fun σ G' => ∃ (text : Str) (E : List (Nat × List Nat)) (xs : List V) (p v r : Int) (c6 c7 : Option V),
            σ = [some (.ref a0), some (.ref a), some (.str text), some (.ref pe), some (.str before), some (.int count), c6, c7, none, none] ∧ StP K G' a l ns p v r ∧ G' pe = some (.lst xs) ∧ Ims K G' xs (E.map encC) ∧
            chunksM (TL.tl text) = E ∧ TL.tl text = TL.tl before ++ (E.map (·.2)).flatten ∧ text.length ≤ 1000 + 1000 * (i + 1) ∧ E.length ≤ i + 1 ∧ (((i + 1 : Nat) : Int) < count → bol true (TL.tl text) = true))
            [some (.ref a0), some (.ref a), some (.str text), some (.ref pe), some (.str before), some (.int count), some (.int (i : Int)), some (.str ch), none, none] G := by
        intro ch G p v r h1 h2 h3 hP hE hI
        have hlx := ims_len hI
        rw [List.length_map] at hlx
        k_extra "e"
        refine ee_bm ?_
        k_extra "e"
        refine ⟨ty_lst hE, ?_⟩
        k_extra "e"
        refine ec_lenS (szM (by omega)) ?_
        k_extra "e"
        refine ⟨sz1000 (by simp), fun t ht => ?_⟩
        k_extra "e"
        refine em_append (get_new hE ht) (szlt (by omega)) ?_
        k_extra "e"
        refine er_addS (szM (by omega)) ?_
        refine eg_name ?_
        refine ⟨_, E ++ [(text.length, TL.tl ch)], _, p, v, r, _, _, rfl, ?_, upd_same, ?_, ?_, ?_, ?_, ?_, ?_⟩
        · exact (hP.new ht).mut hpa.symm hpl.symm
        · rw [List.map_append]
          have tx : Tx G (upd (upd G t (.tup [.int text.length, .str ch])) pe (.lst (xs ++ [.ref t]))) := (Ex.new ht).tx.trans (Tx.upd (noTup_lst (get_new hE ht)))
          refine ims_app (tx.ims hI) (ims_one ?_)
          refine .tup (SqT.of (get_ne upd_same (new_ne hE ht))) (.cons (.int _) (.cons ?_ .nil))
          exact .str ch
        · rw [TL.tl_append, chunksM_app hB h2, hC, TL.len_tl]
        · rw [TL.tl_append, hT, List.map_append, List.flatten_append, List.append_assoc]
          simp
        · rw [len_app]; omega
        · rw [List.length_append]; simp; omega
        · intro h
          rw [TL.tl_append, bol_app, hB]
          exact h3 (by omega)
      k_extra "e"
      refine nx_call hP (log2_ok (by decide) (by decide)) fun x1 p1 v1 r1 hx0 hx1 s1 => ?_
      k_extra "e"
      refine ⟨_, rfl, by omega, by omega, fun c hc10 hc32 => ?_⟩
      have hc32 := hc32 (by omega)
      k_extra "e"
      refine ⟨a, l, ns, p1, v1, r1, rfl, hP.put s1, fun line p2 v2 r2 hl1 hl2 s2 => ?_⟩
      rw [upd_upd]
      refine er_addS (by show 1 + line.length ≤ _; exact szM (by omega)) ?_
      k_extra "e"
      have hl3 : ((⟨#[c]⟩ : Str) ++ line).length = 1 + line.length := by rw [len_app]; rfl
      refine er_addS (by rw [hl3, nl_str]; show 1 + line.length + 1 ≤ _; exact szM (by omega)) ?_
      have hl4 : ((⟨#[c]⟩ : Str) ++ line ++ Str.ofString "\n").length = 2 + line.length := by rw [len_app, hl3, nl_str]; show 1 + line.length + 1 = _; omega
      k_extra "e"
      refine ⟨sz1000 (by simp), fun m hm => ?_⟩
      k_extra "e"
      refine nx_call ((hP.put s2).new hm) (log2_ok (by decide) (by decide)) fun x3 p3 v3 r3 hx30 hx31 s3 => ?_
      have nam : m ≠ a := new_ne upd_same hm
      obtain ⟨w, hw, hm2⟩ := menu [V.int 4, V.int 9] x3 hx30 (by simpa using hx31)
      refine er_ixL (SqL.of (get_ne upd_same nam)) hw ?_
      obtain ⟨n, rfl, hn⟩ : ∃ n, w = .int n ∧ (n = 4 ∨ n = 9) := by
        have hw2 : w = .int 4 ∨ w = .int 9 := by simpa using hm2
        rcases hw2 with rfl | rfl
        · exact ⟨_, rfl, .inl rfl⟩
        · exact ⟨_, rfl, .inr rfl⟩
      have ex : Ex (upd G' a (StG l p3 v3 r3)) (upd (upd (upd G' a (StG l p2 v2 r2)) m (.lst [V.int 4, V.int 9])) a (StG l p3 v3 r3)) := by
        have := ((Ex.new (o := .lst [V.int 4, V.int 9]) hm)).put (p := a) (o := StG l p3 v3 r3)
        rwa [upd_upd] at this
      refine Ea.weak ex ?_
      k_extra "e"
      refine nx_call (hP.put s3) (log2_ok (by omega) (by omega)) fun x4 p4 v4 r4 hx40 hx41 s4 => ?_
      rw [upd_upd]
      k_extra "e"
      refine ⟨a, l, ns, p4, v4, r4, x4, rfl, hP.put s4, hx40, by omega, fun lines p5 v5 r5 hll hls hlb s5 => ?_⟩
      rw [upd_upd]
      refine er_addS (by rw [hl4]; exact szM (by omega)) ?_
      k_extra "e"
      -- the chunk
      generalize hch : (⟨#[c]⟩ : Str) ++ line ++ Str.ofString "\n" ++ lines = ch
      have tch : TL.tl ch = c :: (TL.tl line ++ 10 :: TL.tl lines) := by
        rw [← hch, TL.tl_append, TL.tl_append, TL.tl_append, nl_str]
        simp [TL.tl]
      have lch : ch.length ≤ 950 := by rw [← hch, len_app, hl4]; omega
      have stc : ∀ pos, starts pos true (TL.tl ch) = [pos] := fun pos => by
        rw [tch]
        show (if true = true ∧ c ≠ 32 ∧ c ≠ 10 then [pos] else []) ++ starts (pos + 1) (c == 10) _ = _
        have e10 : (c == 10) = false := by simpa using hc10
        rw [if_pos ⟨rfl, hc32, hc10⟩, e10, starts_app, starts_line _ _ hl2, bol_line _ hl2]
        show [pos] ++ ([] ++ ((if false = true ∧ (10 : Nat) ≠ 32 ∧ (10 : Nat) ≠ 10 then _ else []) ++ starts _ true (TL.tl lines))) = _
        rw [if_neg (by simp), hls]; rfl
      have blc : bol true (TL.tl ch) = true := by
        rw [tch]
        show bol (c == 10) _ = true
        rw [bol_app]
        exact hlb
      have hP5 := hP.put s5
      have hE5 : upd G' a (StG l p5 v5 r5) pe = some (.lst xs) := get_ne hE hpa
      have hI5 : Ims K (upd G' a (StG l p5 v5 r5)) xs (E.map encC) := (Tx.upd (noTup_lst hP.at_)).ims hI
      generalize upd G' a (StG l p5 v5 r5) = G5 at hP5 hE5 hI5 ⊢
      clear hP hE hI
      k_extra "e"
      refine ifd (fun hk => ?_) (fun hk => ?_)
      · k_extra "e"
        refine nx_call hP5 (log2_ok (by decide) (by decide)) fun x6 p6 v6 r6 hx60 hx61 s6 => ?_
        k_extra "e"
        have hE6 : upd G5 a (StG l p6 v6 r6) pe = some (.lst xs) := get_ne hE5 hpa
        have hI6 : Ims K (upd G5 a (StG l p6 v6 r6)) xs (E.map encC) := (Tx.upd (noTup_lst hP5.at_)).ims hI5
        refine ifd (fun hk2 => ?_) (fun hk2 => ?_)
        · k_extra "e"
          refine ec_lenS (szM (by omega)) ?_
          k_extra "e"
          refine ew_S (szM (by omega)) ?_
          -- the chunk without its last character
          have hpos : ch.length = (TL.tl ch).length := TL.len_tl ch
          have hne : TL.tl ch ≠ [] := by rw [tch]; simp
          have hlp : 0 < ch.length := by rw [hpos]; exact List.length_pos_iff.mpr hne
          have e1 : cutS ch none (some ((ch.length : Int) - 1)) = ⟨(TL.tl ch).dropLast.toArray⟩ := by
            unfold cutS
            rw [show ((ch.length : Int) - 1) = ((ch.length - 1 : Nat) : Int) by omega, HT.sIx_nat, HT.sIx_none, Nat.min_eq_left (by omega), List.drop_zero, Nat.sub_zero, List.dropLast_eq_take, ← hpos]
          rw [e1]
          have hlast : TL.tl ch = (TL.tl ch).dropLast ++ [10] := by
            rcases List.eq_nil_or_concat (TL.tl ch) with h1 | ⟨m, x, h1⟩
            · exact absurd h1 hne
            · have h2 := blc
              rw [h1, List.concat_eq_append, bol_snoc] at h2
              rw [h1, List.concat_eq_append, List.dropLast_concat, eq_of_beq h2]
          refine eg_name ?_
          refine fin ⟨(TL.tl ch).dropLast.toArray⟩ _ p6 v6 r6 ?_ (fun pos => ?_) (fun h => by omega) (hP5.put s6) hE6 hI6
          · show (TL.tl ch).dropLast.toArray.size ≤ 950
            rw [List.size_toArray, List.length_dropLast]; omega
          · have := stc pos
            rw [hlast, starts_app] at this
            have h4 : starts (pos + (TL.tl ch).dropLast.length) (bol true (TL.tl ch).dropLast) [10] = [] := by
              show (if _ ∧ (10 : Nat) ≠ 32 ∧ (10 : Nat) ≠ 10 then _ else []) ++ [] = []
              rw [if_neg (by simp)]; rfl
            rw [h4, List.append_nil] at this
            exact this
        · refine es_next ?_
          exact fin ch _ p6 v6 r6 lch stc (fun _ => blc) (hP5.put s6) hE6 hI6
      · refine iteF ?_
        refine es_next ?_
        exact fin ch _ p5 v5 r5 lch stc (fun _ => blc) hP5 hE5 hI5
    · rintro σ G' ⟨text, E, xs, p, v, r, c6, c7, rfl, hP, hE, hI, hC, hT, hL, hEl, hB⟩
      have hL2 : text.length ≤ 150000 := by omega
      k_extra "e"
      refine ⟨text, rfl, by omega, fun p2 ys G2 ex np hp2 hI2 => ?_⟩
      k_extra "e"
      rw [hC] at hI2
      k_extra "e"
      refine ⟨_, _, .list (E.map encC), rfl, .lst (SqL.of hp2) hI2.dps, ex.dp (.lst (SqL.of hE) hI.dps), encC_depth E, ?_⟩
      k_extra "e"
      k_extra "e"
      refine ee_m1 ?_
      k_extra "e"
      refine ee_lcL ?_
      k_extra "e"
      have hly := ims_len hI2
      rw [List.length_map] at hly
      refine ⟨p2, ys, rfl, SqL.of hp2, fun d hd => ⟨fun i acc G' => Ex G2 G' ∧ G' d = none ∧ acc = ((E.take i).map fun x => V.str ⟨x.2.toArray⟩), ⟨Ex.refl _, hd, rfl⟩, ?_, ?_, ?_⟩⟩
      · rintro i acc G' ⟨h1, h2, rfl⟩
        refine ⟨h2, ?_, h1.sl (SqL.of hp2)⟩
        rw [List.length_map, List.length_take]
        exact szlt (by omega)
      · rintro i acc x G' hx ⟨h1, h2, rfl⟩
        obtain ⟨d', hd', kx⟩ := ims_get' hI2 hx
        rw [List.getElem?_map] at hd'
        obtain ⟨y, hy, rfl⟩ := Option.map_eq_some_iff.mp hd'
        obtain ⟨t, zs, rfl, ht, hz⟩ := im_tup kx
        cases hz with
        | cons k1 hz =>
          cases hz with
          | cons k2 hz =>
            cases hz
            cases k1
            cases k2
            refine eg_tup ((Ex.new h2).st (h1.st ht)) rfl ?_
            k_extra "e"
            refine ⟨rfl, et_yes (iteT ?_)⟩
            k_extra "e"
            refine ⟨upd_same, G', Ex.refl _, h1, h2, ?_⟩
            rw [List.take_add_one, hy, List.map_append]
            rfl
      · rintro acc G' ⟨h1, h2, rfl⟩
        rw [List.take_of_length_le (by omega)]
        have hsum : (((E.map fun x => (⟨x.2.toArray⟩ : Str)).map (·.length)).sum) ≤ 150000 := by
          rw [List.map_map]
          have h3 : (E.map ((fun x : Str => x.length) ∘ fun x => (⟨x.2.toArray⟩ : Str))) = E.map (fun x => x.2.length) := List.map_congr_left fun x _ => by show x.2.toArray.size = _; rw [List.size_toArray]
          rw [h3, ← flat_len]
          have := congrArg List.length hT
          rw [List.length_append, ← TL.len_tl] at this
          omega
        have hjl : (Txt.join (Str.ofString "") (E.map fun x => (⟨x.2.toArray⟩ : Str))).length ≤ 150000 := by
          rw [TL.len_tl, join_em, flat_len]
          rw [List.map_map] at hsum
          have h3 : (E.map ((fun x : Str => x.length) ∘ fun x => (⟨x.2.toArray⟩ : Str))) = E.map (fun x => x.2.length) := List.map_congr_left fun x _ => by show x.2.toArray.size = _; rw [List.size_toArray]
          rw [h3] at hsum
          exact hsum
        refine em_join (ys := E.map fun x => (⟨x.2.toArray⟩ : Str)) ?_ ?_ ?_
        · rw [List.map_map]; exact SqL.of upd_same
        · rw [em_str]
          show _ + _ * 0 ≤ _
          omega
        · refine er_addS (szM (by omega)) ?_
          k_extra "e"
          have : before ++ Txt.join (Str.ofString "") (E.map fun x => (⟨x.2.toArray⟩ : Str)) = text := TL.ext_tl (by rw [TL.tl_append, join_em, hT])
          rw [this, decide_eq_true rfl]
          exact q _
  k_extra "e"
  k_extra "e"
  refine nx_call hP4 (log2_ok (by decide) (by decide)) fun x p5 v5 r5 hx0 hx1 s5 => ?_
  have hP5 := hP4.put s5
  have hE5 : upd G4 a (StG l p5 v5 r5) pe = some (.lst []) := get_ne hE4 hpa
  k_extra "e"
  refine ifd (fun h => ?_) (fun h => ?_)
  · k_extra "e"
    refine nx_call hP5 (log2_ok (by decide) (by decide)) fun x p6 v6 r6 hx0 hx1 s6 => ?_
    k_extra "e"
    exact main _ _ p6 v6 r6 (by omega) (by omega) (hP5.put s6) (get_ne hE5 hpa)
  · refine es_next ?_
    exact main _ _ p5 v5 r5 hn0 (by omega) hP5 hE5
end Lw

namespace Lw
open PySem PySem.Spec PyProof.Rows L2
def topS (i : Nat) : Stmt := PySem.Challenge.pw_samemeant_k09_chunks_of_a_text.main.body.getD i (.Pass ⟨0, 0, 0, 0⟩)
abbrev s_line_starts : Stmt := topS 1
theorem sc_line_starts : FnScope ["text", "found", "position"] ["text"] (defScope s_line_starts) := ⟨rfl, rfl, rfl, by decide +kernel, rfl, by decide +kernel, by decide +kernel⟩
abbrev s_chunks : Stmt := topS 2
theorem sc_chunks : FnScope ["text", "starts", "ends", "start", "end"] ["text"] (defScope s_chunks) := ⟨rfl, rfl, rfl, by decide +kernel, rfl, by decide +kernel, by decide +kernel⟩
abbrev s__law_next : Stmt := topS 4
theorem sc__law_next : FnScope ["state", "limit", "cell", "value"] ["state", "limit"] (defScope s__law_next) := ⟨rfl, rfl, rfl, by decide +kernel, rfl, by decide +kernel, by decide +kernel⟩
abbrev s__law_same : Stmt := topS 5
theorem sc__law_same : FnScope ["actual", "expected", "k"] ["actual", "expected"] (defScope s__law_same) := ⟨rfl, rfl, rfl, by decide +kernel, rfl, by decide +kernel, by decide +kernel⟩
abbrev s__law_char : Stmt := topS 6
theorem sc__law_char : FnScope ["index", "chars"] ["index"] (defScope s__law_char) := ⟨rfl, rfl, rfl, by decide +kernel, rfl, by decide +kernel, by decide +kernel⟩
abbrev s__law_line : Stmt := topS 7
theorem sc__law_line : FnScope ["state", "line", "k"] ["state"] (defScope s__law_line) := ⟨rfl, rfl, rfl, by decide +kernel, rfl, by decide +kernel, by decide +kernel⟩
abbrev s__law_lines : Stmt := topS 8
theorem sc__law_lines : FnScope ["state", "count", "text", "k"] ["state", "count"] (defScope s__law_lines) := ⟨rfl, rfl, rfl, by decide +kernel, rfl, by decide +kernel, by decide +kernel⟩
abbrev s_law : Stmt := topS 9
theorem sc_law : FnScope ["script", "state", "text", "expected", "before", "count", "k", "chunk", "actual", "position"] ["script"] (defScope s_law) := ⟨rfl, rfl, rfl, by decide +kernel, rfl, by decide +kernel, by decide +kernel⟩
structure Facts (K : PySem.W.Frag) (mg : Str → Option Value) (A : Ad) : Prop where
  f_line_starts : Fnd K mg "line_starts" s_line_starts
  f_chunks : Fnd K mg "chunks" s_chunks
  f__law_next : Fnd K mg "_law_next" s__law_next
  f__law_same : Fnd K mg "_law_same" s__law_same
  f__law_char : Fnd K mg "_law_char" s__law_char
  f__law_line : Fnd K mg "_law_line" s__law_line
  f__law_lines : Fnd K mg "_law_lines" s__law_lines
  f_law : Fnd K mg "law" s_law
  b_bool : mg "bool" = none
  b_int : mg "int" = none
  b_isinstance : mg "isinstance" = none
  b_len : mg "len" = none
  b_list : mg "list" = none
  b_range : mg "range" = none
  b_str : mg "str" = none
  b_tuple : mg "tuple" = none
  b_zip : mg "zip" = none
section
variable {P : Program} {w : World} {K : PySem.W.Frag} {mg : Str → Option Value} {base : Heap} {A : Ad}
theorem has_line_starts (Z : Facts K mg A) : Has P w K mg base CX0 1 "line_starts" ["text"] (up (S_line_starts K A)) :=
  Has.mk0 (t := t_line_starts K A) Z.f_line_starts sc_line_starts (fun _ _ _ _ _ _ us hl => match us, hl with | [_], _ => rfl) len_line_starts
    (fun f cdv A0 outer s H E hr => (pss_cons (ps_set (i := 1) sc_line_starts.nd rfl (by first | exact Or.inl rfl | exact Or.inr rfl) (pe_lst pa_nil)) (pss_cons (ps_for PassesOwn.never rfl (pi_range1 (by rfl) Z.b_range (pa_cons (pe_callB call_lenU (by rfl) Z.b_len (by decide +kernel) (pa_cons (pv 0) pa_nil)) pa_nil)) (pg_name (i := 2) sc_line_starts.nd rfl (by first | exact Or.inl rfl | exact Or.inr rfl)) (pss_one (ps_if (PW.pt (pw_and (pt_cmpR (op_notInU (rm65 hr)) (pe_ix ix_seq (pv 0) (pv 2) (fun _ _ => rfl)) (pe_tup (pa_cons pe_str (pa_cons pe_str pa_nil))) (by rfl)) (pw_and1 (PW.pt (pw_or (pt_cmpR (op_eqU (rm64 hr)) (pv 2) pe_int (nomark _)) (pw_or1 (pt_cmpR (op_eqU (rm64 hr)) (pe_ix ix_seq (pv 0) (pe_op op_subI (pv 2) pe_int) (fun _ _ => rfl)) pe_str (nomark _)))))))) (pss_one (ps_expr (pe_bm PySem.F.plainAttrs_list PySem.F.slot_list_append PySem.F.type_list_append mt_append (pv 1) (pa_cons (pv 2) pa_nil)))) pss_nil))) (pss_one (ps_ret (pv 1))))))
    ok_line_starts
theorem has_chunks (Z : Facts K mg A) : Has P w K mg base CX0 2 "chunks" ["text"] (up (S_chunks K A)) :=
  Has.mk0 (t := t_chunks K A) Z.f_chunks sc_chunks (fun _ _ _ _ _ _ us hl => match us, hl with | [_], _ => rfl) len_chunks
    (fun f cdv A0 outer s H E hr => (pss_cons (ps_set (i := 1) sc_chunks.nd rfl (by first | exact Or.inl rfl | exact Or.inr rfl) (pe_callH (has_line_starts Z) (hr.mono (by decide)) (by rfl) pass0 (pa_cons (pv 0) pa_nil))) (pss_cons (ps_set (i := 2) sc_chunks.nd rfl (by first | exact Or.inl rfl | exact Or.inr rfl) (pe_op op_addU (pe_slice sl_U (pv 1) (po_some pe_int) po_none) (pe_lst (pa_cons (pe_callB call_lenU (by rfl) Z.b_len (by decide +kernel) (pa_cons (pv 0) pa_nil)) pa_nil)))) (pss_one (ps_ret (pe_lc (own := [("start", 3), ("end", 4)]) (g := (gTup K 2 (gCons (gName 3) (gCons (gName 4) gNil)))) (by rfl) sc_chunks.nd (pi_zip (by rfl) Z.b_zip (pa_cons (pv 1) (pa_cons (pv 2) pa_nil))) (blkOk_by (own := [("start", 3), ("end", 4)]) (N := ["text", "starts", "ends", "start", "end"]) (sc := defScope s_chunks) (by decide +kernel)) (fun _ _ _ _ _ => (pg_tup rfl (pgs_cons (pg_name (i := 3) sc_chunks.nd rfl (by first | exact Or.inl rfl | exact Or.inr rfl)) (pgs_cons (pg_name (i := 4) sc_chunks.nd rfl (by first | exact Or.inl rfl | exact Or.inr rfl)) pgs_nil)))) (fun _ _ _ _ _ => pts_nil) (fun _ _ _ _ _ => (pe_tup (pa_cons (pv 3) (pa_cons (pe_slice sl_U (pv 0) (po_some (pv 3)) (po_some (pv 4))) pa_nil))))))))))
    ok_chunks
theorem has__law_next (Z : Facts K mg A) : Has P w K mg base CX0 1 "_law_next" ["state", "limit"] (up (S__law_next K A)) :=
  Has.mk0 (t := t__law_next K A) Z.f__law_next sc__law_next (fun _ _ _ _ _ _ us hl => match us, hl with | [_, _], _ => rfl) len__law_next
    (fun f cdv A0 outer s H E hr => (pss_cons (ps_if (PW.pt (pw_and (pt_cmpR (op_eqU (rm64 hr)) (pe_ix ix_seq (pv 0) pe_int (fun _ _ => rfl)) pe_int (nomark _)) (pw_and1 (pt_cmpR (op_ltU (rm0 hr)) (pe_ix ix_seq (pv 0) pe_int (fun _ _ => rfl)) (pe_callB call_lenU (by rfl) Z.b_len (by decide +kernel) (pa_cons (pe_ix ix_seq (pv 0) pe_int (fun _ _ => rfl)) pa_nil)) (nomark _))))) (pss_cons (ps_set (i := 2) sc__law_next.nd rfl (by first | exact Or.inl rfl | exact Or.inr rfl) (pe_ix ix_seq (pe_ix ix_seq (pv 0) pe_int (fun _ _ => rfl)) (pe_ix ix_seq (pv 0) pe_int (fun _ _ => rfl)) (fun _ _ => rfl))) (pss_cons (ps_augS (pv 0) pe_int pget_list pe_int ip_add set_list) (pss_one (ps_if (pt_cmpR op_geU (pv 2) (pe_op op_powU pe_int pe_int) (nomark _)) (pss_one (ps_asg (pv 2) (pg_sub (pv 0) pe_int set_list))) (pss_one (ps_asg (pe_op op_modU (pe_callTy call_intU (by rfl) Z.b_int (by decide +kernel) (pa_cons (pe_op op_addU (pe_op op_addU (pe_op op_mulU (pe_ix ix_seq (pv 0) pe_int (fun _ _ => rfl)) pe_int) (pe_op op_modU (pe_callTy call_intU (by rfl) Z.b_int (by decide +kernel) (pa_cons (pv 2) pa_nil)) pe_int)) pe_int) pa_nil)) pe_int) (pg_sub (pv 0) pe_int set_list))))))) pss_nil) (pss_cons (ps_if (pt_cmpR op_gtU (pe_ix ix_seq (pv 0) pe_int (fun _ _ => rfl)) pe_int (nomark _)) (pss_cons (ps_set (i := 3) sc__law_next.nd rfl (by first | exact Or.inl rfl | exact Or.inr rfl) (pe_op op_modU (pe_callTy call_intU (by rfl) Z.b_int (by decide +kernel) (pa_cons (pe_ix ix_seq (pv 0) pe_int (fun _ _ => rfl)) pa_nil)) (pv 1))) (pss_cons (ps_asg (pe_op op_divU (pe_ix ix_seq (pv 0) pe_int (fun _ _ => rfl)) (pv 1)) (pg_sub (pv 0) pe_int set_list)) (pss_one (ps_ret (pv 3))))) pss_nil) (pss_cons (ps_asg (pe_op op_modU (pe_callTy call_intU (by rfl) Z.b_int (by decide +kernel) (pa_cons (pe_op op_addU (pe_op op_mulU (pe_ix ix_seq (pv 0) pe_int (fun _ _ => rfl)) pe_int) pe_int) pa_nil)) pe_int) (pg_sub (pv 0) pe_int set_list)) (pss_one (ps_ret (pe_op op_modU (pe_callTy call_intU (by rfl) Z.b_int (by decide +kernel) (pa_cons (pe_op op_divU (pe_ix ix_seq (pv 0) pe_int (fun _ _ => rfl)) pe_int) pa_nil)) (pv 1))))))))
    ok__law_next
theorem has__law_same_n (Z : Facts K mg A) : ∀ n : Nat, Has P w K mg base CX0 n "_law_same" ["actual", "expected"] (up (Sn__law_same K A n))
  | 0 => Has.never (ps := ["actual", "expected"]) Z.f__law_same (fun _ _ _ _ _ _ us hl => match us, hl with | [_, _], _ => rfl) no__law_same
  | n + 1 => by
    have h_rec := has__law_same_n Z n
    exact Has.mk0 (t := t__law_same K A (Sn__law_same K A n)) Z.f__law_same sc__law_same (fun _ _ _ _ _ _ us hl => match us, hl with | [_, _], _ => rfl) (len__law_same (n + 1))
      (fun f cdv A0 outer s H E hr => (pss_cons (ps_if (pt_cmpR op_isN1 (pv 1) pe_non (nomark _)) (pss_one (ps_ret (pe_cmpR op_isN1 (pv 0) pe_non (nomark _)))) pss_nil) (pss_cons (ps_if (pt_tru (pe_callB call_isiU (by rfl) Z.b_isinstance (by decide +kernel) (pa_cons (pv 1) (pa_cons (pe_bltn (v := .ty "bool") (by rfl) Z.b_bool (by decide +kernel) rfl) pa_nil)))) (pss_one (ps_ret (pe_and (pe_callB call_isiU (by rfl) Z.b_isinstance (by decide +kernel) (pa_cons (pv 0) (pa_cons (pe_bltn (v := .ty "bool") (by rfl) Z.b_bool (by decide +kernel) rfl) pa_nil))) (pe_one (pe_cmpR (op_eqU (rm64 hr)) (pv 0) (pv 1) (nomark _)))))) pss_nil) (pss_cons (ps_if (pt_tru (pe_callB call_isiU (by rfl) Z.b_isinstance (by decide +kernel) (pa_cons (pv 1) (pa_cons (pe_bltn (v := .ty "int") (by rfl) Z.b_int (by decide +kernel) rfl) pa_nil)))) (pss_one (ps_ret (pe_and (pe_callB call_isiU (by rfl) Z.b_isinstance (by decide +kernel) (pa_cons (pv 0) (pa_cons (pe_bltn (v := .ty "int") (by rfl) Z.b_int (by decide +kernel) rfl) pa_nil))) (pe_and (pe_not (pe_callB call_isiU (by rfl) Z.b_isinstance (by decide +kernel) (pa_cons (pv 0) (pa_cons (pe_bltn (v := .ty "bool") (by rfl) Z.b_bool (by decide +kernel) rfl) pa_nil)))) (pe_one (pe_cmpR (op_eqU (rm64 hr)) (pv 0) (pv 1) (nomark _))))))) pss_nil) (pss_cons (ps_if (pt_tru (pe_callB call_isiU (by rfl) Z.b_isinstance (by decide +kernel) (pa_cons (pv 1) (pa_cons (pe_bltn (v := .ty "str") (by rfl) Z.b_str (by decide +kernel) rfl) pa_nil)))) (pss_one (ps_ret (pe_and (pe_callB call_isiU (by rfl) Z.b_isinstance (by decide +kernel) (pa_cons (pv 0) (pa_cons (pe_bltn (v := .ty "str") (by rfl) Z.b_str (by decide +kernel) rfl) pa_nil))) (pe_one (pe_cmpR (op_eqU (rm64 hr)) (pv 0) (pv 1) (nomark _)))))) pss_nil) (pss_cons (ps_if (PW.pt (pw_and (pt_tru (pe_callB call_isiU (by rfl) Z.b_isinstance (by decide +kernel) (pa_cons (pv 1) (pa_cons (pe_bltn (v := .ty "tuple") (by rfl) Z.b_tuple (by decide +kernel) rfl) pa_nil)))) (pw_and1 (pt_not (pt_tru (pe_callB call_isiU (by rfl) Z.b_isinstance (by decide +kernel) (pa_cons (pv 0) (pa_cons (pe_bltn (v := .ty "tuple") (by rfl) Z.b_tuple (by decide +kernel) rfl) pa_nil)))))))) (pss_one (ps_ret pe_bl)) pss_nil) (pss_cons (ps_if (PW.pt (pw_and (pt_tru (pe_callB call_isiU (by rfl) Z.b_isinstance (by decide +kernel) (pa_cons (pv 1) (pa_cons (pe_bltn (v := .ty "list") (by rfl) Z.b_list (by decide +kernel) rfl) pa_nil)))) (pw_and1 (pt_not (pt_tru (pe_callB call_isiU (by rfl) Z.b_isinstance (by decide +kernel) (pa_cons (pv 0) (pa_cons (pe_bltn (v := .ty "list") (by rfl) Z.b_list (by decide +kernel) rfl) pa_nil)))))))) (pss_one (ps_ret pe_bl)) pss_nil) (pss_cons (ps_if (pt_cmpR (op_neU (rm64 hr)) (pe_callB call_lenU (by rfl) Z.b_len (by decide +kernel) (pa_cons (pv 0) pa_nil)) (pe_callB call_lenU (by rfl) Z.b_len (by decide +kernel) (pa_cons (pv 1) pa_nil)) (nomark _)) (pss_one (ps_ret pe_bl)) pss_nil) (pss_cons (ps_for PassesOwn.never rfl (pi_range1 (by rfl) Z.b_range (pa_cons (pe_callB call_lenU (by rfl) Z.b_len (by decide +kernel) (pa_cons (pv 1) pa_nil)) pa_nil)) (pg_name (i := 2) sc__law_same.nd rfl (by first | exact Or.inl rfl | exact Or.inr rfl)) (pss_one (ps_if (pt_not (pt_tru (pe_callH h_rec hr (by rfl) pass0 (pa_cons (pe_ix ix_seq (pv 0) (pv 2) (fun _ _ => rfl)) (pa_cons (pe_ix ix_seq (pv 1) (pv 2) (fun _ _ => rfl)) pa_nil))))) (pss_one (ps_ret pe_bl)) pss_nil))) (pss_one (ps_ret pe_bl)))))))))))
      (ok__law_same n)
theorem has__law_same (Z : Facts K mg A) : Has P w K mg base CX0 8 "_law_same" ["actual", "expected"] (up (S__law_same K A)) := has__law_same_n Z 8
theorem has__law_char (Z : Facts K mg A) : Has P w K mg base CX0 1 "_law_char" ["index"] (up (S__law_char K A)) :=
  Has.mk0 (t := t__law_char K A) Z.f__law_char sc__law_char (fun _ _ _ _ _ _ us hl => match us, hl with | [_], _ => rfl) len__law_char
    (fun f cdv A0 outer s H E hr => (pss_cons (ps_set (i := 1) sc__law_char.nd rfl (by first | exact Or.inl rfl | exact Or.inr rfl) pe_str) (pss_cons (ps_set (i := 1) sc__law_char.nd rfl (by first | exact Or.inl rfl | exact Or.inr rfl) (pe_op op_addU (pv 1) pe_str)) (pss_one (ps_ret (pe_ix ix_seq (pv 1) (pe_op op_modU (pe_callTy call_intU (by rfl) Z.b_int (by decide +kernel) (pa_cons (pv 0) pa_nil)) pe_int) (fun _ _ => rfl)))))))
    ok__law_char
theorem has__law_line (Z : Facts K mg A) : Has P w K mg base CX0 2 "_law_line" ["state"] (up (S__law_line K A)) :=
  Has.mk0 (t := t__law_line K A) Z.f__law_line sc__law_line (fun _ _ _ _ _ _ us hl => match us, hl with | [_], _ => rfl) len__law_line
    (fun f cdv A0 outer s H E hr => (pss_cons (ps_set (i := 1) sc__law_line.nd rfl (by first | exact Or.inl rfl | exact Or.inr rfl) pe_str) (pss_cons (ps_for PassesOwn.never rfl (pi_range1 (by rfl) Z.b_range (pa_cons (pe_callH (has__law_next Z) (hr.mono (by decide)) (by rfl) pass0 (pa_cons (pv 0) (pa_cons (pe_ix ix_seq (pe_lst (pa_cons pe_int (pa_cons pe_int (pa_cons pe_int (pa_cons pe_int pa_nil))))) (pe_callH (has__law_next Z) (hr.mono (by decide)) (by rfl) pass0 (pa_cons (pv 0) (pa_cons pe_int pa_nil))) (fun _ _ => rfl)) pa_nil))) pa_nil)) (pg_name (i := 2) sc__law_line.nd rfl (by first | exact Or.inl rfl | exact Or.inr rfl)) (pss_one (ps_set (i := 1) sc__law_line.nd rfl (by first | exact Or.inl rfl | exact Or.inr rfl) (pe_op op_addU (pv 1) (pe_callH (has__law_char Z) (hr.mono (by decide)) (by rfl) pass0 (pa_cons (pe_callH (has__law_next Z) (hr.mono (by decide)) (by rfl) pass0 (pa_cons (pv 0) (pa_cons pe_int pa_nil))) pa_nil)))))) (pss_one (ps_ret (pv 1))))))
    ok__law_line
theorem has__law_lines (Z : Facts K mg A) : Has P w K mg base CX0 3 "_law_lines" ["state", "count"] (up (S__law_lines K A)) :=
  Has.mk0 (t := t__law_lines K A) Z.f__law_lines sc__law_lines (fun _ _ _ _ _ _ us hl => match us, hl with | [_, _], _ => rfl) len__law_lines
    (fun f cdv A0 outer s H E hr => (pss_cons (ps_set (i := 2) sc__law_lines.nd rfl (by first | exact Or.inl rfl | exact Or.inr rfl) pe_str) (pss_cons (ps_for PassesOwn.never rfl (pi_range1 (by rfl) Z.b_range (pa_cons (pv 1) pa_nil)) (pg_name (i := 3) sc__law_lines.nd rfl (by first | exact Or.inl rfl | exact Or.inr rfl)) (pss_cons (ps_if (pt_cmpR op_gtU (pe_callH (has__law_next Z) (hr.mono (by decide)) (by rfl) pass0 (pa_cons (pv 0) (pa_cons pe_int pa_nil))) pe_int (nomark _)) (pss_one (ps_set (i := 2) sc__law_lines.nd rfl (by first | exact Or.inl rfl | exact Or.inr rfl) (pe_op op_addU (pe_op op_addU (pv 2) pe_str) (pe_callH (has__law_line Z) (hr.mono (by decide)) (by rfl) pass0 (pa_cons (pv 0) pa_nil))))) pss_nil) (pss_one (ps_set (i := 2) sc__law_lines.nd rfl (by first | exact Or.inl rfl | exact Or.inr rfl) (pe_op op_addU (pv 2) pe_str))))) (pss_one (ps_ret (pv 2))))))
    ok__law_lines
theorem has_law (Z : Facts K mg A) : Has P w K mg base CX0 9 "law" ["script"] (up (S_law K A)) :=
  Has.mk0 (t := t_law K A) Z.f_law sc_law (fun _ _ _ _ _ _ us hl => match us, hl with | [_], _ => rfl) len_law
    (fun f cdv A0 outer s H E hr => (pss_cons (ps_set (i := 1) sc_law.nd rfl (by first | exact Or.inl rfl | exact Or.inr rfl) (pe_lst (pa_cons (pe_callTy call_listU (by rfl) Z.b_list (by decide +kernel) (pa_cons (pv 0) pa_nil)) (pa_cons pe_int (pa_cons pe_int (pa_cons pe_int pa_nil)))))) (pss_cons (ps_set (i := 2) sc_law.nd rfl (by first | exact Or.inl rfl | exact Or.inr rfl) (pe_callH (has__law_lines Z) (hr.mono (by decide)) (by rfl) pass0 (pa_cons (pv 1) (pa_cons (pe_callH (has__law_next Z) (hr.mono (by decide)) (by rfl) pass0 (pa_cons (pv 1) (pa_cons pe_int pa_nil))) pa_nil)))) (pss_cons (ps_set (i := 3) sc_law.nd rfl (by first | exact Or.inl rfl | exact Or.inr rfl) (pe_lst pa_nil)) (pss_cons (ps_set (i := 4) sc_law.nd rfl (by first | exact Or.inl rfl | exact Or.inr rfl) (pv 2)) (pss_cons (ps_set (i := 5) sc_law.nd rfl (by first | exact Or.inl rfl | exact Or.inr rfl) (pe_callH (has__law_next Z) (hr.mono (by decide)) (by rfl) pass0 (pa_cons (pv 1) (pa_cons pe_int pa_nil)))) (pss_cons (ps_if (pt_cmpR (op_eqU (rm64 hr)) (pe_callH (has__law_next Z) (hr.mono (by decide)) (by rfl) pass0 (pa_cons (pv 1) (pa_cons pe_int pa_nil))) pe_int (nomark _)) (pss_one (ps_set (i := 5) sc_law.nd rfl (by first | exact Or.inl rfl | exact Or.inr rfl) (pe_op op_addU pe_int (pe_callH (has__law_next Z) (hr.mono (by decide)) (by rfl) pass0 (pa_cons (pv 1) (pa_cons pe_int pa_nil)))))) pss_nil) (pss_cons (ps_for PassesOwn.never rfl (pi_range1 (by rfl) Z.b_range (pa_cons (pv 5) pa_nil)) (pg_name (i := 6) sc_law.nd rfl (by first | exact Or.inl rfl | exact Or.inr rfl)) (pss_cons (ps_set (i := 7) sc_law.nd rfl (by first | exact Or.inl rfl | exact Or.inr rfl) (pe_op op_addU (pe_op op_addU (pe_op op_addU (pe_callH (has__law_char Z) (hr.mono (by decide)) (by rfl) pass0 (pa_cons (pe_op op_addU pe_int (pe_callH (has__law_next Z) (hr.mono (by decide)) (by rfl) pass0 (pa_cons (pv 1) (pa_cons pe_int pa_nil)))) pa_nil)) (pe_callH (has__law_line Z) (hr.mono (by decide)) (by rfl) pass0 (pa_cons (pv 1) pa_nil))) pe_str) (pe_callH (has__law_lines Z) (hr.mono (by decide)) (by rfl) pass0 (pa_cons (pv 1) (pa_cons (pe_callH (has__law_next Z) (hr.mono (by decide)) (by rfl) pass0 (pa_cons (pv 1) (pa_cons (pe_ix ix_seq (pe_lst (pa_cons pe_int (pa_cons pe_int pa_nil))) (pe_callH (has__law_next Z) (hr.mono (by decide)) (by rfl) pass0 (pa_cons (pv 1) (pa_cons pe_int pa_nil))) (fun _ _ => rfl)) pa_nil))) pa_nil))))) (pss_cons (ps_if (PW.pt (pw_and (pt_cmpR (op_eqU (rm64 hr)) (pv 6) (pe_op op_subI (pv 5) pe_int) (nomark _)) (pw_and1 (pt_cmpR (op_eqU (rm64 hr)) (pe_callH (has__law_next Z) (hr.mono (by decide)) (by rfl) pass0 (pa_cons (pv 1) (pa_cons pe_int pa_nil))) pe_int (nomark _))))) (pss_one (ps_set (i := 7) sc_law.nd rfl (by first | exact Or.inl rfl | exact Or.inr rfl) (pe_slice sl_U (pv 7) po_none (po_some (pe_op op_subI (pe_callB call_lenU (by rfl) Z.b_len (by decide +kernel) (pa_cons (pv 7) pa_nil)) pe_int))))) pss_nil) (pss_cons (ps_expr (pe_bm PySem.F.plainAttrs_list PySem.F.slot_list_append PySem.F.type_list_append mt_append (pv 3) (pa_cons (pe_tup (pa_cons (pe_callB call_lenU (by rfl) Z.b_len (by decide +kernel) (pa_cons (pv 2) pa_nil)) (pa_cons (pv 7) pa_nil))) pa_nil))) (pss_one (ps_set (i := 2) sc_law.nd rfl (by first | exact Or.inl rfl | exact Or.inr rfl) (pe_op op_addU (pv 2) (pv 7)))))))) (pss_cons (ps_set (i := 8) sc_law.nd rfl (by first | exact Or.inl rfl | exact Or.inr rfl) (pe_callH (has_chunks Z) (hr.mono (by decide)) (by rfl) pass0 (pa_cons (pv 2) pa_nil))) (pss_cons (ps_if (pt_not (pt_tru (pe_callH (has__law_same Z) (hr.mono (by decide)) (by rfl) pass0 (pa_cons (pv 8) (pa_cons (pv 3) pa_nil))))) (pss_one (ps_ret pe_bl)) pss_nil) (pss_one (ps_ret (pe_cmpR (op_eqU (rm64 hr)) (pe_op op_addU (pv 4) (pe_m1 PySem.F.slot_str_join PySem.F.type_str_join mt_joinU pe_str (pe_lc (own := [("position", 9), ("chunk", 7)]) (g := (gTup K 2 (gCons (gName 9) (gCons (gName 7) gNil)))) (by rfl) sc_law.nd (pi_list (pv 8)) (blkOk_by (own := [("position", 9), ("chunk", 7)]) (N := ["script", "state", "text", "expected", "before", "count", "k", "chunk", "actual", "position"]) (sc := defScope s_law) (by decide +kernel)) (fun _ _ _ _ _ => (pg_tup rfl (pgs_cons (pg_name (i := 9) sc_law.nd rfl (by first | exact Or.inl rfl | exact Or.inr rfl)) (pgs_cons (pg_name (i := 7) sc_law.nd rfl (by first | exact Or.inl rfl | exact Or.inr rfl)) pgs_nil)))) (fun _ _ _ _ _ => pts_nil) (fun _ _ _ _ _ => (pv 7))))) (pv 2) (nomark _))))))))))))))
    ok_law
end
def Ad0 : Ad := ⟨()⟩
theorem law_sp {K : PySem.W.Frag} {A : Ad} {H : Hp} {a : Addr} {ns : List Int} (hl : ns.length ≤ 63) (hS : SqL K H a (ns.map V.int)) : up (S_law K A) [.ref a] H (fun v _ => v = .bl true) (fun _ _ _ => False) :=
  ⟨H, fun v _ => v = .bl true, fun _ _ _ => False, Ex.refl _, ⟨a, ns, rfl, hS, hl, fun _ => rfl⟩, fun _ _ _ _ q => q, fun _ _ _ _ _ z => z⟩
theorem all_mk {l : PySem.W.OpenLaw} {w : World} {K : PySem.W.Frag} {h : Heap} {mg : Str → Option Value} {fa : Addr} {A : Ad} (X : K.In h) (G : h.Ns mainGlobals mg) (hfa : mg "law" = some (.ref fa))
    {f0 : Addr} {od0 an0 : Option Addr} {sl0 : Array (Option Value)} {oc0 kV0 dc0 pm0 cd0 ct0 : Value}
    {f1 : Addr} {od1 an1 : Option Addr} {sl1 : Array (Option Value)} {oc1 kV1 dc1 pm1 cd1 ct1 : Value}
    {f2 : Addr} {od2 an2 : Option Addr} {sl2 : Array (Option Value)} {oc2 kV2 dc2 pm2 cd2 ct2 : Value}
    {f3 : Addr} {od3 an3 : Option Addr} {sl3 : Array (Option Value)} {oc3 kV3 dc3 pm3 cd3 ct3 : Value}
    {f4 : Addr} {od4 an4 : Option Addr} {sl4 : Array (Option Value)} {oc4 kV4 dc4 pm4 cd4 ct4 : Value}
    {f5 : Addr} {od5 an5 : Option Addr} {sl5 : Array (Option Value)} {oc5 kV5 dc5 pm5 cd5 ct5 : Value}
    {f6 : Addr} {od6 an6 : Option Addr} {sl6 : Array (Option Value)} {oc6 kV6 dc6 pm6 cd6 ct6 : Value}
    {f7 : Addr} {od7 an7 : Option Addr} {sl7 : Array (Option Value)} {oc7 kV7 dc7 pm7 cd7 ct7 : Value}
    (a0 : PySem.W.nsIn K mainGlobals "line_starts" = some (some (.ref f0)))
    (l0 : K.lookup f0 = some ⟨oc0, od0, .func (PySem.W.fnOf "line_starts" "line_starts" (defArgs s_line_starts) (defBody s_line_starts) (defScope s_line_starts) .none kV0 dc0 pm0 an0 cd0 ct0), sl0⟩)
    (c0 : PySem.W.codeIn K cd0 "line_starts" = true)
    (k0 : PySem.W.keepIn K (.ref f0) = true)
    (a1 : PySem.W.nsIn K mainGlobals "chunks" = some (some (.ref f1)))
    (l1 : K.lookup f1 = some ⟨oc1, od1, .func (PySem.W.fnOf "chunks" "chunks" (defArgs s_chunks) (defBody s_chunks) (defScope s_chunks) .none kV1 dc1 pm1 an1 cd1 ct1), sl1⟩)
    (c1 : PySem.W.codeIn K cd1 "chunks" = true)
    (k1 : PySem.W.keepIn K (.ref f1) = true)
    (a2 : PySem.W.nsIn K mainGlobals "_law_next" = some (some (.ref f2)))
    (l2 : K.lookup f2 = some ⟨oc2, od2, .func (PySem.W.fnOf "_law_next" "_law_next" (defArgs s__law_next) (defBody s__law_next) (defScope s__law_next) .none kV2 dc2 pm2 an2 cd2 ct2), sl2⟩)
    (c2 : PySem.W.codeIn K cd2 "_law_next" = true)
    (k2 : PySem.W.keepIn K (.ref f2) = true)
    (a3 : PySem.W.nsIn K mainGlobals "_law_same" = some (some (.ref f3)))
    (l3 : K.lookup f3 = some ⟨oc3, od3, .func (PySem.W.fnOf "_law_same" "_law_same" (defArgs s__law_same) (defBody s__law_same) (defScope s__law_same) .none kV3 dc3 pm3 an3 cd3 ct3), sl3⟩)
    (c3 : PySem.W.codeIn K cd3 "_law_same" = true)
    (k3 : PySem.W.keepIn K (.ref f3) = true)
    (a4 : PySem.W.nsIn K mainGlobals "_law_char" = some (some (.ref f4)))
    (l4 : K.lookup f4 = some ⟨oc4, od4, .func (PySem.W.fnOf "_law_char" "_law_char" (defArgs s__law_char) (defBody s__law_char) (defScope s__law_char) .none kV4 dc4 pm4 an4 cd4 ct4), sl4⟩)
    (c4 : PySem.W.codeIn K cd4 "_law_char" = true)
    (k4 : PySem.W.keepIn K (.ref f4) = true)
    (a5 : PySem.W.nsIn K mainGlobals "_law_line" = some (some (.ref f5)))
    (l5 : K.lookup f5 = some ⟨oc5, od5, .func (PySem.W.fnOf "_law_line" "_law_line" (defArgs s__law_line) (defBody s__law_line) (defScope s__law_line) .none kV5 dc5 pm5 an5 cd5 ct5), sl5⟩)
    (c5 : PySem.W.codeIn K cd5 "_law_line" = true)
    (k5 : PySem.W.keepIn K (.ref f5) = true)
    (a6 : PySem.W.nsIn K mainGlobals "_law_lines" = some (some (.ref f6)))
    (l6 : K.lookup f6 = some ⟨oc6, od6, .func (PySem.W.fnOf "_law_lines" "_law_lines" (defArgs s__law_lines) (defBody s__law_lines) (defScope s__law_lines) .none kV6 dc6 pm6 an6 cd6 ct6), sl6⟩)
    (c6 : PySem.W.codeIn K cd6 "_law_lines" = true)
    (k6 : PySem.W.keepIn K (.ref f6) = true)
    (a7 : PySem.W.nsIn K mainGlobals "law" = some (some (.ref f7)))
    (l7 : K.lookup f7 = some ⟨oc7, od7, .func (PySem.W.fnOf "law" "law" (defArgs s_law) (defBody s_law) (defScope s_law) .none kV7 dc7 pm7 an7 cd7 ct7), sl7⟩)
    (c7 : PySem.W.codeIn K cd7 "law" = true)
    (k7 : PySem.W.keepIn K (.ref f7) = true)
    (z_bool : PySem.W.nsIn K mainGlobals "bool" = some none)
    (z_int : PySem.W.nsIn K mainGlobals "int" = some none)
    (z_isinstance : PySem.W.nsIn K mainGlobals "isinstance" = some none)
    (z_len : PySem.W.nsIn K mainGlobals "len" = some none)
    (z_list : PySem.W.nsIn K mainGlobals "list" = some none)
    (z_range : PySem.W.nsIn K mainGlobals "range" = some none)
    (z_str : PySem.W.nsIn K mainGlobals "str" = some none)
    (z_tuple : PySem.W.nsIn K mainGlobals "tuple" = some none)
    (z_zip : PySem.W.nsIn K mainGlobals "zip" = some none) :
    ∃ fd : FuncData, (∀ (s : Shared) (v : Value), BindsTo s fd ⟨[v], []⟩ [("script", v)]) ∧ ∀ base : Heap, K.In base → base.Ns mainGlobals mg → FnOk l.prog w K mg base CX0 9 fa fd ["script"] (up (S_law K A)) := by
  have e := hfa.symm.trans (PySem.W.mg_of X G a7)
  cases e
  have Z : Facts K mg A := ⟨⟨⟨_, _, PySem.W.mg_of X G a0, fun_mk (st := s_line_starts) l0 c0 k0⟩⟩,
    ⟨⟨_, _, PySem.W.mg_of X G a1, fun_mk (st := s_chunks) l1 c1 k1⟩⟩,
    ⟨⟨_, _, PySem.W.mg_of X G a2, fun_mk (st := s__law_next) l2 c2 k2⟩⟩,
    ⟨⟨_, _, PySem.W.mg_of X G a3, fun_mk (st := s__law_same) l3 c3 k3⟩⟩,
    ⟨⟨_, _, PySem.W.mg_of X G a4, fun_mk (st := s__law_char) l4 c4 k4⟩⟩,
    ⟨⟨_, _, PySem.W.mg_of X G a5, fun_mk (st := s__law_line) l5 c5 k5⟩⟩,
    ⟨⟨_, _, PySem.W.mg_of X G a6, fun_mk (st := s__law_lines) l6 c6 k6⟩⟩,
    ⟨⟨_, _, PySem.W.mg_of X G a7, fun_mk (st := s_law) l7 c7 k7⟩⟩,
    PySem.W.mg_none_of X G z_bool,
    PySem.W.mg_none_of X G z_int,
    PySem.W.mg_none_of X G z_isinstance,
    PySem.W.mg_none_of X G z_len,
    PySem.W.mg_none_of X G z_list,
    PySem.W.mg_none_of X G z_range,
    PySem.W.mg_none_of X G z_str,
    PySem.W.mg_none_of X G z_tuple,
    PySem.W.mg_none_of X G z_zip⟩
  refine ⟨PySem.W.fnOf "law" "law" (defArgs s_law) (defBody s_law) (defScope s_law) .none kV7 dc7 pm7 an7 cd7 ct7, fun s v => .of_eq rfl, fun base _ _ => ?_⟩
  obtain ⟨f, fd, hm, F⟩ := Z.f_law.ex
  have e := hm.symm.trans (PySem.W.mg_of X G a7)
  cases e
  exact fnok0 (t := t_law K A) (fun_mk (st := s_law) l7 c7 k7) sc_law len_law (fun f cdv A0 outer s H E hr => (pss_cons (ps_set (i := 1) sc_law.nd rfl (by first | exact Or.inl rfl | exact Or.inr rfl) (pe_lst (pa_cons (pe_callTy call_listU (by rfl) Z.b_list (by decide +kernel) (pa_cons (pv 0) pa_nil)) (pa_cons pe_int (pa_cons pe_int (pa_cons pe_int pa_nil)))))) (pss_cons (ps_set (i := 2) sc_law.nd rfl (by first | exact Or.inl rfl | exact Or.inr rfl) (pe_callH (has__law_lines Z) (hr.mono (by decide)) (by rfl) pass0 (pa_cons (pv 1) (pa_cons (pe_callH (has__law_next Z) (hr.mono (by decide)) (by rfl) pass0 (pa_cons (pv 1) (pa_cons pe_int pa_nil))) pa_nil)))) (pss_cons (ps_set (i := 3) sc_law.nd rfl (by first | exact Or.inl rfl | exact Or.inr rfl) (pe_lst pa_nil)) (pss_cons (ps_set (i := 4) sc_law.nd rfl (by first | exact Or.inl rfl | exact Or.inr rfl) (pv 2)) (pss_cons (ps_set (i := 5) sc_law.nd rfl (by first | exact Or.inl rfl | exact Or.inr rfl) (pe_callH (has__law_next Z) (hr.mono (by decide)) (by rfl) pass0 (pa_cons (pv 1) (pa_cons pe_int pa_nil)))) (pss_cons (ps_if (pt_cmpR (op_eqU (rm64 hr)) (pe_callH (has__law_next Z) (hr.mono (by decide)) (by rfl) pass0 (pa_cons (pv 1) (pa_cons pe_int pa_nil))) pe_int (nomark _)) (pss_one (ps_set (i := 5) sc_law.nd rfl (by first | exact Or.inl rfl | exact Or.inr rfl) (pe_op op_addU pe_int (pe_callH (has__law_next Z) (hr.mono (by decide)) (by rfl) pass0 (pa_cons (pv 1) (pa_cons pe_int pa_nil)))))) pss_nil) (pss_cons (ps_for PassesOwn.never rfl (pi_range1 (by rfl) Z.b_range (pa_cons (pv 5) pa_nil)) (pg_name (i := 6) sc_law.nd rfl (by first | exact Or.inl rfl | exact Or.inr rfl)) (pss_cons (ps_set (i := 7) sc_law.nd rfl (by first | exact Or.inl rfl | exact Or.inr rfl) (pe_op op_addU (pe_op op_addU (pe_op op_addU (pe_callH (has__law_char Z) (hr.mono (by decide)) (by rfl) pass0 (pa_cons (pe_op op_addU pe_int (pe_callH (has__law_next Z) (hr.mono (by decide)) (by rfl) pass0 (pa_cons (pv 1) (pa_cons pe_int pa_nil)))) pa_nil)) (pe_callH (has__law_line Z) (hr.mono (by decide)) (by rfl) pass0 (pa_cons (pv 1) pa_nil))) pe_str) (pe_callH (has__law_lines Z) (hr.mono (by decide)) (by rfl) pass0 (pa_cons (pv 1) (pa_cons (pe_callH (has__law_next Z) (hr.mono (by decide)) (by rfl) pass0 (pa_cons (pv 1) (pa_cons (pe_ix ix_seq (pe_lst (pa_cons pe_int (pa_cons pe_int pa_nil))) (pe_callH (has__law_next Z) (hr.mono (by decide)) (by rfl) pass0 (pa_cons (pv 1) (pa_cons pe_int pa_nil))) (fun _ _ => rfl)) pa_nil))) pa_nil))))) (pss_cons (ps_if (PW.pt (pw_and (pt_cmpR (op_eqU (rm64 hr)) (pv 6) (pe_op op_subI (pv 5) pe_int) (nomark _)) (pw_and1 (pt_cmpR (op_eqU (rm64 hr)) (pe_callH (has__law_next Z) (hr.mono (by decide)) (by rfl) pass0 (pa_cons (pv 1) (pa_cons pe_int pa_nil))) pe_int (nomark _))))) (pss_one (ps_set (i := 7) sc_law.nd rfl (by first | exact Or.inl rfl | exact Or.inr rfl) (pe_slice sl_U (pv 7) po_none (po_some (pe_op op_subI (pe_callB call_lenU (by rfl) Z.b_len (by decide +kernel) (pa_cons (pv 7) pa_nil)) pe_int))))) pss_nil) (pss_cons (ps_expr (pe_bm PySem.F.plainAttrs_list PySem.F.slot_list_append PySem.F.type_list_append mt_append (pv 3) (pa_cons (pe_tup (pa_cons (pe_callB call_lenU (by rfl) Z.b_len (by decide +kernel) (pa_cons (pv 2) pa_nil)) (pa_cons (pv 7) pa_nil))) pa_nil))) (pss_one (ps_set (i := 2) sc_law.nd rfl (by first | exact Or.inl rfl | exact Or.inr rfl) (pe_op op_addU (pv 2) (pv 7)))))))) (pss_cons (ps_set (i := 8) sc_law.nd rfl (by first | exact Or.inl rfl | exact Or.inr rfl) (pe_callH (has_chunks Z) (hr.mono (by decide)) (by rfl) pass0 (pa_cons (pv 2) pa_nil))) (pss_cons (ps_if (pt_not (pt_tru (pe_callH (has__law_same Z) (hr.mono (by decide)) (by rfl) pass0 (pa_cons (pv 8) (pa_cons (pv 3) pa_nil))))) (pss_one (ps_ret pe_bl)) pss_nil) (pss_one (ps_ret (pe_cmpR (op_eqU (rm64 hr)) (pe_op op_addU (pv 4) (pe_m1 PySem.F.slot_str_join PySem.F.type_str_join mt_joinU pe_str (pe_lc (own := [("position", 9), ("chunk", 7)]) (g := (gTup K 2 (gCons (gName 9) (gCons (gName 7) gNil)))) (by rfl) sc_law.nd (pi_list (pv 8)) (blkOk_by (own := [("position", 9), ("chunk", 7)]) (N := ["script", "state", "text", "expected", "before", "count", "k", "chunk", "actual", "position"]) (sc := defScope s_law) (by decide +kernel)) (fun _ _ _ _ _ => (pg_tup rfl (pgs_cons (pg_name (i := 9) sc_law.nd rfl (by first | exact Or.inl rfl | exact Or.inr rfl)) (pgs_cons (pg_name (i := 7) sc_law.nd rfl (by first | exact Or.inl rfl | exact Or.inr rfl)) pgs_nil)))) (fun _ _ _ _ _ => pts_nil) (fun _ _ _ _ _ => (pv 7))))) (pv 2) (nomark _)))))))))))))) ok_law
end Lw
open PySem PySem.W PyProof.Rows
set_option maxRecDepth 100000 in
set_option maxHeartbeats 0 in
theorem PySem.Challenge.cw_samemeant_k09_chunks_of_a_text_holds : PySem.Challenge.rw_samemeant_k09_chunks_of_a_text.Holds := by
  w_on; o_law; k_head; (case hw => w_witness2)
  k_fill
  refine L2.walk_of (l := PySem.Challenge.rw_samemeant_k09_chunks_of_a_text) (n := 63) (k := 9) (x := "script") (CX := fun _ => L2.CX0) (sp := fun w => Lw.up (Lw.S_law _ Lw.Ad0)) rfl (by decide) rfl ⟨rfl, by decide, by decide⟩ (fun w h Y => PySem.W.kIn_of Y) ?F (fun _ H a ns hl _ hS => Lw.law_sp hl hS) (fun _ _ _ _ _ h => h)
  case F =>
    intro w mg fa h KX G hmg
    refine' Lw.all_mk (A := Lw.Ad0) KX G hmg ?a0 ?l0 ?c0 ?k0 ?a1 ?l1 ?c1 ?k1 ?a2 ?l2 ?c2 ?k2 ?a3 ?l3 ?c3 ?k3 ?a4 ?l4 ?c4 ?k4 ?a5 ?l5 ?c5 ?k5 ?a6 ?l6 ?c6 ?k6 ?a7 ?l7 ?c7 ?k7 ?z_bool ?z_int ?z_isinstance ?z_len ?z_list ?z_range ?z_str ?z_tuple ?z_zip
    (case a0 => k_is)
    (case l0 => k_is)
    (case c0 => k_is)
    (case k0 => k_is)
    (case a1 => k_is)
    (case l1 => k_is)
    (case c1 => k_is)
    (case k1 => k_is)
    (case a2 => k_is)
    (case l2 => k_is)
    (case c2 => k_is)
    (case k2 => k_is)
    (case a3 => k_is)
    (case l3 => k_is)
    (case c3 => k_is)
    (case k3 => k_is)
    (case a4 => k_is)
    (case l4 => k_is)
    (case c4 => k_is)
    (case k4 => k_is)
    (case a5 => k_is)
    (case l5 => k_is)
    (case c5 => k_is)
    (case k5 => k_is)
    (case a6 => k_is)
    (case l6 => k_is)
    (case c6 => k_is)
    (case k6 => k_is)
    (case a7 => k_is)
    (case l7 => k_is)
    (case c7 => k_is)
    (case k7 => k_is)
    (case z_bool => k_is)
    (case z_int => k_is)
    (case z_isinstance => k_is)
    (case z_len => k_is)
    (case z_list => k_is)
    (case z_range => k_is)
    (case z_str => k_is)
    (case z_tuple => k_is)
    (case z_zip => k_is)
