import PyProof.Rows.All
import Wide.All
import OpenK.AllK
import Wide.FinOn
import HandS.ForMost
import HandS.ForExc
import HandS.Walk
import HandS.Steps
import HandS.Deep
import HandS.IsInst
import HandS.Wide
import HandS.SortKw
import HandS.Lambda
import HandS.More
import PySem.Challenge.RW_samemeant_k10_files_keep_a_beginning
set_option Elab.async false
set_option linter.all false
set_option maxRecDepth 100000
set_option maxHeartbeats 1000000
namespace Lw
open PySem PySem.Spec PyProof.Rows L2

/-! ## known heaps: G is what is known of the heap H -/
def Ex (G H : Hp) : Prop := ∀ a o, G a = some o → H a = some o
theorem Ex.refl (H : Hp) : Ex H H := fun _ _ h => h
theorem Ex.trans {G H I : Hp} (a : Ex G H) (b : Ex H I) : Ex G I := fun x o h => b x o (a x o h)
theorem Ex.get {G H : Hp} {a : Addr} {o : HO} (e : Ex G H) (h : G a = some o) : H a = some o := e a o h
theorem Ex.nul {G H : Hp} {a : Addr} (e : Ex G H) (h : H a = none) : G a = none := by
  cases q : G a with
  | none => rfl
  | some o => rw [e a o q] at h; cases h
theorem Ex.new {H : Hp} {p : Addr} {o : HO} (h : H p = none) : Ex H (upd H p o) := fun a u e => by
  rw [upd_ne (ne_of_none e h)]; exact e
theorem Ex.mut {G H : Hp} {p : Addr} {o : HO} (e : Ex G H) (h : G p = none) : Ex G (upd H p o) := fun a u ha => by
  rw [upd_ne (ne_of_none ha h)]; exact e a u ha
theorem Ex.put {G H : Hp} {p : Addr} {o : HO} (e : Ex G H) : Ex (upd G p o) (upd H p o) := fun a u ha => by
  by_cases q : a = p
  · subst q; rw [upd_same] at ha ⊢; exact ha
  · rw [upd_ne q] at ha ⊢; exact e a u ha
theorem Ex.putL {G H : Hp} {p : Addr} {o : HO} (e : Ex G H) (h : H p = some o) : Ex (upd G p o) H := fun a u ha => by
  by_cases q : a = p
  · subst q; rw [upd_same] at ha; cases ha; exact h
  · rw [upd_ne q] at ha; exact e a u ha
theorem Ex.rd {G H : Hp} {a : Addr} {u : HO} (e : Ex G H) (h : Rd G a u) : Rd H a u := by
  rcases h with h | ⟨o, h⟩
  · exact .inl (e a _ h)
  · exact .inr ⟨o, e a _ h⟩
theorem Ex.sl {K : PySem.W.Frag} {G H : Hp} {a : Addr} {xs : List V} (e : Ex G H) (h : SqL K G a xs) : SqL K H a xs := by
  rcases h with h | h
  · exact .inl (e.rd h)
  · exact .inr h
theorem Ex.st {K : PySem.W.Frag} {G H : Hp} {a : Addr} {xs : List V} (e : Ex G H) (h : SqT K G a xs) : SqT K H a xs := by
  rcases h with h | h
  · exact .inl (e.rd h)
  · exact .inr h
mutual
theorem Ex.dp {K : PySem.W.Frag} {G H : Hp} (e : Ex G H) : ∀ {v : V} {d : PyData}, Dp K G v d → Dp K H v d
  | _, _, .non => .non
  | _, _, .bl b => .bl b
  | _, _, .int i => .int i
  | _, _, .str x => .str x
  | _, _, .lst s h => .lst (e.sl s) (e.dps h)
  | _, _, .tup s h => .tup (e.st s) (e.dps h)
theorem Ex.dps {K : PySem.W.Frag} {G H : Hp} (e : Ex G H) : ∀ {v : List V} {d : List PyData}, DpAll K G v d → DpAll K H v d
  | _, _, .nil => .nil
  | _, _, .cons h t => .cons (e.dp h) (e.dps t)
end

/-! ## the judgements over known heaps -/
def Ee (te : TE) (σ : L2.St) (G : Hp) (Q : V → Hp → Prop) : Prop := ∀ (H : Hp) (Q' : VK), Ex G H → (∀ v G' H', Ex G' H' → Q v G' → Q' v H') → te σ H Q'
def Et (t : TT) (σ : L2.St) (G : Hp) (Q : Bool → Hp → Prop) : Prop := ∀ (H : Hp) (Q' : Bool → Hp → Prop), Ex G H → (∀ v G' H', Ex G' H' → Q v G' → Q' v H') → t σ H Q'
def Ea (t : TA) (σ : L2.St) (G : Hp) (Q : List V → Hp → Prop) : Prop := ∀ (H : Hp) (Q' : List V → Hp → Prop), Ex G H → (∀ v G' H', Ex G' H' → Q v G' → Q' v H') → t σ H Q'
def Eo (t : TO) (σ : L2.St) (G : Hp) (Q : Option Int → Hp → Prop) : Prop := ∀ (H : Hp) (Q' : Option Int → Hp → Prop), Ex G H → (∀ v G' H', Ex G' H' → Q v G' → Q' v H') → t σ H Q'
def Er (r : R2) (x y : V) (G : Hp) (Q : V → Hp → Prop) : Prop := ∀ (H : Hp) (Q' : VK), Ex G H → (∀ v G' H', Ex G' H' → Q v G' → Q' v H') → r x y H Q'
def Eu (r : V → Hp → VK → Prop) (x : V) (G : Hp) (Q : V → Hp → Prop) : Prop := ∀ (H : Hp) (Q' : VK), Ex G H → (∀ v G' H', Ex G' H' → Q v G' → Q' v H') → r x H Q'
def Ec (r : List V → Hp → VK → Prop) (x : List V) (G : Hp) (Q : V → Hp → Prop) : Prop := ∀ (H : Hp) (Q' : VK), Ex G H → (∀ v G' H', Ex G' H' → Q v G' → Q' v H') → r x H Q'
def Em (r : V → List V → Hp → VK → Prop) (x : V) (xs : List V) (G : Hp) (Q : V → Hp → Prop) : Prop := ∀ (H : Hp) (Q' : VK), Ex G H → (∀ v G' H', Ex G' H' → Q v G' → Q' v H') → r x xs H Q'
def Ew (r : V → Option Int → Option Int → Hp → VK → Prop) (x : V) (lo hi : Option Int) (G : Hp) (Q : V → Hp → Prop) : Prop := ∀ (H : Hp) (Q' : VK), Ex G H → (∀ v G' H', Ex G' H' → Q v G' → Q' v H') → r x lo hi H Q'
def Eg (g : TG) (v : V) (σ : L2.St) (G : Hp) (Q : L2.St → Hp → Prop) : Prop := ∀ (H : Hp) (Q' : L2.St → Hp → Prop), Ex G H → (∀ σ' G' H', Ex G' H' → Q σ' G' → Q' σ' H') → g v σ H Q'
def Egs (g : TGs) (v : List V) (σ : L2.St) (G : Hp) (Q : L2.St → Hp → Prop) : Prop := ∀ (H : Hp) (Q' : L2.St → Hp → Prop), Ex G H → (∀ σ' G' H', Ex G' H' → Q σ' G' → Q' σ' H') → g v σ H Q'
def Ez (t : TSet) (o i v : V) (G : Hp) (Q : Hp → Prop) : Prop := ∀ (H : Hp) (Q' : Hp → Prop), Ex G H → (∀ G' H', Ex G' H' → Q G' → Q' H') → t o i v H Q'
def Eip (t : TIp) (x y : V) (G : Hp) (Q : V → Hp → Prop) : Prop := ∀ (H : Hp) (Q' : VK), Ex G H → (∀ v G' H', Ex G' H' → Q v G' → Q' v H') → t x y H Q'
/-- what is wanted behind a statement, over known heaps -/
structure Ek where
  nx : L2.St → Hp → Prop
  rt : V → Hp → Prop
  bk : L2.St → Hp → Prop := fun _ _ => False
  ct : L2.St → Hp → Prop := fun _ _ => False
structure Lf (D : Ek) (D' : Ends) : Prop where
  nx : ∀ σ G H, Ex G H → D.nx σ G → D'.nx σ H
  rt : ∀ v G H, Ex G H → D.rt v G → D'.rt v H
  bk : ∀ σ G H, Ex G H → D.bk σ G → D'.bk σ H
  ct : ∀ σ G H, Ex G H → D.ct σ G → D'.ct σ H
def Es (t : TS) (D : Ek) (σ : L2.St) (G : Hp) : Prop := ∀ (H : Hp) (D' : Ends), Ex G H → Lf D D' → t D' σ H

section
variable {σ : L2.St} {G G' : Hp} {Q : V → Hp → Prop} {D : Ek}
theorem Es.weak {t : TS} (e : Ex G G') (h : Es t D σ G) : Es t D σ G' := fun H D' x l => h H D' (e.trans x) l
theorem Ea.weak {t : TA} {Q : List V → Hp → Prop} (e : Ex G G') (h : Ea t σ G Q) : Ea t σ G' Q := fun H D' x l => h H D' (e.trans x) l
theorem Ee.weak {t : TE} (e : Ex G G') (h : Ee t σ G Q) : Ee t σ G' Q := fun H D' x l => h H D' (e.trans x) l
theorem Ee.mono {t : TE} {Q2 : V → Hp → Prop} (h : Ee t σ G Q) (q : ∀ v G, Q v G → Q2 v G) : Ee t σ G Q2 := fun H D' x l => h H D' x fun v G' H' e z => l v G' H' e (q v G' z)

/-! ### names, constants, arguments -/
theorem ee_var {i : Nat} {v : V} (h : σ[i]? = some (some v)) (q : Q v G) : Ee (tVar i) σ G Q := fun H Q' e l => ⟨v, h, l v G H e q⟩
theorem ee_c {v : V} (q : Q v G) : Ee (tC v) σ G Q := fun H Q' e l => l v G H e q
theorem ea_nil {Q : List V → Hp → Prop} (q : Q [] G) : Ea tNil σ G Q := fun H Q' e l => l [] G H e q
theorem ea_cons {ta : TE} {tr : TA} {Q : List V → Hp → Prop} (h : Ee ta σ G fun x G1 => Ea tr σ G1 fun xs G2 => Q (x :: xs) G2) : Ea (tCons ta tr) σ G Q := fun H Q' e l =>
  h H _ e fun x G1 H1 e1 h1 => h1 H1 _ e1 fun xs G2 H2 e2 h2 => l (x :: xs) G2 H2 e2 h2
/-! ### operators -/
theorem ee_op {r : R2} {ta tb : TE} (h : Ee ta σ G fun x G1 => Ee tb σ G1 fun y G2 => Er r x y G2 Q) : Ee (tOp r ta tb) σ G Q := fun H Q' e l =>
  h H _ e fun x G1 H1 e1 h1 => h1 H1 _ e1 fun y G2 H2 e2 h2 => h2 H2 Q' e2 l
theorem ee_un {r : V → Hp → VK → Prop} {ta : TE} (h : Ee ta σ G fun x G1 => Eu r x G1 Q) : Ee (tUn r ta) σ G Q := fun H Q' e l =>
  h H _ e fun x G1 H1 e1 h1 => h1 H1 Q' e1 l
theorem eu_neg {i : Int} (q : Q (.int (-i)) G) : Eu (rU fun i => .int (-i)) (.int i) G Q := fun H Q' e l => ⟨i, rfl, l _ G H e q⟩
theorem er_I0 {g : Int → Int → V} {i j : Int} (q : Q (g i j) G) : Er (rI0 g) (.int i) (.int j) G Q := fun H Q' e l => ⟨i, j, rfl, rfl, l _ G H e q⟩
theorem er_I {C : Int → Int → Prop} {g : Int → Int → V} {i j : Int} (c : C i j) (q : Q (g i j) G) : Er (rI C g) (.int i) (.int j) G Q := fun H Q' e l => ⟨i, j, rfl, rfl, c, l _ G H e q⟩
/-- by cases -/
def rOr (r r' : R2) : R2 := fun x y H Q => r x y H Q ∨ r' x y H Q
theorem er_orL {r r' : R2} {x y : V} (h : Er r x y G Q) : Er (rOr r r') x y G Q := fun H Q' e l => .inl (h H Q' e l)
theorem er_orR {r r' : R2} {x y : V} (h : Er r' x y G Q) : Er (rOr r r') x y G Q := fun H Q' e l => .inr (h H Q' e l)
theorem opr_or {X : Cx} {f : Value → Value → Sem Value} {r r' : R2} (h : OpR X f r) (h' : OpR X f r') : OpR X f (rOr r r') := h.or h'
/-! plus -/
def rIAdd : R2 := rI0 fun i j => .int (i + j)
def rSAdd : R2 := fun x y H Q => ∃ i j, x = .str i ∧ y = .str j ∧ i.length + j.length ≤ sizeLine ∧ Q (.str (i ++ j)) H
def rAddU (K : PySem.W.Frag) : R2 := rOr rIAdd (rOr rSAdd (rOr rCat (rCatT K)))
theorem op_addU {X : Cx} : OpR X (binaryOp .Add) (rAddU X.K) := opr_or op_add (opr_or op_add_str (opr_or op_cat op_catT))
theorem er_addI {K : PySem.W.Frag} {i j : Int} (q : Q (.int (i + j)) G) : Er (rAddU K) (.int i) (.int j) G Q := er_orL (er_I0 (g := fun i j => .int (i + j)) q)
theorem er_addS {K : PySem.W.Frag} {i j : Str} (hz : i.length + j.length ≤ sizeLine) (q : Q (.str (i ++ j)) G) : Er (rAddU K) (.str i) (.str j) G Q :=
  er_orR (er_orL fun H Q' e l => ⟨i, j, rfl, rfl, hz, l _ G H e q⟩)
theorem er_addL {K : PySem.W.Frag} {a b : Addr} {xs ys : List V} (ha : G a = some (.lst xs)) (hb : G b = some (.lst ys)) (hz : xs.length + ys.length ≤ sizeLine) (q : ∀ p, G p = none → Q (.ref p) (upd G p (.lst (xs ++ ys)))) :
    Er (rAddU K) (.ref a) (.ref b) G Q :=
  er_orR (er_orR (er_orL fun H Q' e l => ⟨a, b, xs, ys, rfl, rfl, e _ _ ha, e _ _ hb, hz, fun p hp => l _ _ _ e.put (q p (e.nul hp))⟩))
theorem er_addT {K : PySem.W.Frag} {a b : Addr} {xs ys : List V} (ha : SqT K G a xs) (hb : SqT K G b ys) (hx : xs ≠ []) (hy : ys ≠ []) (hz : xs.length + ys.length ≤ sizeLine) (q : ∀ p, G p = none → Q (.ref p) (upd G p (.tup (xs ++ ys)))) :
    Er (rAddU K) (.ref a) (.ref b) G Q :=
  er_orR (er_orR (er_orR fun H Q' e l => ⟨a, b, xs, ys, rfl, rfl, e.st ha, e.st hb, hx, hz, fun h => absurd h hy, fun _ p hp => l _ _ _ e.put (q p (e.nul hp))⟩))
/-! minus, times, floor, rest, power -/
def rSubI : R2 := rI0 fun i j => .int (i - j)
theorem op_subI {X : Cx} : OpR X (binaryOp .Sub) rSubI := op_sub
theorem er_subI {i j : Int} (q : Q (.int (i - j)) G) : Er rSubI (.int i) (.int j) G Q := er_I0 (g := fun i j => .int (i - j)) q
def rMulI : R2 := rOr (rI CMul fun i j => .int (i * j)) (rI CMulW fun i j => .int (i * j))
def rMulU : R2 := rOr rMulI rRep
theorem op_mulU {X : Cx} : OpR X (binaryOp .Mult) rMulU := opr_or (opr_or op_mul op_mulW) op_rep
theorem er_mulL {i j : Int} (h : -(2 ^ 64) < i ∧ i < 2 ^ 64) (q : Q (.int (i * j)) G) : Er rMulU (.int i) (.int j) G Q := er_orL (er_orL (er_I (C := CMul) (g := fun i j => .int (i * j)) (.inl h) q))
theorem er_mulR {i j : Int} (h : -(2 ^ 64) < j ∧ j < 2 ^ 64) (q : Q (.int (i * j)) G) : Er rMulU (.int i) (.int j) G Q := er_orL (er_orL (er_I (C := CMul) (g := fun i j => .int (i * j)) (.inr h) q))
theorem er_mulW {i j : Int} (h : CMulW i j) (q : Q (.int (i * j)) G) : Er rMulU (.int i) (.int j) G Q := er_orL (er_orR (er_I (C := CMulW) (g := fun i j => .int (i * j)) h q))
theorem er_rep {a : Addr} {k : Int} {xs : List V} (ha : G a = some (.lst xs)) (h1 : -(2 ^ 63) ≤ k) (h2 : k < 2 ^ 63) (hz : xs.length * k.toNat ≤ sizeLine) (q : ∀ p, G p = none → Q (.ref p) (upd G p (.lst (List.replicate k.toNat xs).flatten))) :
    Er rMulU (.ref a) (.int k) G Q := er_orR fun H Q' e l => ⟨a, k, xs, rfl, rfl, e _ _ ha, h1, h2, hz, fun p hp => l _ _ _ e.put (q p (e.nul hp))⟩
def rDivU : R2 := rOr (rI CDiv fun i j => .int (i / j)) (rI CDivW fun i j => .int (i / j))
theorem op_divU {X : Cx} : OpR X (binaryOp .FloorDiv) rDivU := opr_or op_fdiv op_fdivW
theorem er_div {i j : Int} (h : 0 < j ∧ j < 1073741824) (q : Q (.int (i / j)) G) : Er rDivU (.int i) (.int j) G Q := er_orL (er_I (C := CDiv) (g := fun i j => .int (i / j)) h q)
theorem er_divW {i j : Int} (h : CDivW i j) (q : Q (.int (i / j)) G) : Er rDivU (.int i) (.int j) G Q := er_orR (er_I (C := CDivW) (g := fun i j => .int (i / j)) h q)
def rModU : R2 := rI (fun _ j => 0 < j) fun i j => .int (i % j)
theorem op_modU {X : Cx} : OpR X (binaryOp .Mod) rModU := op_mod
theorem er_mod {i j : Int} (h : 0 < j) (q : Q (.int (i % j)) G) : Er rModU (.int i) (.int j) G Q := er_I (C := fun _ j => 0 < j) (g := fun i j => .int (i % j)) h q
def rPowU : R2 := rI CPow fun i j => .int (i ^ j.toNat)
theorem op_powU {X : Cx} : OpR X (binaryOp .Pow) rPowU := op_pow
theorem er_pow {i j : Int} (h : 0 ≤ j ∧ j ≤ 1000000 ∧ i.natAbs < 2 ^ 64) (q : Q (.int (i ^ j.toNat)) G) : Er rPowU (.int i) (.int j) G Q := er_I (C := CPow) (g := fun i j => .int (i ^ j.toNat)) h q
/-! comparisons -/
def rEqU (K : PySem.W.Frag) : R2 := rOr rEq (rEqD K)
def rNeU (K : PySem.W.Frag) : R2 := rOr rNe (rNeD K)
theorem op_eqU {X : Cx} (hu : X.A.units + 64 < cLine) : OpR X (compareOp .Eq) (rEqU X.K) := opr_or op_eq (op_eqD hu)
theorem op_neU {X : Cx} (hu : X.A.units + 64 < cLine) : OpR X (compareOp .NotEq) (rNeU X.K) := opr_or op_ne (op_neD hu)
theorem er_eqI {K : PySem.W.Frag} {i j : Int} (q : Q (.bl (decide (i = j))) G) : Er (rEqU K) (.int i) (.int j) G Q := er_orL fun H Q' e l => ⟨rfl, l _ G H e (by
  rw [show decide (V.int i = V.int j) = decide (i = j) by rw [dec_int]; exact Bool.beq_eq_decide_eq i j]; exact q)⟩
theorem er_neI {K : PySem.W.Frag} {i j : Int} (q : Q (.bl (!decide (i = j))) G) : Er (rNeU K) (.int i) (.int j) G Q := er_orL fun H Q' e l => ⟨rfl, l _ G H e (by
  rw [show decide (V.int i = V.int j) = decide (i = j) by rw [dec_int]; exact Bool.beq_eq_decide_eq i j]; exact q)⟩
theorem er_eqS {K : PySem.W.Frag} {i j : Str} (q : Q (.bl (decide (i = j))) G) : Er (rEqU K) (.str i) (.str j) G Q := er_orL fun H Q' e l => ⟨rfl, l _ G H e (by
  rw [show decide (V.str i = V.str j) = decide (i = j) by by_cases h : i = j <;> simp [h]]; exact q)⟩
theorem er_neS {K : PySem.W.Frag} {i j : Str} (q : Q (.bl (!decide (i = j))) G) : Er (rNeU K) (.str i) (.str j) G Q := er_orL fun H Q' e l => ⟨rfl, l _ G H e (by
  rw [show decide (V.str i = V.str j) = decide (i = j) by by_cases h : i = j <;> simp [h]]; exact q)⟩
theorem er_eqB {K : PySem.W.Frag} {i j : Bool} (q : Q (.bl (decide (i = j))) G) : Er (rEqU K) (.bl i) (.bl j) G Q := er_orL fun H Q' e l => ⟨rfl, l _ G H e (by
  rw [show decide (V.bl i = V.bl j) = decide (i = j) by by_cases h : i = j <;> simp [h]]; exact q)⟩
theorem er_neB {K : PySem.W.Frag} {i j : Bool} (q : Q (.bl (!decide (i = j))) G) : Er (rNeU K) (.bl i) (.bl j) G Q := er_orL fun H Q' e l => ⟨rfl, l _ G H e (by
  rw [show decide (V.bl i = V.bl j) = decide (i = j) by by_cases h : i = j <;> simp [h]]; exact q)⟩
theorem er_eqD {K : PySem.W.Frag} {x y : V} {d d' : PyData} (h : Dp K G x d) (h' : Dp K G y d') (s : SeqAt.shaped d = true) (s' : SeqAt.shaped d' = true) (q : Q (.bl (PyData.eqv d d')) G) : Er (rEqU K) x y G Q :=
  er_orR fun H Q' e l => ⟨d, d', e.dp h, e.dp h', s, s', l _ G H e q⟩
theorem er_neD {K : PySem.W.Frag} {x y : V} {d d' : PyData} (h : Dp K G x d) (h' : Dp K G y d') (s : SeqAt.shaped d = true) (s' : SeqAt.shaped d' = true) (q : Q (.bl (!PyData.eqv d d')) G) : Er (rNeU K) x y G Q :=
  er_orR fun H Q' e l => ⟨d, d', e.dp h, e.dp h', s, s', l _ G H e q⟩
def rLtI : R2 := rI0 fun i j => .bl (decide (i < j))
def rLeI : R2 := rI0 fun i j => .bl (decide (i ≤ j))
def rGtI : R2 := rI0 fun i j => .bl (decide (j < i))
def rGeI : R2 := rI0 fun i j => .bl (decide (j ≤ i))
def rLtU (K : PySem.W.Frag) : R2 := rOr rLtI (rLtT K)
theorem op_ltU {X : Cx} (hu : X.A.units < cLine) : OpR X (compareOp .Lt) (rLtU X.K) := opr_or op_lt (op_ltT hu)
theorem op_leU {X : Cx} : OpR X (compareOp .LtE) rLeI := op_le
theorem op_gtU {X : Cx} : OpR X (compareOp .Gt) rGtI := op_gt
theorem op_geU {X : Cx} : OpR X (compareOp .GtE) rGeI := op_ge
theorem er_lt {K : PySem.W.Frag} {i j : Int} (q : Q (.bl (decide (i < j))) G) : Er (rLtU K) (.int i) (.int j) G Q := er_orL (er_I0 (g := fun i j => .bl (decide (i < j))) q)
theorem er_le {i j : Int} (q : Q (.bl (decide (i ≤ j))) G) : Er rLeI (.int i) (.int j) G Q := er_I0 (g := fun i j => .bl (decide (i ≤ j))) q
theorem er_gt {i j : Int} (q : Q (.bl (decide (j < i))) G) : Er rGtI (.int i) (.int j) G Q := er_I0 (g := fun i j => .bl (decide (j < i))) q
theorem er_ge {i j : Int} (q : Q (.bl (decide (j ≤ i))) G) : Er rGeI (.int i) (.int j) G Q := er_I0 (g := fun i j => .bl (decide (j ≤ i))) q
theorem er_isN {x : V} (q : Q (.bl (decide (x = .non))) G) : Er rIsN x .non G Q := fun H Q' e l => ⟨rfl, l _ G H e q⟩
theorem er_notN {x : V} (q : Q (.bl (!decide (x = .non))) G) : Er rNotN x .non G Q := fun H Q' e l => ⟨rfl, l _ G H e q⟩
def rInU (K : PySem.W.Frag) : R2 := rOr (rIn K false) (rInD K)
def rNotInU (K : PySem.W.Frag) : R2 := rOr (rIn K true) (rNotInD K)
theorem op_inU {X : Cx} (hu : X.A.units + 65 < cLine) : OpR X (compareOp .In) (rInU X.K) := opr_or op_in_seq (op_inD hu)
theorem op_notInU {X : Cx} (hu : X.A.units + 65 < cLine) : OpR X (compareOp .NotIn) (rNotInU X.K) := opr_or op_notIn_seq (op_notInD hu)
theorem er_in {K : PySem.W.Frag} {x : V} {p : Addr} {xs : List V} (h : SqL K G p xs ∨ SqT K G p xs) (fx : flatV x = true) (fs : xs.all flatV = true) (q : Q (.bl (inV x xs)) G) : Er (rInU K) x (.ref p) G Q :=
  er_orL fun H Q' e l => ⟨p, xs, rfl, h.elim (fun z => .inl (e.sl z)) (fun z => .inr (e.st z)), fx, fs, l _ G H e q⟩
theorem er_notIn {K : PySem.W.Frag} {x : V} {p : Addr} {xs : List V} (h : SqL K G p xs ∨ SqT K G p xs) (fx : flatV x = true) (fs : xs.all flatV = true) (q : Q (.bl (!inV x xs)) G) : Er (rNotInU K) x (.ref p) G Q :=
  er_orL fun H Q' e l => ⟨p, xs, rfl, h.elim (fun z => .inl (e.sl z)) (fun z => .inr (e.st z)), fx, fs, l _ G H e q⟩
theorem er_inD {K : PySem.W.Frag} {x y : V} {d : PyData} {ds : List PyData} (h : Dp K G x d) (h' : Dp K G y (.list ds)) (s : SeqAt.shaped d = true) (s' : SeqAt.shaped (.list ds) = true) (q : Q (.bl (ds.any fun z => PyData.eqv z d)) G) : Er (rInU K) x y G Q :=
  er_orR fun H Q' e l => ⟨d, ds, e.dp h, e.dp h', s, s', l _ G H e q⟩
theorem er_notInD {K : PySem.W.Frag} {x y : V} {d : PyData} {ds : List PyData} (h : Dp K G x d) (h' : Dp K G y (.list ds)) (s : SeqAt.shaped d = true) (s' : SeqAt.shaped (.list ds) = true) (q : Q (.bl (!ds.any fun z => PyData.eqv z d)) G) : Er (rNotInU K) x y G Q :=
  er_orR fun H Q' e l => ⟨d, ds, e.dp h, e.dp h', s, s', l _ G H e q⟩
/-! subscripts -/
theorem er_ixL {K : PySem.W.Frag} {p : Addr} {i : Int} {xs : List V} {v : V} (h : SqL K G p xs) (a : atI xs i = some v) (q : Q v G) : Er (rIx K) (.ref p) (.int i) G Q :=
  fun H Q' e l => .inl ⟨p, xs, i, v, rfl, rfl, e.sl h, a, l _ G H e q⟩
theorem er_ixT {K : PySem.W.Frag} {p : Addr} {i : Int} {xs : List V} {v : V} (h : SqT K G p xs) (a : atI xs i = some v) (q : Q v G) : Er (rIx K) (.ref p) (.int i) G Q :=
  fun H Q' e l => .inr (.inl ⟨p, xs, i, v, rfl, rfl, e.st h, a, l _ G H e q⟩)
theorem er_ixS {K : PySem.W.Frag} {z : Str} {i : Int} {c : Nat} (h : z.length ≤ sizeLine) (a : atI z.cps.toList i = some c) (q : Q (.str ⟨#[c]⟩) G) : Er (rIx K) (.str z) (.int i) G Q :=
  fun H Q' e l => .inr (.inr ⟨z, i, c, rfl, rfl, h, a, l _ G H e q⟩)
/-! slices -/
def rwOr (r r' : V → Option Int → Option Int → Hp → VK → Prop) : V → Option Int → Option Int → Hp → VK → Prop := fun x lo hi H Q => r x lo hi H Q ∨ r' x lo hi H Q
def rSlU (K : PySem.W.Frag) := rwOr (rSlL K) rSlS
theorem sl_U {X : Cx} : SlR X (rSlU X.K) := sl_list.or sl_str
theorem ee_sl {r : V → Option Int → Option Int → Hp → VK → Prop} {te : TE} {tl th : TO} (h : Ee te σ G fun x G1 => Eo tl σ G1 fun lo G2 => Eo th σ G2 fun hi G3 => Ew r x lo hi G3 Q) : Ee (tSl r te tl th) σ G Q := fun H Q' e l =>
  h H _ e fun x G1 H1 e1 h1 => h1 H1 _ e1 fun lo G2 H2 e2 h2 => h2 H2 _ e2 fun hi G3 H3 e3 h3 => h3 H3 Q' e3 l
theorem eo_no {Q : Option Int → Hp → Prop} (q : Q none G) : Eo tNoPart σ G Q := fun H Q' e l => l none G H e q
theorem eo_part {t : TE} {Q : Option Int → Hp → Prop} (h : Ee t σ G fun x G1 => ∃ i, x = .int i ∧ Q (some i) G1) : Eo (tPart t) σ G Q := fun H Q' e l =>
  h H _ e fun x G1 H1 e1 ⟨i, hx, q⟩ => ⟨i, hx, l (some i) G1 H1 e1 q⟩
theorem ew_L {K : PySem.W.Frag} {a : Addr} {xs : List V} {lo hi : Option Int} (h : SqL K G a xs) (q : ∀ p, G p = none → Q (.ref p) (upd G p (.lst (cutV xs lo hi)))) : Ew (rSlU K) (.ref a) lo hi G Q :=
  fun H Q' e l => .inl ⟨a, xs, rfl, e.sl h, fun p hp => l _ _ _ e.put (q p (e.nul hp))⟩
theorem ew_S {K : PySem.W.Frag} {z : Str} {lo hi : Option Int} (h : z.length ≤ sizeLine) (q : Q (.str (cutS z lo hi)) G) : Ew (rSlU K) (.str z) lo hi G Q :=
  fun H Q' e l => .inr ⟨z, rfl, h, l _ G H e q⟩
/-! displays -/
theorem ee_tup {t : TA} (h : Ea t σ G fun xs G1 => xs.length ≤ sizeLine ∧ ∀ p, G1 p = none → Q (.ref p) (upd G1 p (.tup xs))) : Ee (tTup t) σ G Q := fun H Q' e l =>
  h H _ e fun xs G1 H1 e1 ⟨z, q⟩ => ⟨z, fun p hp => l _ _ _ e1.put (q p (e1.nul hp))⟩
theorem ee_lst {t : TA} (h : Ea t σ G fun xs G1 => xs.length ≤ sizeLine ∧ ∀ p, G1 p = none → Q (.ref p) (upd G1 p (.lst xs))) : Ee (tLst t) σ G Q := fun H Q' e l =>
  h H _ e fun xs G1 H1 e1 ⟨z, q⟩ => ⟨z, fun p hp => l _ _ _ e1.put (q p (e1.nul hp))⟩
/-! tests -/
theorem et_test {te : TE} {Q : Bool → Hp → Prop} (h : Ee te σ G fun v G1 => ∃ b, v = .bl b ∧ Q b G1) : Et (tTest te) σ G Q := fun H Q' e l =>
  h H _ e fun v G1 H1 e1 ⟨b, hb, q⟩ => ⟨b, hb, l b G1 H1 e1 q⟩
theorem et_tB {te : TE} {Q : Bool → Hp → Prop} (h : Ee te σ G fun v G1 => ∃ b, v = .bl b ∧ Q b G1) : Et (tB te) σ G Q := fun H Q' e l =>
  h H _ e fun v G1 H1 e1 ⟨b, hb, q⟩ => ⟨b, hb, l b G1 H1 e1 q⟩
theorem et_and {t u : TT} {Q : Bool → Hp → Prop} (h : Et t σ G fun b G1 => if b = true then Et u σ G1 Q else Q false G1) : Et (tAnd t u) σ G Q := fun H Q' e l =>
  h H _ e fun b G1 H1 e1 h1 => by
    cases b with
    | true => exact h1 H1 Q' e1 l
    | false => exact l false G1 H1 e1 h1
theorem et_or {t u : TT} {Q : Bool → Hp → Prop} (h : Et t σ G fun b G1 => if b = true then Q true G1 else Et u σ G1 Q) : Et (tOr t u) σ G Q := fun H Q' e l =>
  h H _ e fun b G1 H1 e1 h1 => by
    cases b with
    | true => exact l true G1 H1 e1 h1
    | false => exact h1 H1 Q' e1 l
theorem et_not {t : TT} {Q : Bool → Hp → Prop} (h : Et t σ G fun b G1 => Q (!b) G1) : Et (tNot t) σ G Q := fun H Q' e l =>
  h H _ e fun b G1 H1 e1 h1 => l (!b) G1 H1 e1 h1
theorem truv_up {K : PySem.W.Frag} {x : V} {G H : Hp} {k : Bool} (e : Ex G H) (h : TruV K x G k) : TruV K x H k := by
  cases x with
  | ref p =>
    rcases h with ⟨xs, s, q⟩ | ⟨xs, s, q⟩ | ⟨kvs, s, q⟩
    · exact .inl ⟨xs, e.sl s, q⟩
    · exact .inr (.inl ⟨xs, e.st s, q⟩)
    · exact .inr (.inr ⟨kvs, e _ _ s, q⟩)
  | _ => exact h
theorem et_tru {K : PySem.W.Frag} {ta : TE} {Q : Bool → Hp → Prop} (h : Ee ta σ G fun x G1 => ∃ k, TruV K x G1 k ∧ Q k G1) : Et (tTru K ta) σ G Q := fun H Q' e l =>
  h H _ e fun x G1 H1 e1 ⟨k, hk, q⟩ => ⟨k, truv_up e1 hk, l k G1 H1 e1 q⟩
theorem pt_tru {X : Cx} {a : Expr} {ta : TE} (ha : PE X a ta) (he : ∀ whole, isTrue a X.env whole = (do let v ← whole; standAt a.pos; holding [v] (truthy v)) := by intro _; rfl) : PT X a (tTru X.K ta) := pt_truth ha he
/-! values of and, or, not, if -/
theorem ee_and {ta tb : TE} (h : Ee ta σ G fun x G1 => ∃ b, x = .bl b ∧ if b = true then Ee tb σ G1 Q else Q (.bl false) G1) : Ee (tAndV ta tb) σ G Q := fun H Q' e l =>
  h H _ e fun x G1 H1 e1 ⟨b, hb, h1⟩ => ⟨b, hb, by
    cases b with
    | true => exact h1 H1 Q' e1 l
    | false => exact l _ G1 H1 e1 h1⟩
theorem ee_or {ta tb : TE} (h : Ee ta σ G fun x G1 => ∃ b, x = .bl b ∧ if b = true then Q (.bl true) G1 else Ee tb σ G1 Q) : Ee (tOrV ta tb) σ G Q := fun H Q' e l =>
  h H _ e fun x G1 H1 e1 ⟨b, hb, h1⟩ => ⟨b, hb, by
    cases b with
    | true => exact l _ G1 H1 e1 h1
    | false => exact h1 H1 Q' e1 l⟩
theorem ee_not {ta : TE} (h : Ee ta σ G fun x G1 => ∃ b, x = .bl b ∧ Q (.bl (!b)) G1) : Ee (tNotV ta) σ G Q := fun H Q' e l =>
  h H _ e fun x G1 H1 e1 ⟨b, hb, h1⟩ => ⟨b, hb, l _ G1 H1 e1 h1⟩
theorem ee_if {t : TT} {ta tb : TE} (h : Et t σ G fun b G1 => if b = true then Ee ta σ G1 Q else Ee tb σ G1 Q) : Ee (tIf t ta tb) σ G Q := fun H Q' e l =>
  h H _ e fun b G1 H1 e1 h1 => by
    cases b with
    | true => exact h1 H1 Q' e1 l
    | false => exact h1 H1 Q' e1 l
/-- two comparisons in a chain -/
theorem ee_chain {r r' : R2} {ta tb tc : TE} (h : Ee ta σ G fun x G1 => Ee tb σ G1 fun y G2 => Er r x y G2 fun z G3 => ∃ k, z = .bl k ∧ if k = true then Ee tc σ G3 fun w G4 => Er r' y w G4 Q else Q (.bl false) G3) : Ee (tChain r r' ta tb tc) σ G Q := fun H Q' e l =>
  h H _ e fun x G1 H1 e1 h1 => h1 H1 _ e1 fun y G2 H2 e2 h2 => h2 H2 _ e2 fun z G3 H3 e3 ⟨k, hk, h3⟩ => ⟨k, hk, by
    cases k with
    | true => exact h3 H3 _ e3 fun w G4 H4 e4 h4 => h4 H4 Q' e4 l
    | false => exact l _ G3 H3 e3 h3⟩
/-! calls of builtins, methods of builtins -/
theorem ee_cb {r : List V → Hp → VK → Prop} {t : TA} (h : Ea t σ G fun vs G1 => Ec r vs G1 Q) : Ee (tCB r t) σ G Q := fun H Q' e l =>
  h H _ e fun vs G1 H1 e1 h1 => h1 H1 Q' e1 l
def rcOr (r r' : List V → Hp → VK → Prop) : List V → Hp → VK → Prop := fun xs H Q => r xs H Q ∨ r' xs H Q
theorem ec_orL {r r' : List V → Hp → VK → Prop} {x : List V} (h : Ec r x G Q) : Ec (rcOr r r') x G Q := fun H Q' e l => .inl (h H Q' e l)
theorem ec_orR {r r' : List V → Hp → VK → Prop} {x : List V} (h : Ec r' x G Q) : Ec (rcOr r r') x G Q := fun H Q' e l => .inr (h H Q' e l)
def rLenU (K : PySem.W.Frag) : List V → Hp → VK → Prop := fun xs H Q => ∃ x n, xs = [x] ∧ LenV K x H n ∧ (n ≤ sizeLine → Q (.int n) H)
theorem call_lenU {X : Cx} : CallR X (.builtin "len") (rLenU X.K) := by
  intro pins s σ H xs us Q I r h
  obtain ⟨x, n, rfl, hL, q⟩ := h
  have hn : n ≤ sizeLine := by
    cases x with
    | str y => exact hL.2 ▸ hL.1
    | byt y => exact hL.2 ▸ hL.1
    | ref p =>
      rcases hL with ⟨xs, h, rfl⟩ | ⟨xs, h, rfl⟩
      · obtain ⟨_, _, _, z⟩ := I.list h; exact z
      · obtain ⟨_, _, _, z⟩ := I.tuple h; exact z
    | _ => exact hL.elim
  exact call_len pins s σ H _ us Q I r ⟨x, n, rfl, hL, q hn⟩
theorem ec_lenL {K : PySem.W.Frag} {p : Addr} {xs : List V} (h : SqL K G p xs) (q : xs.length ≤ sizeLine → Q (.int xs.length) G) : Ec (rLenU K) [.ref p] G Q := fun H Q' e l => ⟨_, _, rfl, .inl ⟨xs, e.sl h, rfl⟩, fun z => l _ G H e (q z)⟩
theorem ec_lenT {K : PySem.W.Frag} {p : Addr} {xs : List V} (h : SqT K G p xs) (q : xs.length ≤ sizeLine → Q (.int xs.length) G) : Ec (rLenU K) [.ref p] G Q := fun H Q' e l => ⟨_, _, rfl, .inr ⟨xs, e.st h, rfl⟩, fun z => l _ G H e (q z)⟩
theorem ec_lenS {K : PySem.W.Frag} {z : Str} (h : z.length ≤ sizeLine) (q : Q (.int z.length) G) : Ec (rLenU K) [.str z] G Q := fun H Q' e l => ⟨_, _, rfl, ⟨h, rfl⟩, fun _ => l _ G H e q⟩
def rInt1 : List V → Hp → VK → Prop := fun xs H Q => (∃ i, xs = [.int i] ∧ Q (.int i) H) ∨ ∃ k, xs = [.bl k] ∧ Q (.int (if k then 1 else 0)) H
theorem call_intU {X : Cx} : CallR X (.type "int") rInt1 := call_int1
theorem ec_int {i : Int} (q : Q (.int i) G) : Ec rInt1 [.int i] G Q := fun H Q' e l => .inl ⟨i, rfl, l _ G H e q⟩
theorem ec_intB {k : Bool} (q : Q (.int (if k then 1 else 0)) G) : Ec rInt1 [.bl k] G Q := fun H Q' e l => .inr ⟨k, rfl, l _ G H e q⟩
def rListU (K : PySem.W.Frag) : List V → Hp → VK → Prop := fun xs H Q => ∃ p ys, xs = [.ref p] ∧ (SqL K H p ys ∨ SqT K H p ys) ∧ ∀ l, H l = none → Q (.ref l) (upd H l (.lst ys))
theorem call_listU {X : Cx} : CallR X (.type "list") (rListU X.K) := call_list_of
theorem ec_list {K : PySem.W.Frag} {p : Addr} {ys : List V} (h : SqL K G p ys ∨ SqT K G p ys) (q : ∀ l, G l = none → Q (.ref l) (upd G l (.lst ys))) : Ec (rListU K) [.ref p] G Q := fun H Q' e l =>
  ⟨p, ys, rfl, h.elim (fun z => .inl (e.sl z)) (fun z => .inr (e.st z)), fun a ha => l _ _ _ e.put (q a (e.nul ha))⟩
def rTupU (K : PySem.W.Frag) : List V → Hp → VK → Prop := fun xs H Q => ∃ p ys, xs = [.ref p] ∧ ((SqL K H p ys ∧ ∀ l, H l = none → Q (.ref l) (upd H l (.tup ys))) ∨ (SqT K H p ys ∧ Q (.ref p) H))
theorem call_tupU {X : Cx} : CallR X (.type "tuple") (rTupU X.K) := call_tuple_of
theorem ec_tupL {K : PySem.W.Frag} {p : Addr} {ys : List V} (h : SqL K G p ys) (q : ∀ l, G l = none → Q (.ref l) (upd G l (.tup ys))) : Ec (rTupU K) [.ref p] G Q := fun H Q' e l =>
  ⟨p, ys, rfl, .inl ⟨e.sl h, fun a ha => l _ _ _ e.put (q a (e.nul ha))⟩⟩
theorem ec_tupT {K : PySem.W.Frag} {p : Addr} {ys : List V} (h : SqT K G p ys) (q : Q (.ref p) G) : Ec (rTupU K) [.ref p] G Q := fun H Q' e l => ⟨p, ys, rfl, .inr ⟨e.st h, l _ G H e q⟩⟩
def rMax2U : List V → Hp → VK → Prop := fun xs H Q => ∃ i j, xs = [.int i, .int j] ∧ Q (.int (if j > i then j else i)) H
def rMin2U : List V → Hp → VK → Prop := fun xs H Q => ∃ i j, xs = [.int i, .int j] ∧ Q (.int (if j < i then j else i)) H
theorem call_max2U {X : Cx} (hc : X.calm = true) : CallR X (.builtin "max") rMax2U := call_max2 hc
theorem call_min2U {X : Cx} (hc : X.calm = true) : CallR X (.builtin "min") rMin2U := call_min2 hc
theorem ec_max2 {i j : Int} (q : Q (.int (if j > i then j else i)) G) : Ec rMax2U [.int i, .int j] G Q := fun H Q' e l => ⟨i, j, rfl, l _ G H e q⟩
theorem ec_min2 {i j : Int} (q : Q (.int (if j < i then j else i)) G) : Ec rMin2U [.int i, .int j] G Q := fun H Q' e l => ⟨i, j, rfl, l _ G H e q⟩
def rOrdU : List V → Hp → VK → Prop := fun xs H Q => ∃ x : Str, xs = [.str x] ∧ x.length = 1 ∧ Q (.int (x.cps.getD 0 0 : Nat)) H
theorem call_ordU {X : Cx} : CallR X (.builtin "ord") rOrdU := call_ord
theorem ec_ord {x : Str} (h : x.length = 1) (q : Q (.int (x.cps.getD 0 0 : Nat)) G) : Ec rOrdU [.str x] G Q := fun H Q' e l => ⟨x, rfl, h, l _ G H e q⟩
/-! isinstance -/
def rIsiU (K : PySem.W.Frag) := rcOr (rIsi K) (rIsiT K)
theorem call_isiU {X : Cx} : CallR X (.builtin "isinstance") (rIsiU X.K) := CallR.or call_isi call_isiT
theorem tyof_up {K : PySem.W.Frag} {G H : Hp} {x : V} {t : Value} (e : Ex G H) (h : TyOf K G x t) : TyOf K H x t := by
  cases h with
  | non => exact .non
  | bl x => exact .bl x
  | int x => exact .int x
  | str x => exact .str x
  | flt x => exact .flt x
  | lst h => exact .lst (e _ _ h)
  | frz h => exact .frz (e _ _ h)
  | tup h => exact .tup (e _ _ h)
  | dK h => exact .dK (e _ _ h)
  | dT h => exact .dT (e _ _ h)
  | ins h a b c d e0 => exact .ins (e _ _ h) a b c d e0
theorem tyx_up {K : PySem.W.Frag} {G H : Hp} {x : V} {t : Value} (e : Ex G H) (h : TyX K G x t) : TyX K H x t := by
  cases h with
  | base h => exact .base (tyof_up e h)
  | byt b => exact .byt b
  | set h => exact .set (e _ _ h)
  | kList h c => exact .kList h c
  | kTuple h c => exact .kTuple h c
  | kDict h c => exact .kDict h c
  | fTuple h => exact .fTuple (e _ _ h)
  | fDict h => exact .fDict (e _ _ h)
theorem tyx_l {K : PySem.W.Frag} {p : Addr} {xs : List V} (h : SqL K G p xs) : TyX K G (.ref p) (.type "list") := by
  rcases h with (h | ⟨o, h⟩) | ⟨o, its, n, h, c, _⟩
  · exact .base (.lst h)
  · exact .base (.frz h)
  · exact .kList h c
theorem tyx_t {K : PySem.W.Frag} {p : Addr} {xs : List V} (h : SqT K G p xs) : TyX K G (.ref p) (.type "tuple") := by
  rcases h with (h | ⟨o, h⟩) | ⟨o, its, n, h, c, _⟩
  · exact .base (.tup h)
  · exact .fTuple h
  · exact .kTuple h c
theorem ec_isi {K : PySem.W.Frag} {x : V} {a b : String} {r : Bool} (h : TyX K G x (.type a)) (k : kitB a b = some r) (q : Q (.bl r) G) : Ec (rIsiU K) [x, .ty b] G Q :=
  ec_orL fun H Q' e l => ⟨x, .ty b, _, _, r, rfl, .ty b, tyx_up e h, kit_ty k, l _ G H e q⟩
theorem ec_isi2 {K : PySem.W.Frag} {x : V} {tp : Addr} {a b c : String} {r r' : Bool} (h : TyX K G x (.type a)) (ht : G tp = some (.tup [.ty b, .ty c])) (k : kitB a b = some r) (k' : kitB a c = some r') (q : Q (.bl (r || r')) G) : Ec (rIsiU K) [x, .ref tp] G Q :=
  ec_orR fun H Q' e l => ⟨x, tp, _, _, _, r || r', rfl, e _ _ ht, .cons (.ty b) (.cons (.ty c) .nil), tyx_up e h, by
    refine kitAny_cons (b := r) (kit_ty k) (fun h0 => ?_) (fun h1 => by rw [h1]; rfl)
    rw [h0]
    refine kitAny_cons (b := r') (kit_ty k') (fun h0 => ?_) (fun h1 => by rw [h1]; rfl)
    rw [h0]; rfl, l _ G H e q⟩
/-! own defs -/
/-- a promise over known heaps: arguments, known heap, what is wanted, what is wanted of an exception -/
abbrev Pm := List V → Hp → (V → Hp → Prop) → XK → Prop
def up (S : Pm) : Sp := fun vs H Q E => ∃ G Q0 E0, Ex G H ∧ S vs G Q0 E0 ∧ (∀ v G' H', Ex G' H' → Q0 v G' → Q v H') ∧ (∀ c d G' H', Ex G' H' → E0 c d G' → E c d H')
def dn (E : XK) : XK := fun c d G => ∀ H, Ex G H → E c d H
theorem ee_call {S : Pm} {dvs : List V} {E : XK} {t : TA} (h : Ea t σ G fun vs G1 => S (vs ++ dvs) G1 Q (dn E)) : Ee (tCall (up S) dvs E t) σ G Q := fun H Q' e l =>
  h H _ e fun vs G1 H1 e1 h1 => ⟨G1, Q, dn E, e1, h1, l, fun c d G' H' e' h' => h' H' e'⟩
theorem ee_meth {C : Addr} {m : Str} {S : Pm} {dvs : List V} {E : XK} {ta : TE} {t : TA}
    (h : Ee ta σ G fun x G1 => ∃ a dx fs, x = .ref a ∧ G1 a = some (.ins C dx fs) ∧ fs.lookup m = none ∧ Ea t σ G1 fun vs G2 => S (x :: (vs ++ dvs)) G2 Q (dn E)) : Ee (tMeth C m (up S) dvs E ta t) σ G Q := fun H Q' e l =>
  h H _ e fun x G1 H1 e1 ⟨a, dx, fs, h1, h2, h3, h4⟩ => ⟨a, dx, fs, h1, e1 _ _ h2, h3, h4 H1 _ e1 fun vs G2 H2 e2 h5 => ⟨G2, Q, dn E, e2, h5, l, fun c d G' H' e' h' => h' H' e'⟩⟩
theorem ee_make {C : Addr} {S : Pm} {dvs : List V} {E : XK} {t : TA}
    (h : Ea t σ G fun vs G1 => ∀ x dx, G1 x = none → G1 dx = none → dx ≠ x → S (.ref x :: (vs ++ dvs)) (upd (upd G1 dx (.own x)) x (.ins C dx [])) (fun v G2 => v = .non ∧ Q (.ref x) G2) (dn E)) : Ee (tMake C (up S) dvs E t) σ G Q := fun H Q' e l =>
  h H _ e fun vs G1 H1 e1 h1 x dx hx hd hn => ⟨_, _, dn E, e1.put.put, h1 x dx (e1.nul hx) (e1.nul hd) hn, fun v G' H' e' ⟨hv, q⟩ => ⟨hv, l _ G' H' e' q⟩, fun c d G' H' e' h' => h' H' e'⟩
/-! fields -/
theorem ee_fld {K : PySem.W.Frag} {ta : TE} {f : Str} (h : Ee ta σ G fun x G1 => ∃ a C dx fs v, x = .ref a ∧ G1 a = some (.ins C dx fs) ∧ Cls K C ∧ NoAttr K C f ∧ fs.lookup f = some v ∧ Q v G1) : Ee (tFld K ta f) σ G Q := fun H Q' e l =>
  h H _ e fun x G1 H1 e1 ⟨a, C, dx, fs, v, h1, h2, h3, h4, h5, q⟩ => ⟨a, C, dx, fs, v, h1, e1 _ _ h2, h3, h4, h5, l _ G1 H1 e1 q⟩
/-! methods of builtins -/
theorem tyv_up {K : PySem.W.Frag} {T : String} {x : V} {H : Hp} (e : Ex G H) (h : tyV K T x G) : tyV K T x H := by
  cases x with
  | ref p =>
    rcases h with ⟨a, xs, s⟩ | h | ⟨a, (⟨kvs, s⟩ | ⟨kvs, s⟩)⟩ | ⟨a, S, n, s⟩
    · exact .inl ⟨a, xs, e.sl s⟩
    · exact .inr (.inl h)
    · exact .inr (.inr (.inl ⟨a, .inl ⟨kvs, e _ _ s⟩⟩))
    · exact .inr (.inr (.inl ⟨a, .inr ⟨kvs, e _ _ s⟩⟩))
    · exact .inr (.inr (.inr ⟨a, S, n, e _ _ s⟩))
  | _ => exact h
theorem ee_bm {K : PySem.W.Frag} {T : String} {r : V → List V → Hp → VK → Prop} {to : TE} {t : TA} (h : Ee to σ G fun x G1 => tyV K T x G1 ∧ Ea t σ G1 fun xs G2 => Em r x xs G2 Q) : Ee (tBM K T r to t) σ G Q := fun H Q' e l =>
  h H _ e fun x G1 H1 e1 ⟨ty, h1⟩ => ⟨tyv_up e1 ty, h1 H1 _ e1 fun xs G2 H2 e2 h2 => h2 H2 Q' e2 l⟩
theorem ee_bm0 {K : PySem.W.Frag} {T : String} {r : V → List V → Hp → VK → Prop} {to : TE} (h : Ee to σ G fun x G1 => tyV K T x G1 ∧ Em r x [] G1 Q) : Ee (tBM0 K T r to) σ G Q := fun H Q' e l =>
  h H _ e fun x G1 H1 e1 ⟨ty, h1⟩ => ⟨tyv_up e1 ty, h1 H1 Q' e1 l⟩
theorem ty_list {K : PySem.W.Frag} {p : Addr} {xs : List V} (h : SqL K G p xs) : tyV K "list" (.ref p) G := .inl ⟨rfl, xs, h⟩
theorem ty_lst {K : PySem.W.Frag} {p : Addr} {xs : List V} (h : G p = some (.lst xs)) : tyV K "list" (.ref p) G := .inl ⟨rfl, xs, SqL.of h⟩
theorem em_append {p : Addr} {xs : List V} {y : V} (h : G p = some (.lst xs)) (hz : xs.length < sizeLine) (q : Q .non (upd G p (.lst (xs ++ [y])))) : Em rAppend (.ref p) [y] G Q := fun H Q' e l =>
  ⟨p, xs, y, rfl, rfl, e _ _ h, hz, l _ _ _ e.put q⟩
theorem em_extend {p b : Addr} {xs ys : List V} (h : G p = some (.lst xs)) (hb : G b = some (.lst ys)) (hz : xs.length + ys.length ≤ sizeLine) (q : Q .non (upd G p (.lst (xs ++ ys)))) : Em rExtend (.ref p) [.ref b] G Q := fun H Q' e l =>
  ⟨p, b, xs, ys, rfl, rfl, e _ _ h, e _ _ hb, hz, l _ _ _ e.put q⟩
/-- sep.join(list) -/
def rJoinU (K : PySem.W.Frag) : V → List V → Hp → VK → Prop := fun x xs H Q => ∃ a p, ∃ ys : List Str, x = .str a ∧ xs = [.ref p] ∧ (SqL K H p (ys.map V.str) ∨ SqT K H p (ys.map V.str)) ∧ (ys.map (·.length)).sum + ys.length * a.length ≤ 16777216 ∧ Q (.str (Txt.join a ys)) H
theorem mt_joinU {X : Cx} : MtR X "str.join" (rJoinU X.K) := mt_join
theorem ee_m1 {r : V → List V → Hp → VK → Prop} {to te : TE} (h : Ee to σ G fun x G1 => (∃ a, x = .str a) ∧ Ee te σ G1 fun y G2 => Em r x [y] G2 Q) : Ee (tM1 r to te) σ G Q := fun H Q' e l =>
  h H _ e fun x G1 H1 e1 ⟨a, h1⟩ => ⟨a, h1 H1 _ e1 fun y G2 H2 e2 h2 => h2 H2 Q' e2 l⟩
theorem em_join {K : PySem.W.Frag} {a : Str} {p : Addr} {ys : List Str} (h : SqL K G p (ys.map V.str)) (hz : (ys.map (·.length)).sum + ys.length * a.length ≤ 16777216) (q : Q (.str (Txt.join a ys)) G) : Em (rJoinU K) (.str a) [.ref p] G Q := fun H Q' e l =>
  ⟨a, p, ys, rfl, rfl, .inl (e.sl h), hz, l _ G H e q⟩
end

/-! ## statements -/
section
variable {σ : L2.St} {G G' : Hp} {D : Ek}
theorem lf_nx {D : Ek} {D' : Ends} {N : L2.St → Hp → Prop} {N' : L2.St → Hp → Prop} (l : Lf D D') (h : ∀ σ G H, Ex G H → N σ G → N' σ H) : Lf { D with nx := N } { D' with nx := N' } := ⟨h, l.rt, l.bk, l.ct⟩
theorem es_seq {t u : TS} (h : Es t { D with nx := fun σ' G' => Es u D σ' G' } σ G) : Es (tSeq t u) D σ G := fun H D' e l =>
  h H { D' with nx := u D' } e ⟨fun σ' G1 H1 e1 h1 => h1 H1 D' e1 l, l.rt, l.bk, l.ct⟩
theorem es_next (q : D.nx σ G) : Es tNext D σ G := fun H D' e l => l.nx _ _ _ e q
theorem es_brk (q : D.bk σ G) : Es tBreak D σ G := fun H D' e l => l.bk _ _ _ e q
theorem es_cont (q : D.ct σ G) : Es tCont D σ G := fun H D' e l => l.ct _ _ _ e q
theorem es_ret {te : TE} (h : Ee te σ G D.rt) : Es (tRet te) D σ G := fun H D' e l => h H _ e l.rt
theorem es_retN (q : D.rt .non G) : Es tRetN D σ G := fun H D' e l => l.rt _ _ _ e q
theorem es_drop {te : TE} (h : Ee te σ G fun _ G1 => D.nx σ G1) : Es (tDrop te) D σ G := fun H D' e l => h H _ e fun v G1 H1 e1 q => l.nx _ _ _ e1 q
theorem es_asg {te : TE} {g : TG} (h : Ee te σ G fun v G1 => Eg g v σ G1 D.nx) : Es (tAsg te g) D σ G := fun H D' e l =>
  h H _ e fun v G1 H1 e1 h1 => h1 H1 _ e1 l.nx
theorem es_if {c : TT} {t u : TS} (h : Et c σ G fun b G1 => if b = true then Es t D σ G1 else Es u D σ G1) : Es (tIfS c t u) D σ G := fun H D' e l =>
  h H _ e fun b G1 H1 e1 h1 => by
    cases b with
    | true => exact h1 H1 D' e1 l
    | false => exact h1 H1 D' e1 l
theorem es_aug {i : Nat} {te : TE} {ti : TIp} {v : V} (hv : σ[i]? = some (some v)) (h : Ee te σ G fun y G1 => Eip ti v y G1 fun z G2 => D.nx (σ.set i (some z)) G2) : Es (tAug i te ti) D σ G := fun H D' e l =>
  ⟨v, hv, h H _ e fun y G1 H1 e1 h1 => h1 H1 _ e1 fun z G2 H2 e2 q => l.nx _ _ _ e2 q⟩
theorem ip_I {f : Int → Int → Int} {i j : Int} {Q : V → Hp → Prop} (q : Q (.int (f i j)) G) : Eip (ipI f) (.int i) (.int j) G Q := fun H Q' e l => ⟨i, j, rfl, rfl, l _ G H e q⟩
/-! targets -/
theorem eg_name {i : Nat} {v : V} {Q : L2.St → Hp → Prop} (q : Q (σ.set i (some v)) G) : Eg (gName i) v σ G Q := fun H Q' e l => l _ G H e q
theorem eg_tup {K : PySem.W.Frag} {n : Nat} {t : TGs} {a : Addr} {xs : List V} {Q : L2.St → Hp → Prop} (h : SqT K G a xs) (hn : xs.length = n) (q : Egs t xs σ G Q) : Eg (gTup K n t) (.ref a) σ G Q := fun H Q' e l =>
  ⟨a, xs, rfl, e.st h, hn, q H Q' e l⟩
theorem egs_nil {Q : L2.St → Hp → Prop} (q : Q σ G) : Egs gNil [] σ G Q := fun H Q' e l => ⟨rfl, l _ G H e q⟩
theorem egs_cons {t : TG} {u : TGs} {v : V} {r : List V} {Q : L2.St → Hp → Prop} (h : Eg t v σ G fun σ' G' => Egs u r σ' G' Q) : Egs (gCons t u) (v :: r) σ G Q := fun H Q' e l =>
  ⟨v, r, rfl, h H _ e fun σ1 G1 H1 e1 h1 => h1 H1 Q' e1 l⟩
theorem eg_sub {to ti : TE} {t : TSet} {v : V} {Q : L2.St → Hp → Prop} (h : Ee to σ G fun o G1 => Ee ti σ G1 fun i G2 => Ez t o i v G2 fun G3 => Q σ G3) : Eg (gSub to ti t) v σ G Q := fun H Q' e l =>
  h H _ e fun o G1 H1 e1 h1 => h1 H1 _ e1 fun i G2 H2 e2 h2 => h2 H2 _ e2 fun G3 H3 e3 q => l _ G3 H3 e3 q
theorem ez_L {p : Addr} {k : Int} {j : Nat} {xs : List V} {v : V} {Q : Hp → Prop} (h : G p = some (.lst xs)) (hk : ixN xs.length k = some j) (q : Q (upd G p (.lst (xs.set j v)))) : Ez rSetL (.ref p) (.int k) v G Q := fun H Q' e l =>
  ⟨p, xs, k, j, rfl, rfl, e _ _ h, hk, l _ _ e.put q⟩
/-- xs[i] op= e -/
def rGetL (K : PySem.W.Frag) : V → V → Hp → VK → Prop := fun x y H Q => ∃ p xs i v, x = .ref p ∧ y = .int i ∧ SqL K H p xs ∧ 0 ≤ i ∧ xs[i.toNat]? = some v ∧ Q v H
theorem pget_list {X : Cx} : PGet X (rGetL X.K) := by
  intro pins s σ H o i ov iv Q I rx ry h
  obtain ⟨p, xs, k, v, rfl, rfl, hq, h0, hv, q⟩ := h
  cases rx
  obtain ⟨t, rfl⟩ := ry
  obtain ⟨its, r, pl, hz⟩ := I.list hq
  obtain ⟨w, ew, rw'⟩ := r.get hv
  have hlt := (List.getElem?_eq_some_iff.mp hv).1
  have hn := line63
  exact wpAny_getItem_list pl.isList h0 (by omega) (by simpa using ew) ⟨v, H, I, rw', q⟩
theorem es_augS {to ti te : TE} {tget : V → V → Hp → VK → Prop} {tip : TIp} {tset : TSet}
    (h : Ee to σ G fun o G1 => Ee ti σ G1 fun i G2 => Er tget o i G2 fun x G3 => Ee te σ G3 fun y G4 => Eip tip x y G4 fun z G5 => Ez tset o i z G5 fun G6 => D.nx σ G6) : Es (tAugS to ti te tget tip tset) D σ G := fun H D' e l =>
  h H _ e fun o G1 H1 e1 h1 => h1 H1 _ e1 fun i G2 H2 e2 h2 => h2 H2 _ e2 fun x G3 H3 e3 h3 => h3 H3 _ e3 fun y G4 H4 e4 h4 => h4 H4 _ e4 fun z G5 H5 e5 h5 => h5 H5 _ e5 fun G6 H6 e6 q => l.nx _ _ _ e6 q
theorem er_getL {K : PySem.W.Frag} {p : Addr} {i : Int} {xs : List V} {v : V} {Q : V → Hp → Prop} (h : SqL K G p xs) (h0 : 0 ≤ i) (a : xs[i.toNat]? = some v) (q : Q v G) : Er (rGetL K) (.ref p) (.int i) G Q :=
  fun H Q' e l => ⟨p, xs, i, v, rfl, rfl, e.sl h, h0, a, l _ G H e q⟩
/-! fields stored -/
theorem es_fld {K : PySem.W.Frag} {ta tv : TE} {f : Str} (h : Ee tv σ G fun y G1 => Ee ta σ G1 fun x G2 => ∃ a C dx fs, x = .ref a ∧ G2 a = some (.ins C dx fs) ∧ Cls K C ∧ NoAttr K C f ∧ fs.length < 1000 ∧ D.nx σ (upd G2 a (.ins C dx (putF f y fs)))) : Es (sFld K ta tv f) D σ G := fun H D' e l =>
  h H _ e fun y G1 H1 e1 h1 => h1 H1 _ e1 fun x G2 H2 e2 ⟨a, C, dx, fs, h2, h3, h4, h5, h6, q⟩ => ⟨a, C, dx, fs, h2, e2 _ _ h3, h4, h5, h6, l.nx _ _ _ e2.put q⟩
/-! while -/
theorem es_while {c : TT} {tb : TS} (W : Nat → L2.St → Hp → Prop) (m0 : Nat) (h0 : W m0 σ G)
    (hs : ∀ m σ G, W m σ G → Et c σ G fun b G1 => if b = true then Es tb { D with nx := fun σ' G' => ∃ m', m' < m ∧ W m' σ' G', ct := fun σ' G' => ∃ m', m' < m ∧ W m' σ' G', bk := D.nx } σ G1 else D.nx σ G1) : Es (tWhile c tb) D σ G := fun H D' e l => by
  refine ⟨fun m σ H => ∃ G, Ex G H ∧ W m σ G, ⟨m0, G, e, h0⟩, ?_⟩
  rintro m σ1 H1 ⟨G1, e1, w⟩
  refine hs m σ1 G1 w H1 _ e1 fun b G2 H2 e2 h2 => ?_
  cases b with
  | true =>
    refine ⟨fun σ' H' => ∃ G', Ex G' H' ∧ ∃ m', m' < m ∧ W m' σ' G', fun σ' H' ⟨G', e', m', lt, w'⟩ => ⟨m', lt, G', e', w'⟩, ?_⟩
    exact h2 H2 _ e2 ⟨fun σ G H e q => ⟨G, e, q⟩, l.rt, l.nx, fun σ G H e q => ⟨G, e, q⟩⟩
  | false => exact l.nx _ _ _ e2 h2
/-! what is walked -/
def Ei (wi : TI) (σ : L2.St) (G : Hp) (R : It → Hp → Prop) : Prop := ∀ (H : Hp) (R' : It → Hp → Prop), Ex G H → (∀ J G' H', Ex G' H' → R J G' → R' J H') → wi σ H R'
/-- n turns while Gd holds of the known heap; at turn i it yields as Y tells -/
structure Wk (J : It) (n : Nat) (Gd : Hp → Prop) (Y : Nat → Hp → V → Hp → Prop) : Prop where
  goes : ∀ i G H, i < n → Gd G → Ex G H → J.go i H
  stops : ∀ G H, Gd G → Ex G H → J.stop n H
  yields : ∀ i G H x H', i < n → Gd G → Ex G H → J.yld i H x H' → ∃ G', Ex G' H' ∧ Y i G x G'
/-- the i-th value, the heap as it was -/
def YV (f : Nat → Option V) : Nat → Hp → V → Hp → Prop := fun i G x G' => G' = G ∧ f i = some x
/-- a new pair -/
def YP (f g : Nat → Option V) : Nat → Hp → V → Hp → Prop := fun i G v G' => ∃ T x y, v = .ref T ∧ G T = none ∧ G' = upd G T (.tup [x, y]) ∧ f i = some x ∧ g i = some y
theorem es_for {wi : TI} {g : TG} {tb : TS}
    (h : Ei wi σ G fun J G1 => ∃ n Gd Y, Wk J n Gd Y ∧ ∃ Pv : Nat → L2.St → Hp → Prop, Pv 0 σ G1 ∧ (∀ i σ G, i ≤ n → Pv i σ G → Gd G) ∧
      (∀ i x σ G G', i < n → Pv i σ G → Y i G x G' → Eg g x σ G' fun σ2 G2 => Es tb { D with nx := Pv (i + 1), ct := Pv (i + 1), bk := D.nx } σ2 G2) ∧ (∀ σ G, Pv n σ G → D.nx σ G)) : Es (tFor wi g tb) D σ G := fun H D' e l => by
  refine h H _ e ?_
  rintro J G1 H1 e1 ⟨n, Gd, Y, wk, Pv, h0, hG, hs, hd⟩
  refine ⟨fun i m σ H => m = n - i ∧ i ≤ n ∧ ∃ G, Ex G H ∧ Pv i σ G, ⟨n, by simp, Nat.zero_le _, G1, e1, h0⟩, ?_⟩
  rintro i m σ2 H2 ⟨rfl, hi, G2, e2, p⟩
  have q := hG i σ2 G2 hi p
  by_cases hlt : i < n
  · refine .inr ⟨wk.goes i G2 H2 hlt q e2, fun σ' H' => ∃ G', Ex G' H' ∧ Pv (i + 1) σ' G', fun σ' H' ⟨G', e', p'⟩ => ⟨n - (i + 1), by omega, rfl, hlt, G', e', p'⟩, fun x H' y => ?_⟩
    obtain ⟨G3, e3, y3⟩ := wk.yields i G2 H2 x H' hlt q e2 y
    refine hs i x σ2 G2 G3 hlt p y3 H' _ e3 fun σ4 G4 H4 e4 h4 => ?_
    exact h4 H4 _ e4 ⟨fun σ G H e q => ⟨G, e, q⟩, l.rt, l.nx, fun σ G H e q => ⟨G, e, q⟩⟩
  · have en : i = n := by omega
    subst en
    exact .inl ⟨wk.stops G2 H2 q e2, l.nx _ _ _ e2 (hd σ2 G2 p)⟩
section
variable {K : PySem.W.Frag} {a b : Addr} {xs ys : List V}
theorem wk_list : Wk (Itl K a) xs.length (fun G => SqL K G a xs) (YV fun i => xs[i]?) :=
  ⟨fun i G H hi q e => ⟨xs, xs[i], e.sl q, by simp [hi]⟩, fun G H q e => ⟨xs, e.sl q, Nat.le_refl _⟩, fun i G H x H' hi q e y => ⟨G, by rw [y.1]; exact e, rfl, y.2 xs (e.sl q)⟩⟩
theorem wk_tup : Wk (Itt K a) xs.length (fun G => SqT K G a xs) (YV fun i => xs[i]?) :=
  ⟨fun i G H hi q e => ⟨xs, xs[i], e.st q, by simp [hi]⟩, fun G H q e => ⟨xs, e.st q, Nat.le_refl _⟩, fun i G H x H' hi q e y => ⟨G, by rw [y.1]; exact e, rfl, y.2 xs (e.st q)⟩⟩
theorem wk_range {lo : Int} {n : Nat} : Wk (Itr lo n) n (fun _ => True) (YV fun i => some (.int (lo + i))) :=
  ⟨fun _ _ _ hi _ _ => hi, fun _ _ _ _ => Nat.le_refl _, fun i G H x H' _ _ e y => ⟨G, by rw [y.1]; exact e, rfl, by rw [y.2]⟩⟩
theorem wk_rangeC {lo c : Int} {n : Nat} : Wk (Itc lo c n) n (fun _ => True) (YV fun i => some (.int (lo + (i : Nat) * c))) :=
  ⟨fun _ _ _ hi _ _ => hi, fun _ _ _ _ => Nat.le_refl _, fun i G H x H' _ _ e y => ⟨G, by rw [y.1]; exact e, rfl, by rw [y.2]⟩⟩
theorem wk_str {z : Str} : Wk (Its z) z.cps.size (fun _ => True) (YV fun i => z.cps[i]?.map fun c => .str ⟨#[c]⟩) :=
  ⟨fun _ _ _ hi _ _ => hi, fun _ _ _ _ => Nat.le_refl _, fun i G H x H' _ _ e y => ⟨G, by rw [y.1]; exact e, rfl, by obtain ⟨c, h1, h2⟩ := y.2; show Option.map _ _ = _; rw [h1, h2]; rfl⟩⟩
theorem wk_zip {n : Nat} (hn : n = min xs.length ys.length) : Wk (Itz K a b) n (fun G => SqL K G a xs ∧ SqL K G b ys) (YP (fun i => xs[i]?) (fun i => ys[i]?)) := by
  subst hn
  refine ⟨fun i G H hi q e => ?_, fun G H q e => ⟨xs, ys, e.sl q.1, e.sl q.2, by omega⟩, fun i G H v H' _ q e y => ?_⟩
  · have h1 : i < xs.length := by omega
    have h2 : i < ys.length := by omega
    exact ⟨xs, ys, xs[i], ys[i], e.sl q.1, e.sl q.2, by simp [h1], by simp [h2]⟩
  · obtain ⟨T, x, z, h1, h2, h3, h4, h5⟩ := y
    exact ⟨upd G T (.tup [x, z]), by rw [h3]; exact e.put, T, x, z, h1, e.nul h2, rfl, h4 xs (e.sl q.1), h5 ys (e.sl q.2)⟩
theorem wk_enum : Wk (Ite K a) xs.length (fun G => SqL K G a xs) (YP (fun i => some (.int (i : Nat))) (fun i => xs[i]?)) := by
  refine ⟨fun i G H hi q e => ⟨xs, xs[i], e.sl q, by simp [hi]⟩, fun G H q e => ⟨xs, e.sl q, Nat.le_refl _⟩, fun i G H v H' _ q e y => ?_⟩
  obtain ⟨T, x, h1, h2, h3, h4⟩ := y
  exact ⟨upd G T (.tup [.int (i : Nat), x]), by rw [h3]; exact e.put, T, .int (i : Nat), x, h1, e.nul h2, rfl, rfl, h4 xs (e.sl q)⟩
end
theorem ei_list {K : PySem.W.Frag} {tl : TE} {R : It → Hp → Prop} (h : Ee tl σ G fun x G1 => ∃ a xs, x = .ref a ∧ SqL K G1 a xs ∧ R (Itl K a) G1) : Ei (iList K tl) σ G R := fun H R' e l =>
  h H _ e fun x G1 H1 e1 ⟨a, xs, h1, h2, q⟩ => ⟨a, h1, ⟨xs, e1.sl h2⟩, l _ _ _ e1 q⟩
theorem ei_tup {K : PySem.W.Frag} {tl : TE} {R : It → Hp → Prop} (h : Ee tl σ G fun x G1 => ∃ a xs, x = .ref a ∧ SqT K G1 a xs ∧ R (Itt K a) G1) : Ei (iTup K tl) σ G R := fun H R' e l =>
  h H _ e fun x G1 H1 e1 ⟨a, xs, h1, h2, q⟩ => ⟨a, h1, ⟨xs, e1.st h2⟩, l _ _ _ e1 q⟩
theorem ei_r1 {ta : TA} {R : It → Hp → Prop} (h : Ea ta σ G fun vs G1 => ∃ j : Int, vs = [.int j] ∧ -(2 ^ 62) ≤ j ∧ j < 2 ^ 62 ∧ R (Itr 0 j.toNat) G1) : Ei (iRng1 ta) σ G R := fun H R' e l =>
  h H _ e fun vs G1 H1 e1 ⟨j, h1, h2, h3, q⟩ => ⟨j, h1, h2, h3, l _ _ _ e1 q⟩
theorem ei_r2 {ta : TA} {R : It → Hp → Prop} (h : Ea ta σ G fun vs G1 => ∃ i j : Int, vs = [.int i, .int j] ∧ (-(2 ^ 62) ≤ i ∧ i < 2 ^ 62 ∧ -(2 ^ 62) ≤ j ∧ j < 2 ^ 62) ∧ R (Itr i (j - i).toNat) G1) : Ei (iRng2 ta) σ G R := fun H R' e l =>
  h H _ e fun vs G1 H1 e1 ⟨i, j, h1, h2, q⟩ => ⟨i, j, h1, h2, l _ _ _ e1 q⟩
theorem ei_r3 {ta : TA} {R : It → Hp → Prop} (h : Ea ta σ G fun vs G1 => ∃ (i j c : Int) (n : Nat), vs = [.int i, .int j, .int c] ∧ RgC i j c n ∧ R (Itc i c n) G1) : Ei (iRng3 ta) σ G R := fun H R' e l =>
  h H _ e fun vs G1 H1 e1 ⟨i, j, c, n, h1, h2, q⟩ => ⟨i, j, c, n, h1, h2, l _ _ _ e1 q⟩
theorem ei_str {te : TE} {R : It → Hp → Prop} (h : Ee te σ G fun v G1 => ∃ x, v = .str x ∧ R (Its x) G1) : Ei (iStr te) σ G R := fun H R' e l =>
  h H _ e fun v G1 H1 e1 ⟨x, h1, q⟩ => ⟨x, h1, l _ _ _ e1 q⟩
theorem ei_zip {K : PySem.W.Frag} {ta : TA} {R : It → Hp → Prop} (h : Ea ta σ G fun vs G1 => ∃ a b xs ys, vs = [.ref a, .ref b] ∧ SqL K G1 a xs ∧ SqL K G1 b ys ∧ R (Itz K a b) G1) : Ei (iZip K ta) σ G R := fun H R' e l =>
  h H _ e fun vs G1 H1 e1 ⟨a, b, xs, ys, h1, h2, h3, q⟩ => ⟨a, b, xs, ys, h1, e1.sl h2, e1.sl h3, l _ _ _ e1 q⟩
theorem ei_enum {K : PySem.W.Frag} {ta : TA} {R : It → Hp → Prop} (h : Ea ta σ G fun vs G1 => ∃ a xs, vs = [.ref a] ∧ SqL K G1 a xs ∧ R (Ite K a) G1) : Ei (iEnum K ta) σ G R := fun H R' e l =>
  h H _ e fun vs G1 H1 e1 ⟨a, xs, h1, h2, q⟩ => ⟨a, xs, h1, e1.sl h2, l _ _ _ e1 q⟩
/-! comprehensions: Pv by the turn, the list so far, the known heap without it; p is its place -/
theorem ee_lc {wi : TI} {g : TG} {tt : TT} {te : TE} {vs : List Nat} {Q : V → Hp → Prop}
    (h : Ei wi σ G fun J G1 => ∃ n Gd Y, Wk J n Gd Y ∧ (∀ G p o, Gd G → G p = none → Gd (upd G p o)) ∧ ∀ p, G1 p = none → ∃ Pv : Nat → List V → Hp → Prop, Pv 0 [] G1 ∧ (∀ i acc G, i ≤ n → Pv i acc G → G p = none ∧ acc.length < sizeLine ∧ Gd G) ∧
      (∀ i acc x G G', i < n → Pv i acc G → Y i (upd G p (.lst acc)) x G' → Eg g x (wipe σ vs) G' fun σ2 G2 => wipe σ2 vs = wipe σ vs ∧ Et tt σ2 G2 fun b G3 =>
        if b = true then Ee te σ2 G3 fun y G4 => G4 p = some (.lst acc) ∧ ∃ G5, Ex (upd G5 p (.lst acc)) G4 ∧ Pv (i + 1) (acc ++ [y]) G5 else G3 p = some (.lst acc) ∧ ∃ G5, Ex (upd G5 p (.lst acc)) G3 ∧ Pv (i + 1) acc G5) ∧
      (∀ acc G, Pv n acc G → Q (.ref p) (upd G p (.lst acc)))) : Ee (tLc wi g tt te vs) σ G Q := fun H Q' e l => by
  refine h H _ e ?_
  rintro J G1 H1 e1 ⟨n, Gd, Y, wk, gd, hh⟩ p hp
  obtain ⟨Pv, h0, hG, hs, hd⟩ := hh p (e1.nul hp)
  refine ⟨fun i m H => m = n - i ∧ i ≤ n ∧ ∃ G acc, Ex (upd G p (.lst acc)) H ∧ Pv i acc G, ⟨n, by simp, Nat.zero_le _, G1, [], e1.put, h0⟩, ?_⟩
  rintro i m H2 ⟨rfl, hi, G2, acc, e2, pv⟩
  obtain ⟨gp, gz, gg⟩ := hG i acc G2 hi pv
  have q := gd _ p (.lst acc) gg gp
  by_cases hlt : i < n
  · refine .inr ⟨wk.goes i _ H2 hlt q e2, fun H' => ∃ G acc, Ex (upd G p (.lst acc)) H' ∧ Pv (i + 1) acc G, fun H' ⟨G', acc', e', p'⟩ => ⟨n - (i + 1), by omega, rfl, hlt, G', acc', e', p'⟩, fun x H' y => ?_⟩
    obtain ⟨G3, e3, y3⟩ := wk.yields i _ H2 x H' hlt q e2 y
    refine hs i acc x G2 G3 hlt pv y3 H' _ e3 fun σ4 G4 H4 e4 ⟨hw, h4⟩ => ⟨hw, ?_⟩
    refine h4 H4 _ e4 fun b G5 H5 e5 h5 => ?_
    cases b with
    | true =>
      refine h5 H5 _ e5 fun y G6 H6 e6 ⟨ha, G7, e7, p7⟩ => ⟨acc, e6 _ _ ha, gz, G7, _, ?_, p7⟩
      have := (e7.trans e6).put (p := p) (o := .lst (acc ++ [y]))
      rwa [upd_upd] at this
    | false =>
      obtain ⟨ha, G7, e7, p7⟩ := h5
      exact ⟨G7, acc, e7.trans e5, p7⟩
  · have en : i = n := by omega
    subst en
    exact .inl ⟨wk.stops _ H2 q e2, l _ _ _ e2 (hd acc G2 pv)⟩
theorem et_yes {Q : Bool → Hp → Prop} (q : Q true G) : Et tYes σ G Q := fun H Q' e l => l true G H e q
end
/-- a def's body, from its promise -/
theorem body_up {S : Pm} {t : TS} {N : List Str} (h : ∀ vs G Q E, S vs G Q E → Es t { nx := fun _ G' => Q .non G', rt := Q } (start N vs) G) : ∀ vs H Q E, up S vs H Q E → t { nx := fun _ H' => Q .non H', rt := Q } (start N vs) H := by
  rintro vs H Q E ⟨G, Q0, E0, e, hS, lq, le⟩
  exact h vs G Q0 E0 hS H _ e ⟨fun _ G H e q => lq _ _ _ e q, fun v G H e q => lq _ _ _ e q, fun _ _ _ _ z => z.elim, fun _ _ _ _ z => z.elim⟩
end Lw

namespace Lw
open PySem PySem.Spec PyProof.Rows L2
/-! ## defs by name -/
section
variable (P : Program) (w : World) (K : PySem.W.Frag) (mg : Str → Option Value) (base : Heap)
/-- the module's def x keeps the promise sp -/
structure Has (CX : CXT) (k : Nat) (x : Str) (ps : List Str) (sp : Sp) : Prop where
  ex : ∃ f fd, mg x = some (.ref f) ∧ PySem.W.keepIn K (.ref f) = true ∧ Binds K fd ps [] ∧ FnOk P w K mg base CX k f fd ps sp
/-- the method m of the class at C keeps it -/
structure HasM (CX : CXT) (k : Nat) (C : Addr) (m : Str) (ps : List Str) (sp : Sp) : Prop where
  ex : ∃ f fd, Meth K C m f ∧ Binds K fd ps [] ∧ FnOk P w K mg base CX k f fd ps sp
/-- the class at C is made by an __init__ that keeps it -/
structure HasI (CX : CXT) (k : Nat) (C : Addr) (ps : List Str) (sp : Sp) : Prop where
  ex : ∃ f fd, Mk K C f ∧ Binds K fd ps [] ∧ FnOk P w K mg base CX k f fd ps sp
end
/-- what the top has at a def's name -/
structure Fnd (K : PySem.W.Frag) (mg : Str → Option Value) (x : Str) (st : Stmt) : Prop where
  ex : ∃ f fd, mg x = some (.ref f) ∧ Fun K x x st f fd
/-- .. at a method's -/
structure FndM (K : PySem.W.Frag) (C : Addr) (m qual : Str) (st : Stmt) : Prop where
  ex : ∃ f fd, Meth K C m f ∧ Fun K m qual st f fd
/-- .. at a class's __init__ -/
structure FndI (K : PySem.W.Frag) (C : Addr) (qual : Str) (st : Stmt) : Prop where
  ex : ∃ f fd, Mk K C f ∧ Fun K "__init__" qual st f fd
section
variable {P : Program} {w : World} {K : PySem.W.Frag} {mg : Str → Option Value} {base : Heap}
abbrev BindOk (x qual : Str) (st : Stmt) (ps : List Str) : Prop := ∀ (kV doc pm : Value) (an : Option Addr) (cdv ct : Value) (us : List Value), us.length = ps.length → bindArgs (PySem.W.fnOf x qual (defArgs st) (defBody st) (defScope st) .none kV doc pm an cdv ct) ⟨us, []⟩ = pure (ps.zip us)
theorem fnok0 {x qual : Str} {st : Stmt} {f : Addr} {fd : FuncData} {N ps : List Str} {k : Nat} {S : Pm} {t : TS} (F : Fun K x qual st f fd) (sc : FnScope N ps (defScope st))
    (len : ∀ vs G Q E, S vs G Q E → vs.length = ps.length)
    (der : ∀ (f : Addr) (cdv : Value) (A : Around) (outer : List Env) (s : Shared) (H : Hp) (E : XK), Room k (A.deeper (envOfC qual (defScope st) s.heap.objs.size f cdv)) → PSs (cxOf CX0 P w K mg base N qual (defScope st) f cdv A outer s H E).nox (defBody st) t)
    (pure : ∀ vs G Q E, S vs G Q E → Es t { nx := fun _ G' => Q .non G', rt := Q } (start N vs) G) : FnOk P w K mg base CX0 (k + 1) f fd ps (up S) :=
  F.ok sc (fun vs H Q E ⟨G, Q0, E0, _, h, _⟩ => len vs G Q0 E0 h) fun cdv A outer s H vs Q E hr h => ⟨t, der f cdv A outer s H E hr, body_up pure vs H Q E h⟩
theorem Has.mk0 {x : Str} {st : Stmt} {N ps : List Str} {k : Nat} {S : Pm} {t : TS} (F : Fnd K mg x st) (sc : FnScope N ps (defScope st)) (hb : BindOk x x st ps)
    (len : ∀ vs G Q E, S vs G Q E → vs.length = ps.length)
    (der : ∀ (f : Addr) (cdv : Value) (A : Around) (outer : List Env) (s : Shared) (H : Hp) (E : XK), Room k (A.deeper (envOfC x (defScope st) s.heap.objs.size f cdv)) → PSs (cxOf CX0 P w K mg base N x (defScope st) f cdv A outer s H E).nox (defBody st) t)
    (pure : ∀ vs G Q E, S vs G Q E → Es t { nx := fun _ G' => Q .non G', rt := Q } (start N vs) G) : Has P w K mg base CX0 (k + 1) x ps (up S) := by
  obtain ⟨f, fd, hm, F⟩ := F.ex
  exact ⟨f, fd, hm, F.kp, F.binds hb, fnok0 F sc len der pure⟩
theorem HasM.mk0 {C : Addr} {m qual : Str} {st : Stmt} {N ps : List Str} {k : Nat} {S : Pm} {t : TS} (F : FndM K C m qual st) (sc : FnScope N ps (defScope st)) (hb : BindOk m qual st ps)
    (len : ∀ vs G Q E, S vs G Q E → vs.length = ps.length)
    (der : ∀ (f : Addr) (cdv : Value) (A : Around) (outer : List Env) (s : Shared) (H : Hp) (E : XK), Room k (A.deeper (envOfC qual (defScope st) s.heap.objs.size f cdv)) → PSs (cxOf CX0 P w K mg base N qual (defScope st) f cdv A outer s H E).nox (defBody st) t)
    (pure : ∀ vs G Q E, S vs G Q E → Es t { nx := fun _ G' => Q .non G', rt := Q } (start N vs) G) : HasM P w K mg base CX0 (k + 1) C m ps (up S) := by
  obtain ⟨f, fd, hm, F⟩ := F.ex
  exact ⟨f, fd, hm, F.binds hb, fnok0 F sc len der pure⟩
theorem HasI.mk0 {C : Addr} {qual : Str} {st : Stmt} {N ps : List Str} {k : Nat} {S : Pm} {t : TS} (F : FndI K C qual st) (sc : FnScope N ps (defScope st)) (hb : BindOk "__init__" qual st ps)
    (len : ∀ vs G Q E, S vs G Q E → vs.length = ps.length)
    (der : ∀ (f : Addr) (cdv : Value) (A : Around) (outer : List Env) (s : Shared) (H : Hp) (E : XK), Room k (A.deeper (envOfC qual (defScope st) s.heap.objs.size f cdv)) → PSs (cxOf CX0 P w K mg base N qual (defScope st) f cdv A outer s H E).nox (defBody st) t)
    (pure : ∀ vs G Q E, S vs G Q E → Es t { nx := fun _ G' => Q .non G', rt := Q } (start N vs) G) : HasI P w K mg base CX0 (k + 1) C ps (up S) := by
  obtain ⟨f, fd, hm, F⟩ := F.ex
  exact ⟨f, fd, hm, F.binds hb, fnok0 F sc len der pure⟩
/-- a promise that is never asked for -/
theorem Has.never {x : Str} {st : Stmt} {ps : List Str} {CX : CXT} {k : Nat} {S : Pm} (F : Fnd K mg x st) (hb : BindOk x x st ps) (no : ∀ vs G Q E, ¬ S vs G Q E) : Has P w K mg base CX k x ps (up S) := by
  obtain ⟨f, fd, hm, F⟩ := F.ex
  exact ⟨f, fd, hm, F.kp, F.binds hb, ⟨fun vs H Q E ⟨_, _, _, _, z, _⟩ => (no _ _ _ _ z).elim, fun _ _ _ _ _ _ _ _ _ _ _ _ _ ⟨_, _, _, _, z, _⟩ => (no _ _ _ _ z).elim⟩⟩
end
section
variable {X : Cx} {CX : CXT} {k : Nat} {C : Addr} {ps : List Str} {sp : Sp} {E : XK} {x m : Str} {p pos apos : Pos} {e o : Expr} {es : List Expr} {ta : TE} {t : TA}
theorem pe_callH (h : Has X.prog X.w X.K X.mg X.base CX k x ps sp) (hr : Room k X.A) (hg : Gl X x) (hx : Passes CX X E) (ha : PA X (e :: es) t)
    (hdb : (x == ("__debug__" : Str)) = false := by decide) (he : starEach (e :: es) X.env = (false, eval e X.env) :: starEach es X.env := by rfl) (hpl : (backTo pos (starEach es X.env)).any (·.1) = false := by rfl) :
    PE X (.Call (.Name x p) (e :: es) [] pos) (tCall sp [] E t) := by
  obtain ⟨f, fd, hm, kp, b, F⟩ := h.ex
  exact pe_call F hr hg hm kp b .nil hx ha hdb he hpl
theorem pe_callH0 (h : Has X.prog X.w X.K X.mg X.base CX k x ps sp) (hr : Room k X.A) (hg : Gl X x) (hx : Passes CX X E)
    (hdb : (x == ("__debug__" : Str)) = false := by decide) : PE X (.Call (.Name x p) [] [] pos) (tCall sp [] E tNil) := by
  obtain ⟨f, fd, hm, kp, b, F⟩ := h.ex
  exact pe_call0 F hr hg hm kp b .nil hx hdb
theorem pe_methH {pl : Sem Bool} (ho : PE X o ta) (c : Cls X.K C) (h : HasM X.prog X.w X.K X.mg X.base CX k C m ps sp) (hr : Room k X.A) (hx : Passes CX X E) (ha : PA X (e :: es) t)
    (hst : starEach (e :: es) X.env = (false, eval e X.env) :: starEach es X.env := by rfl) (hpl : (backTo pos (starEach es X.env)).any (·.1) = false := by rfl)
    (ht : eval (.Call (.Attribute o m apos) (e :: es) [] pos) X.env = (do
      let ov ← eval o X.env
      standAt apos.atName
      let (f, first) ← holding [ov] (getMethod ov m pl)
      callWith pos f first (backTo pos (starEach (e :: es) X.env)) (backToKw pos (keywordEach [] X.env))) := by rfl) :
    PE X (.Call (.Attribute o m apos) (e :: es) [] pos) (tMeth C m sp [] E ta t) := by
  obtain ⟨f, fd, hm, b, F⟩ := h.ex
  exact pe_meth ho c hm F hr b .nil hx ha hst hpl ht
theorem pe_methH0 {pl : Sem Bool} (ho : PE X o ta) (c : Cls X.K C) (h : HasM X.prog X.w X.K X.mg X.base CX k C m ps sp) (hr : Room k X.A) (hx : Passes CX X E)
    (ht : eval (.Call (.Attribute o m apos) [] [] pos) X.env = (do
      let ov ← eval o X.env
      standAt apos.atName
      let (f, first) ← holding [ov] (getMethod ov m pl)
      callWith pos f first (backTo pos (starEach [] X.env)) (backToKw pos (keywordEach [] X.env))) := by rfl) :
    PE X (.Call (.Attribute o m apos) [] [] pos) (tMeth C m sp [] E ta tNil) := by
  obtain ⟨f, fd, hm, b, F⟩ := h.ex
  exact pe_meth0 ho c hm F hr b .nil hx ht
theorem pe_makeH (h : HasI X.prog X.w X.K X.mg X.base CX k C ps sp) (hr : Room (k + 1) X.A) (hg : Gl X x) (hm : X.mg x = some (.ref C)) (hx : Passes CX X E) (ha : PA X (e :: es) t)
    (hdb : (x == ("__debug__" : Str)) = false := by decide) (he : starEach (e :: es) X.env = (false, eval e X.env) :: starEach es X.env := by rfl) (hpl : (backTo pos (starEach es X.env)).any (·.1) = false := by rfl) :
    PE X (.Call (.Name x p) (e :: es) [] pos) (tMake C sp [] E t) := by
  obtain ⟨f, fd, M, b, F⟩ := h.ex
  exact pe_make M F hr hg hm b .nil hx ha hdb he hpl
theorem pe_makeH0 (h : HasI X.prog X.w X.K X.mg X.base CX k C ps sp) (hr : Room (k + 1) X.A) (hg : Gl X x) (hm : X.mg x = some (.ref C)) (hx : Passes CX X E)
    (hdb : (x == ("__debug__" : Str)) = false := by decide) : PE X (.Call (.Name x p) [] [] pos) (tMake C sp [] E tNil) := by
  obtain ⟨f, fd, M, b, F⟩ := h.ex
  exact pe_make0 M F hr hg hm b .nil hx hdb
theorem rm64 {j : Nat} {A : Around} (r : Room j A) : A.units + 64 < cLine := r.units
theorem rm65 {j : Nat} {A : Around} (r : Room j A) : A.units + 65 < cLine := by have := r.un; omega
theorem rm0 {j : Nat} {A : Around} (r : Room j A) : A.units < cLine := r.units0
end
end Lw

namespace Lw
open PySem PySem.Spec PyProof.Rows L2
/-! ## ready forms -/
theorem ifd {P A B : Prop} [Decidable P] (h1 : P → A) (h2 : ¬ P → B) : if decide P = true then A else B := by
  by_cases h : P
  · rw [if_pos (decide_eq_true h)]; exact h1 h
  · rw [if_neg (by simp [h])]; exact h2 h
theorem ifnd {P A B : Prop} [Decidable P] (h1 : ¬ P → A) (h2 : P → B) : if (!decide P) = true then A else B := by
  by_cases h : P
  · rw [if_neg (by simp [h])]; exact h2 h
  · rw [if_pos (by simp [h])]; exact h1 h
theorem ite_nt {A B : Prop} (b : B) : if (!true) = true then A else B := by rw [if_neg (by decide)]; exact b
theorem ite_nf {A B : Prop} (a : A) : if (!false) = true then A else B := by rw [if_pos (by decide)]; exact a
theorem ift {c : Bool} {A B : Prop} (h : c = true) (a : A) : if c = true then A else B := by rw [if_pos h]; exact a
theorem iff_ {c : Bool} {A B : Prop} (h : c = false) (b : B) : if c = true then A else B := by rw [h]; exact iteF b
theorem ifb {c : Bool} {A B : Prop} (h1 : c = true → A) (h2 : c = false → B) : if c = true then A else B := by
  cases c with
  | true => exact iteT (h1 rfl)
  | false => exact iteF (h2 rfl)
theorem sz1000 {n : Nat} (h : n ≤ 1000) : n ≤ sizeLine := Nat.le_of_lt (small1000 h)
theorem szM {n : Nat} (h : n ≤ 16000000) : n ≤ sizeLine := Nat.le_trans h (by decide)
theorem szlt {n : Nat} (h : n < 16000000) : n < sizeLine := Nat.lt_of_lt_of_le h (by decide)
theorem line62 {n : Nat} (h : n ≤ sizeLine) : -(2 ^ 62) ≤ (n : Int) ∧ (n : Int) < 2 ^ 62 := by
  have : n ≤ 16777216 := by rw [← sizeLine_eq]; exact h
  omega
section
variable {σ : L2.St} {G : Hp} {D : Ek} {K : PySem.W.Frag}
theorem sqL_upd {a l : Addr} {o : HO} {xs : List V} (h : SqL K G l xs) (n : l ≠ a) : SqL K (upd G a o) l xs := by
  rcases h with (h | ⟨q, h⟩) | h
  · exact .inl (.inl (by rw [upd_ne n]; exact h))
  · exact .inl (.inr ⟨q, by rw [upd_ne n]; exact h⟩)
  · exact .inr h
theorem upd_comm {a b : Addr} {o u : HO} (h : a ≠ b) : upd (upd G a o) b u = upd (upd G b u) a o := by
  funext c; unfold upd; split
  · rename_i h1; subst h1; rw [if_neg (Ne.symm h)]
  · rfl
theorem get_new {a p : Addr} {o u : HO} (h : G a = some o) (n : G p = none) : upd G p u a = some o := by rw [upd_ne (ne_of_none h n)]; exact h
theorem get_ne {a p : Addr} {o u : HO} (h : G a = some o) (n : a ≠ p) : upd G p u a = some o := by rw [upd_ne n]; exact h
theorem nul_ne {a p : Addr} {u : HO} (h : G a = none) (n : a ≠ p) : upd G p u a = none := by rw [upd_ne n]; exact h
theorem ne_new {a p : Addr} {o : HO} (h : G a = some o) (n : G p = none) : a ≠ p := ne_of_none h n
theorem new_ne {a p : Addr} {o : HO} (h : G a = some o) (n : G p = none) : p ≠ a := (ne_of_none h n).symm
theorem nul_upd {a p : Addr} {u : HO} (h : upd G p u a = none) : G a = none := by
  by_cases q : a = p
  · subst q; rw [upd_same] at h; cases h
  · rw [upd_ne q] at h; exact h
theorem nul_updN {a p : Addr} {u : HO} (h : upd G p u a = none) : a ≠ p := by
  rintro rfl; rw [upd_same] at h; cases h
theorem er_isN_non {Q : V → Hp → Prop} (q : Q (.bl true) G) : Er rIsN .non .non G Q := er_isN q
theorem er_isN_bl {b : Bool} {Q : V → Hp → Prop} (q : Q (.bl false) G) : Er rIsN (.bl b) .non G Q := er_isN q
theorem er_isN_int {b : Int} {Q : V → Hp → Prop} (q : Q (.bl false) G) : Er rIsN (.int b) .non G Q := er_isN q
theorem er_isN_str {b : Str} {Q : V → Hp → Prop} (q : Q (.bl false) G) : Er rIsN (.str b) .non G Q := er_isN q
theorem er_isN_ref {b : Addr} {Q : V → Hp → Prop} (q : Q (.bl false) G) : Er rIsN (.ref b) .non G Q := er_isN q
theorem er_notN_non {Q : V → Hp → Prop} (q : Q (.bl false) G) : Er rNotN .non .non G Q := er_notN q
theorem er_notN_bl {b : Bool} {Q : V → Hp → Prop} (q : Q (.bl true) G) : Er rNotN (.bl b) .non G Q := er_notN q
theorem er_notN_int {b : Int} {Q : V → Hp → Prop} (q : Q (.bl true) G) : Er rNotN (.int b) .non G Q := er_notN q
theorem er_notN_str {b : Str} {Q : V → Hp → Prop} (q : Q (.bl true) G) : Er rNotN (.str b) .non G Q := er_notN q
theorem er_notN_ref {b : Addr} {Q : V → Hp → Prop} (q : Q (.bl true) G) : Er rNotN (.ref b) .non G Q := er_notN q
theorem tru_bl {b : Bool} {R : Bool → Prop} (q : R b) : ∃ k, TruV K (.bl b) G k ∧ R k := ⟨b, rfl, q⟩
theorem tru_int {b : Int} {R : Bool → Prop} (q : R (b != 0)) : ∃ k, TruV K (.int b) G k ∧ R k := ⟨_, rfl, q⟩
theorem tru_non {R : Bool → Prop} (q : R false) : ∃ k, TruV K .non G k ∧ R k := ⟨_, rfl, q⟩
theorem ex_bl {b : Bool} {R : Bool → Prop} (q : R b) : ∃ c, V.bl b = .bl c ∧ R c := ⟨b, rfl, q⟩
theorem ex_int {b : Int} {R : Int → Prop} (q : R b) : ∃ c, V.int b = .int c ∧ R c := ⟨b, rfl, q⟩
theorem ex_str {b : Str} {R : Str → Prop} (q : R b) : ∃ c, V.str b = .str c ∧ R c := ⟨b, rfl, q⟩
theorem ex_strx {b : Str} {R : Prop} (q : R) : (∃ c, V.str b = .str c) ∧ R := ⟨⟨b, rfl⟩, q⟩
theorem ex_ints1 {b : Int} {R : Int → Prop} (q : R b) : ∃ c, [V.int b] = [.int c] ∧ R c := ⟨b, rfl, q⟩
theorem ex_ints2 {a b : Int} {R : Int → Int → Prop} (q : R a b) : ∃ c d, [V.int a, V.int b] = [.int c, .int d] ∧ R c d := ⟨a, b, rfl, q⟩
def EsU (t : TS) (D : Ek) (σ : L2.St) (G : Hp) : Prop := Es t D σ G
theorem es_unf {t : TS} (h : EsU t D σ G) : Es t D σ G := h
/-! sequences of either sort -/
def Sq (K : PySem.W.Frag) (G : Hp) (a : Addr) (xs : List V) : Prop := SqL K G a xs ∨ SqT K G a xs
theorem ec_lenU {p : Addr} {xs : List V} {Q : V → Hp → Prop} (h : Sq K G p xs) (q : xs.length ≤ sizeLine → Q (.int xs.length) G) : Ec (rLenU K) [.ref p] G Q := h.elim (fun h => ec_lenL h q) fun h => ec_lenT h q
theorem er_ixU {p : Addr} {i : Int} {xs : List V} {v : V} {Q : V → Hp → Prop} (h : Sq K G p xs) (a : atI xs i = some v) (q : Q v G) : Er (rIx K) (.ref p) (.int i) G Q := h.elim (fun h => er_ixL h a q) fun h => er_ixT h a q
/-! data -/
theorem dp_list {v : V} {ds : List PyData} (h : Dp K G v (.list ds)) : ∃ a xs, v = .ref a ∧ SqL K G a xs ∧ DpAll K G xs ds := by cases h with | lst h1 h2 => exact ⟨_, _, rfl, h1, h2⟩
theorem dp_tup {v : V} {ds : List PyData} (h : Dp K G v (.tuple ds)) : ∃ a xs, v = .ref a ∧ SqT K G a xs ∧ DpAll K G xs ds := by cases h with | tup h1 h2 => exact ⟨_, _, rfl, h1, h2⟩
theorem dps_len : ∀ {xs : List V} {ds : List PyData}, DpAll K G xs ds → xs.length = ds.length
  | _, _, .nil => rfl
  | _, _, .cons _ t => by rw [List.length_cons, List.length_cons, dps_len t]
theorem dps_get : ∀ {xs : List V} {ds : List PyData} {i : Nat} {d : PyData}, DpAll K G xs ds → ds[i]? = some d → ∃ x, xs[i]? = some x ∧ Dp K G x d
  | _, _, _, _, .nil, h => by cases h
  | _, _, 0, _, .cons h _, e => by cases e; exact ⟨_, rfl, h⟩
  | _, _, i + 1, _, .cons _ t, e => dps_get (i := i) t e
theorem dps_get' : ∀ {xs : List V} {ds : List PyData} {i : Nat} {x : V}, DpAll K G xs ds → xs[i]? = some x → ∃ d, ds[i]? = some d ∧ Dp K G x d
  | _, _, _, _, .nil, h => by cases h
  | _, _, 0, _, .cons h _, e => by cases e; exact ⟨_, rfl, h⟩
  | _, _, i + 1, _, .cons _ t, e => dps_get' (i := i) t e
theorem dps_app : ∀ {xs ys : List V} {ds es : List PyData}, DpAll K G xs ds → DpAll K G ys es → DpAll K G (xs ++ ys) (ds ++ es)
  | _, _, _, _, .nil, h => h
  | _, _, _, _, .cons h t, k => .cons h (dps_app t k)
theorem dps_one {v : V} {d : PyData} (h : Dp K G v d) : DpAll K G [v] [d] := .cons h .nil
theorem dps_ints : ∀ ns : List Int, DpAll K G (ns.map V.int) (ns.map PyData.int)
  | [] => .nil
  | n :: r => .cons (.int n) (dps_ints r)
/-! data without lists: stays whatever happens to other things than tuples -/
def Tx (G H : Hp) : Prop := ∀ a xs, Rd G a (.tup xs) → Rd H a (.tup xs)
theorem Tx.refl : Tx G G := fun _ _ h => h
theorem Tx.trans {H I : Hp} (a : Tx G H) (b : Tx H I) : Tx G I := fun x o h => b x o (a x o h)
theorem Ex.tx {H : Hp} (e : Ex G H) : Tx G H := fun _ _ h => e.rd h
def NoTup (G : Hp) (p : Addr) : Prop := ∀ xs, ¬ Rd G p (.tup xs)
theorem noTup_lst {p : Addr} {xs : List V} (h : G p = some (.lst xs)) : NoTup G p := by
  rintro ys (h' | ⟨o, h'⟩) <;> (rw [h] at h'; cases h')
theorem noTup_ins {p C dx : Addr} {fs : List (Str × V)} (h : G p = some (.ins C dx fs)) : NoTup G p := by
  rintro ys (h' | ⟨o, h'⟩) <;> (rw [h] at h'; cases h')
theorem noTup_nul {p : Addr} (h : G p = none) : NoTup G p := by
  rintro ys (h' | ⟨o, h'⟩) <;> (rw [h] at h'; cases h')
theorem Tx.upd {p : Addr} {o : HO} (h : NoTup G p) : Tx G (upd G p o) := fun a xs r => by
  have n : a ≠ p := fun e => h xs (e ▸ r)
  rcases r with r | ⟨q, r⟩
  · exact .inl (by rw [upd_ne n]; exact r)
  · exact .inr ⟨q, by rw [upd_ne n]; exact r⟩
theorem Tx.st {H : Hp} {a : Addr} {xs : List V} (e : Tx G H) (h : SqT K G a xs) : SqT K H a xs := h.elim (fun r => .inl (e _ _ r)) .inr
mutual
inductive Im (K : PySem.W.Frag) (G : Hp) : V → PyData → Prop
  | non : Im K G .non .none
  | bl (b : Bool) : Im K G (.bl b) (.bool b)
  | int (i : Int) : Im K G (.int i) (.int i)
  | str (x : Str) : Im K G (.str x) (.str x)
  | tup {a : Addr} {xs : List V} {ds : List PyData} : SqT K G a xs → Ims K G xs ds → Im K G (.ref a) (.tuple ds)
inductive Ims (K : PySem.W.Frag) (G : Hp) : List V → List PyData → Prop
  | nil : Ims K G [] []
  | cons {v : V} {vs : List V} {d : PyData} {ds : List PyData} : Im K G v d → Ims K G vs ds → Ims K G (v :: vs) (d :: ds)
end
mutual
theorem Im.dp : ∀ {v : V} {d : PyData}, Im K G v d → Dp K G v d
  | _, _, .non => .non
  | _, _, .bl b => .bl b
  | _, _, .int i => .int i
  | _, _, .str x => .str x
  | _, _, .tup s h => .tup s h.dps
theorem Ims.dps : ∀ {v : List V} {d : List PyData}, Ims K G v d → DpAll K G v d
  | _, _, .nil => .nil
  | _, _, .cons h t => .cons h.dp t.dps
end
mutual
theorem Tx.im {H : Hp} (e : Tx G H) : ∀ {v : V} {d : PyData}, Im K G v d → Im K H v d
  | _, _, .non => .non
  | _, _, .bl b => .bl b
  | _, _, .int i => .int i
  | _, _, .str x => .str x
  | _, _, .tup s h => .tup (e.st s) (e.ims h)
theorem Tx.ims {H : Hp} (e : Tx G H) : ∀ {v : List V} {d : List PyData}, Ims K G v d → Ims K H v d
  | _, _, .nil => .nil
  | _, _, .cons h t => .cons (e.im h) (e.ims t)
end
theorem im_tup {v : V} {ds : List PyData} (h : Im K G v (.tuple ds)) : ∃ a xs, v = .ref a ∧ SqT K G a xs ∧ Ims K G xs ds := by cases h with | tup h1 h2 => exact ⟨_, _, rfl, h1, h2⟩
theorem ims_len : ∀ {xs : List V} {ds : List PyData}, Ims K G xs ds → xs.length = ds.length
  | _, _, .nil => rfl
  | _, _, .cons _ t => by rw [List.length_cons, List.length_cons, ims_len t]
theorem ims_get : ∀ {xs : List V} {ds : List PyData} {i : Nat} {d : PyData}, Ims K G xs ds → ds[i]? = some d → ∃ x, xs[i]? = some x ∧ Im K G x d
  | _, _, _, _, .nil, h => by cases h
  | _, _, 0, _, .cons h _, e => by cases e; exact ⟨_, rfl, h⟩
  | _, _, i + 1, _, .cons _ t, e => ims_get (i := i) t e
theorem ims_get' : ∀ {xs : List V} {ds : List PyData} {i : Nat} {x : V}, Ims K G xs ds → xs[i]? = some x → ∃ d, ds[i]? = some d ∧ Im K G x d
  | _, _, _, _, .nil, h => by cases h
  | _, _, 0, _, .cons h _, e => by cases e; exact ⟨_, rfl, h⟩
  | _, _, i + 1, _, .cons _ t, e => ims_get' (i := i) t e
theorem ims_app : ∀ {xs ys : List V} {ds es : List PyData}, Ims K G xs ds → Ims K G ys es → Ims K G (xs ++ ys) (ds ++ es)
  | _, _, _, _, .nil, h => h
  | _, _, _, _, .cons h t, k => .cons h (ims_app t k)
theorem ims_one {v : V} {d : PyData} (h : Im K G v d) : Ims K G [v] [d] := .cons h .nil
theorem ims_ints : ∀ ns : List Int, Ims K G (ns.map V.int) (ns.map PyData.int)
  | [] => .nil
  | n :: r => .cons (.int n) (ims_ints r)
/-! loops with a name for a target -/
abbrev Bd (D : Ek) (N : L2.St → Hp → Prop) : Ek := { D with nx := N, ct := N, bk := D.nx }
theorem es_forR1 {ta : TA} {j : Nat} {tb : TS} (h : Ea ta σ G fun vs G1 => ∃ n : Int, vs = [.int n] ∧ (-(2 ^ 62) ≤ n ∧ n < 2 ^ 62) ∧ ∃ Pv : Nat → L2.St → Hp → Prop, Pv 0 σ G1 ∧
    (∀ (i : Nat) σ G, (i : Int) < n → Pv i σ G → Es tb (Bd D (Pv (i + 1))) (σ.set j (some (.int (i : Int)))) G) ∧ (∀ σ G, Pv n.toNat σ G → D.nx σ G)) : Es (tFor (iRng1 ta) (gName j) tb) D σ G := by
  refine es_for (ei_r1 fun H Q' e l => h H _ e fun vs G1 H1 e1 ⟨n, h1, ⟨h2, h3⟩, Pv, h4, h5, h6⟩ => l _ G1 H1 e1 ⟨n, h1, h2, h3, _, _, _, wk_range, Pv, h4, fun _ _ _ _ _ => trivial, fun i x σ G G' hi p y => ?_, h6⟩)
  obtain ⟨rfl, y⟩ := y
  have : x = .int (i : Int) := by rw [← Option.some.inj y, Int.zero_add]
  subst this
  exact eg_name (h5 i σ G' (by omega) p)
theorem es_forR2 {ta : TA} {j : Nat} {tb : TS} (h : Ea ta σ G fun vs G1 => ∃ lo n : Int, vs = [.int lo, .int n] ∧ (-(2 ^ 62) ≤ lo ∧ lo < 2 ^ 62 ∧ -(2 ^ 62) ≤ n ∧ n < 2 ^ 62) ∧ ∃ Pv : Nat → L2.St → Hp → Prop, Pv 0 σ G1 ∧
    (∀ (i : Nat) σ G, lo + (i : Int) < n → Pv i σ G → Es tb (Bd D (Pv (i + 1))) (σ.set j (some (.int (lo + (i : Int))))) G) ∧ (∀ σ G, Pv (n - lo).toNat σ G → D.nx σ G)) : Es (tFor (iRng2 ta) (gName j) tb) D σ G := by
  refine es_for (ei_r2 fun H Q' e l => h H _ e fun vs G1 H1 e1 ⟨lo, n, h1, h2, Pv, h4, h5, h6⟩ => l _ G1 H1 e1 ⟨lo, n, h1, h2, _, _, _, wk_range, Pv, h4, fun _ _ _ _ _ => trivial, fun i x σ G G' hi p y => ?_, h6⟩)
  obtain ⟨rfl, y⟩ := y
  have : x = .int (lo + (i : Int)) := (Option.some.inj y).symm
  subst this
  exact eg_name (h5 i σ G' (by omega) p)
theorem es_forL {tl : TE} {g : TG} {tb : TS} (h : Ee tl σ G fun v G1 => ∃ a xs, v = .ref a ∧ SqL K G1 a xs ∧ ∃ Pv : Nat → L2.St → Hp → Prop, Pv 0 σ G1 ∧ (∀ i σ G, Pv i σ G → SqL K G a xs) ∧
    (∀ i x σ G, xs[i]? = some x → Pv i σ G → Eg g x σ G fun σ2 G2 => Es tb (Bd D (Pv (i + 1))) σ2 G2) ∧ (∀ σ G, Pv xs.length σ G → D.nx σ G)) : Es (tFor (iList K tl) g tb) D σ G := by
  refine es_for (ei_list fun H Q' e l => h H _ e fun v G1 H1 e1 ⟨a, xs, h1, h2, Pv, h3, h4, h5, h6⟩ => l _ G1 H1 e1 ⟨a, xs, h1, h2, _, _, _, wk_list, Pv, h3, fun i σ G _ p => h4 i σ G p, fun i x σ G G' hi p y => ?_, h6⟩)
  obtain ⟨rfl, y⟩ := y
  exact h5 i x σ G' y p
theorem es_forT {tl : TE} {g : TG} {tb : TS} (h : Ee tl σ G fun v G1 => ∃ a xs, v = .ref a ∧ SqT K G1 a xs ∧ ∃ Pv : Nat → L2.St → Hp → Prop, Pv 0 σ G1 ∧ (∀ i σ G, Pv i σ G → SqT K G a xs) ∧
    (∀ i x σ G, xs[i]? = some x → Pv i σ G → Eg g x σ G fun σ2 G2 => Es tb (Bd D (Pv (i + 1))) σ2 G2) ∧ (∀ σ G, Pv xs.length σ G → D.nx σ G)) : Es (tFor (iTup K tl) g tb) D σ G := by
  refine es_for (ei_tup fun H Q' e l => h H _ e fun v G1 H1 e1 ⟨a, xs, h1, h2, Pv, h3, h4, h5, h6⟩ => l _ G1 H1 e1 ⟨a, xs, h1, h2, _, _, _, wk_tup, Pv, h3, fun i σ G _ p => h4 i σ G p, fun i x σ G G' hi p y => ?_, h6⟩)
  obtain ⟨rfl, y⟩ := y
  exact h5 i x σ G' y p
theorem es_forS {te : TE} {j : Nat} {tb : TS} (h : Ee te σ G fun v G1 => ∃ z, v = .str z ∧ ∃ Pv : Nat → L2.St → Hp → Prop, Pv 0 σ G1 ∧
    (∀ i c σ G, z.cps[i]? = some c → Pv i σ G → Es tb (Bd D (Pv (i + 1))) (σ.set j (some (.str ⟨#[c]⟩))) G) ∧ (∀ σ G, Pv z.cps.size σ G → D.nx σ G)) : Es (tFor (iStr te) (gName j) tb) D σ G := by
  refine es_for (ei_str fun H Q' e l => h H _ e fun v G1 H1 e1 ⟨z, h1, Pv, h3, h5, h6⟩ => l _ G1 H1 e1 ⟨z, h1, _, _, _, wk_str, Pv, h3, fun _ _ _ _ _ => trivial, fun i x σ G G' hi p y => ?_, h6⟩)
  obtain ⟨rfl, y⟩ := y
  obtain ⟨c, hc, rfl⟩ := Option.map_eq_some_iff.mp y
  exact eg_name (h5 i c σ G' hc p)
theorem es_forZ {ta : TA} {g1 g2 : TG} {tb : TS} (h : Ea ta σ G fun vs G1 => ∃ a b xs ys, vs = [.ref a, .ref b] ∧ SqL K G1 a xs ∧ SqL K G1 b ys ∧ ∃ Pv : Nat → L2.St → Hp → Prop, Pv 0 σ G1 ∧ (∀ i σ G, Pv i σ G → SqL K G a xs ∧ SqL K G b ys) ∧
    (∀ i x y σ G T, xs[i]? = some x → ys[i]? = some y → Pv i σ G → G T = none → Egs (gCons g1 (gCons g2 gNil)) [x, y] σ (upd G T (.tup [x, y])) fun σ2 G2 => Es tb (Bd D (Pv (i + 1))) σ2 G2) ∧ (∀ σ G, Pv (min xs.length ys.length) σ G → D.nx σ G)) :
    Es (tFor (iZip K ta) (gTup K 2 (gCons g1 (gCons g2 gNil))) tb) D σ G := by
  refine es_for (ei_zip fun H Q' e l => h H _ e fun vs G1 H1 e1 ⟨a, b, xs, ys, h1, h2, h3, Pv, h4, h5, h6, h7⟩ => l _ G1 H1 e1 ⟨a, b, xs, ys, h1, h2, h3, _, _, _, wk_zip rfl, Pv, h4, fun i σ G _ p => h5 i σ G p, fun i x σ G G' hi p y => ?_, h7⟩)
  obtain ⟨T, x1, y1, rfl, nT, rfl, e1, e2⟩ := y
  exact eg_tup (SqT.of upd_same) rfl (h6 i x1 y1 σ G T e1 e2 p nT)
theorem es_forEn {ta : TA} {g1 g2 : TG} {tb : TS} (h : Ea ta σ G fun vs G1 => ∃ a xs, vs = [.ref a] ∧ SqL K G1 a xs ∧ ∃ Pv : Nat → L2.St → Hp → Prop, Pv 0 σ G1 ∧ (∀ i σ G, Pv i σ G → SqL K G a xs) ∧
    (∀ (i : Nat) x σ G T, xs[i]? = some x → Pv i σ G → G T = none → Egs (gCons g1 (gCons g2 gNil)) [.int (i : Int), x] σ (upd G T (.tup [.int (i : Int), x])) fun σ2 G2 => Es tb (Bd D (Pv (i + 1))) σ2 G2) ∧ (∀ σ G, Pv xs.length σ G → D.nx σ G)) :
    Es (tFor (iEnum K ta) (gTup K 2 (gCons g1 (gCons g2 gNil))) tb) D σ G := by
  refine es_for (ei_enum fun H Q' e l => h H _ e fun vs G1 H1 e1 ⟨a, xs, h1, h2, Pv, h4, h5, h6, h7⟩ => l _ G1 H1 e1 ⟨a, xs, h1, h2, _, _, _, wk_enum, Pv, h4, fun i σ G _ p => h5 i σ G p, fun i x σ G G' hi p y => ?_, h7⟩)
  obtain ⟨T, x1, y1, rfl, nT, rfl, e1, e2⟩ := y
  cases e1
  exact eg_tup (SqT.of upd_same) rfl (h6 i y1 σ G T e2 p nT)
/-! comprehensions -/
theorem ee_lcZ {ta : TA} {g1 g2 : TG} {tt : TT} {te : TE} {vs : List Nat} {Q : V → Hp → Prop}
    (h : Ea ta σ G fun us G1 => ∃ a b xs ys, us = [.ref a, .ref b] ∧ SqL K G1 a xs ∧ SqL K G1 b ys ∧ ∀ p, G1 p = none → ∃ Pv : Nat → List V → Hp → Prop, Pv 0 [] G1 ∧ (∀ i acc G, Pv i acc G → G p = none ∧ acc.length < sizeLine ∧ SqL K G a xs ∧ SqL K G b ys) ∧
      (∀ i acc x y G T, xs[i]? = some x → ys[i]? = some y → Pv i acc G → upd G p (.lst acc) T = none → Egs (gCons g1 (gCons g2 gNil)) [x, y] (wipe σ vs) (upd (upd G p (.lst acc)) T (.tup [x, y])) fun σ2 G2 => wipe σ2 vs = wipe σ vs ∧ Et tt σ2 G2 fun b G3 =>
        if b = true then Ee te σ2 G3 fun y G4 => G4 p = some (.lst acc) ∧ ∃ G5, Ex (upd G5 p (.lst acc)) G4 ∧ Pv (i + 1) (acc ++ [y]) G5 else G3 p = some (.lst acc) ∧ ∃ G5, Ex (upd G5 p (.lst acc)) G3 ∧ Pv (i + 1) acc G5) ∧
      (∀ acc G, Pv (min xs.length ys.length) acc G → Q (.ref p) (upd G p (.lst acc)))) : Ee (tLc (iZip K ta) (gTup K 2 (gCons g1 (gCons g2 gNil))) tt te vs) σ G Q := by
  refine ee_lc (ei_zip fun H Q' e l => h H _ e fun us G1 H1 e1 ⟨a, b, xs, ys, h1, h2, h3, hh⟩ => l _ G1 H1 e1 ⟨a, b, xs, ys, h1, h2, h3, _, (fun G => SqL K G a xs ∧ SqL K G b ys), _, wk_zip (a := a) (b := b) (xs := xs) (ys := ys) rfl, fun G p o hg hn => ⟨(Ex.new hn).sl hg.1, (Ex.new hn).sl hg.2⟩, fun p hp => ?_⟩)
  obtain ⟨Pv, h4, h5, h6, h7⟩ := hh p hp
  refine ⟨Pv, h4, fun i acc G _ p => h5 i acc G p, fun i acc x G G' hi p y => ?_, h7⟩
  obtain ⟨T, x1, y1, rfl, nT, rfl, e1, e2⟩ := y
  exact eg_tup (SqT.of upd_same) rfl (h6 i acc x1 y1 G T e1 e2 p nT)
theorem ee_lcL {tl : TE} {g : TG} {tt : TT} {te : TE} {vs : List Nat} {Q : V → Hp → Prop}
    (h : Ee tl σ G fun v G1 => ∃ a xs, v = .ref a ∧ SqL K G1 a xs ∧ ∀ p, G1 p = none → ∃ Pv : Nat → List V → Hp → Prop, Pv 0 [] G1 ∧ (∀ i acc G, Pv i acc G → G p = none ∧ acc.length < sizeLine ∧ SqL K G a xs) ∧
      (∀ i acc x G, xs[i]? = some x → Pv i acc G → Eg g x (wipe σ vs) (upd G p (.lst acc)) fun σ2 G2 => wipe σ2 vs = wipe σ vs ∧ Et tt σ2 G2 fun b G3 =>
        if b = true then Ee te σ2 G3 fun y G4 => G4 p = some (.lst acc) ∧ ∃ G5, Ex (upd G5 p (.lst acc)) G4 ∧ Pv (i + 1) (acc ++ [y]) G5 else G3 p = some (.lst acc) ∧ ∃ G5, Ex (upd G5 p (.lst acc)) G3 ∧ Pv (i + 1) acc G5) ∧
      (∀ acc G, Pv xs.length acc G → Q (.ref p) (upd G p (.lst acc)))) : Ee (tLc (iList K tl) g tt te vs) σ G Q := by
  refine ee_lc (ei_list fun H Q' e l => h H _ e fun v G1 H1 e1 ⟨a, xs, h1, h2, hh⟩ => l _ G1 H1 e1 ⟨a, xs, h1, h2, _, (fun G => SqL K G a xs), _, wk_list (a := a) (xs := xs), fun G p o hg hn => (Ex.new hn).sl hg, fun p hp => ?_⟩)
  obtain ⟨Pv, h4, h5, h6, h7⟩ := hh p hp
  refine ⟨Pv, h4, fun i acc G _ p => h5 i acc G p, fun i acc x G G' hi p y => ?_, h7⟩
  obtain ⟨rfl, y⟩ := y
  exact h6 i acc x G y p
theorem ee_lcR1 {ta : TA} {j : Nat} {tt : TT} {te : TE} {vs : List Nat} {Q : V → Hp → Prop}
    (h : Ea ta σ G fun us G1 => ∃ n : Int, us = [.int n] ∧ (-(2 ^ 62) ≤ n ∧ n < 2 ^ 62) ∧ ∀ p, G1 p = none → ∃ Pv : Nat → List V → Hp → Prop, Pv 0 [] G1 ∧ (∀ i acc G, Pv i acc G → G p = none ∧ acc.length < sizeLine) ∧
      (∀ (i : Nat) acc G, (i : Int) < n → Pv i acc G → wipe ((wipe σ vs).set j (some (.int (i : Int)))) vs = wipe σ vs ∧ Et tt ((wipe σ vs).set j (some (.int (i : Int)))) (upd G p (.lst acc)) fun b G3 =>
        if b = true then Ee te ((wipe σ vs).set j (some (.int (i : Int)))) G3 fun y G4 => G4 p = some (.lst acc) ∧ ∃ G5, Ex (upd G5 p (.lst acc)) G4 ∧ Pv (i + 1) (acc ++ [y]) G5 else G3 p = some (.lst acc) ∧ ∃ G5, Ex (upd G5 p (.lst acc)) G3 ∧ Pv (i + 1) acc G5) ∧
      (∀ acc G, Pv n.toNat acc G → Q (.ref p) (upd G p (.lst acc)))) : Ee (tLc (iRng1 ta) (gName j) tt te vs) σ G Q := by
  refine ee_lc (ei_r1 fun H Q' e l => h H _ e fun us G1 H1 e1 ⟨n, h1, ⟨h2, h3⟩, hh⟩ => l _ G1 H1 e1 ⟨n, h1, h2, h3, _, _, _, wk_range, fun G p o hg hn => trivial, fun p hp => ?_⟩)
  obtain ⟨Pv, h4, h5, h6, h7⟩ := hh p hp
  refine ⟨Pv, h4, fun i acc G _ p => ⟨(h5 i acc G p).1, (h5 i acc G p).2, trivial⟩, fun i acc x G G' hi p y => ?_, h7⟩
  obtain ⟨rfl, y⟩ := y
  have : x = .int (i : Int) := by rw [← Option.some.inj y, Int.zero_add]
  subst this
  exact eg_name (h6 i acc G (by omega) p)
end
end Lw

namespace Lw
open PySem PySem.Spec PyProof.Rows L2
section
variable {σ : L2.St} {G : Hp} {D : Ek} {K : PySem.W.Frag}
def rInsertU : V → List V → Hp → VK → Prop := fun x vs H Q => ∃ (l : Addr) (xs : List V) (i : Int) (y : V), x = .ref l ∧ vs = [.int i, y] ∧ H l = some (.lst xs) ∧ xs.length < sizeLine ∧ 0 ≤ i ∧ i < 2 ^ 63 ∧
    Q .non (upd H l (.lst (xs.take i.toNat ++ [y] ++ xs.drop i.toNat)))
theorem mt_insertU {X : Cx} : MtR X "list.insert" rInsertU := mt_insert
theorem em_insert {l : Addr} {xs : List V} {i : Nat} {y : V} {Q : V → Hp → Prop} (h : G l = some (.lst xs)) (hz : xs.length < sizeLine) (hi : i < 2 ^ 63) (q : Q .non (upd G l (.lst (xs.take i ++ [y] ++ xs.drop i)))) : Em rInsertU (.ref l) [.int (i : Int), y] G Q := fun H Q' e k =>
  ⟨l, xs, i, y, rfl, rfl, e _ _ h, hz, Int.natCast_nonneg _, by omega, k _ _ _ e.put q⟩
theorem eg_lst {n : Nat} {t : TGs} {a : Addr} {xs : List V} {Q : L2.St → Hp → Prop} (h : SqL K G a xs) (hn : xs.length = n) (q : Egs t xs σ G Q) : Eg (gLst K n t) (.ref a) σ G Q := fun H Q' e l =>
  ⟨a, xs, rfl, e.sl h, hn, q H Q' e l⟩
theorem em_popAt {p : Addr} {xs : List V} {y : V} {i : Nat} {Q : V → Hp → Prop} (h : G p = some (.lst xs)) (hz : xs.length < 2 ^ 62) (hy : xs[i]? = some y) (q : Q y (upd G p (.lst (xs.eraseIdx i)))) : Em rPopAt (.ref p) [.int (i : Int)] G Q := fun H Q' e l => by
  have hi := (List.getElem?_eq_some_iff.mp hy).1
  exact ⟨p, xs, i, i, y, rfl, rfl, e _ _ h, by omega, by omega, by rw [seqIndex_of (by omega) (by omega)]; simp, hy, l _ _ _ e.put q⟩
theorem Eg.weak {G' : Hp} {g : TG} {v : V} {Q : L2.St → Hp → Prop} (e : Ex G G') (h : Eg g v σ G Q) : Eg g v σ G' Q := fun H D' x l => h H D' (e.trans x) l
theorem Er.weak {G' : Hp} {r : R2} {x y : V} {Q : V → Hp → Prop} (e : Ex G G') (h : Er r x y G Q) : Er r x y G' Q := fun H D' z l => h H D' (e.trans z) l
theorem Et.weak {G' : Hp} {t : TT} {Q : Bool → Hp → Prop} (e : Ex G G') (h : Et t σ G Q) : Et t σ G' Q := fun H D' z l => h H D' (e.trans z) l
theorem Ec.weak {G' : Hp} {r : List V → Hp → VK → Prop} {x : List V} {Q : V → Hp → Prop} (e : Ex G G') (h : Ec r x G Q) : Ec r x G' Q := fun H D' z l => h H D' (e.trans z) l
theorem Em.weak {G' : Hp} {r : V → List V → Hp → VK → Prop} {y : V} {x : List V} {Q : V → Hp → Prop} (e : Ex G G') (h : Em r y x G Q) : Em r y x G' Q := fun H D' z l => h H D' (e.trans z) l
theorem ex_swap {p p2 : Addr} {u o : HO} (hp : G p = none) : Ex (upd G p2 o) (upd (upd G p u) p2 o) := (Ex.new hp).put
theorem er_eqNI {i : Int} {Q : V → Hp → Prop} (q : Q (.bl false) G) : Er (rEqU K) .non (.int i) G Q := er_orL fun H Q' e l => ⟨rfl, l _ G H e (by rw [decide_eq_false (by intro z; cases z)]; exact q)⟩
/-! pieces of a heap, apart from one another -/
def Dis (F R : Hp) : Prop := ∀ a, F a = none ∨ R a = none
theorem Dis.symm {F R : Hp} (d : Dis F R) : Dis R F := fun a => (d a).symm
theorem Dis.put {F R : Hp} {p : Addr} {o : HO} (d : Dis F R) (h : R p = none) : Dis (upd F p o) R := fun a => by
  by_cases e : a = p
  · exact .inr (e ▸ h)
  · rw [upd_ne e]; exact d a
def Fr (F G F' G' : Hp) : Prop := ∀ R, Dis F R → Ex R G → Ex R G' ∧ Dis F' R
theorem Fr.refl {F : Hp} : Fr F G F G := fun _ d e => ⟨e, d⟩
theorem Fr.trans {F F1 F2 G1 G2 : Hp} (a : Fr F G F1 G1) (b : Fr F1 G1 F2 G2) : Fr F G F2 G2 := fun R d e => let ⟨e1, d1⟩ := a R d e; b R d1 e1
theorem Fr.new {F : Hp} {p : Addr} {o : HO} (h : G p = none) : Fr F G (upd F p o) (upd G p o) := fun R d e => ⟨e.trans (Ex.new h), d.put (e.nul h)⟩
theorem Fr.mut {F : Hp} {p : Addr} {o u : HO} (h : F p = some u) : Fr F G (upd F p o) (upd G p o) := fun R d e => by
  have n : R p = none := (d p).resolve_left (by rw [h]; simp)
  exact ⟨e.mut n, d.put n⟩
theorem Fr.junk {F G' : Hp} (h : Ex G G') : Fr F G F G' := fun R d e => ⟨e.trans h, d⟩
/-- the pieces are known and apart -/
structure Ap (L : List Hp) (G : Hp) : Prop where
  ex : ∀ F ∈ L, Ex F G
  dis : L.Pairwise Dis
theorem Ap.fr {L1 L2 : List Hp} {F F' G' : Hp} (a : Ap (L1 ++ F :: L2) G) (f : Fr F G F' G') (e : Ex F' G') : Ap (L1 ++ F' :: L2) G' := by
  have hp := List.pairwise_append.mp a.dis
  have hc := List.pairwise_cons.mp hp.2.1
  refine ⟨fun X hX => ?_, List.pairwise_append.mpr ⟨hp.1, List.pairwise_cons.mpr ⟨fun R hR => ?_, hc.2⟩, fun R hR X hX => ?_⟩⟩
  · rcases List.mem_append.mp hX with h | h
    · exact (f X (hp.2.2 X h F List.mem_cons_self).symm (a.ex X (List.mem_append_left _ h))).1
    · rcases List.mem_cons.mp h with rfl | h
      · exact e
      · exact (f X (hc.1 X h) (a.ex X (List.mem_append_right _ (List.mem_cons_of_mem _ h)))).1
  · exact (f R (hc.1 R hR) (a.ex R (List.mem_append_right _ (List.mem_cons_of_mem _ hR)))).2
  · rcases List.mem_cons.mp hX with rfl | h
    · exact ((f R (hp.2.2 R hR F List.mem_cons_self).symm (a.ex R (List.mem_append_left _ hR))).2).symm
    · exact hp.2.2 R hR X (List.mem_cons_of_mem _ h)
theorem Ap.junk {L : List Hp} {G' : Hp} (a : Ap L G) (e : Ex G G') : Ap L G' := ⟨fun F h => (a.ex F h).trans e, a.dis⟩
/-- a new piece -/
def one (p : Addr) (o : HO) : Hp := upd (fun _ => none) p o
theorem Ap.add {L : List Hp} {p : Addr} {o : HO} (a : Ap L G) (h : G p = none) : Ap (one p o :: L) (upd G p o) :=
  ⟨fun F hF => by
    rcases List.mem_cons.mp hF with rfl | hF
    · exact Ex.putL (fun _ _ z => by cases z) upd_same
    · exact (a.ex F hF).trans (Ex.new h),
   List.pairwise_cons.mpr ⟨fun R hR => (show Dis (one p o) R from (show Dis (fun _ => none) R from fun _ => .inl rfl).put ((a.ex R hR).nul h)), a.dis⟩⟩
theorem Ap.drop1 {L : List Hp} {F : Hp} (a : Ap (F :: L) G) : Ap L G := ⟨fun X h => a.ex X (List.mem_cons_of_mem _ h), (List.pairwise_cons.mp a.dis).2⟩
theorem Ap.perm {L L' : List Hp} (a : Ap L G) (p : L'.Perm L) : Ap L' G := ⟨fun F h => a.ex F (p.mem_iff.mp h), (p.pairwise_iff (fun d => Dis.symm d)).mpr a.dis⟩
end
end Lw

namespace Lw
open PySem L2
structure Ad where
  cFile : Addr
/-- the class of files: its attributes are the instances' own -/
structure Cf (K : PySem.W.Frag) (A : Ad) : Prop where
  cl : Cls K A.cFile
  n1 : NoAttr K A.cFile "_lasting"
  n2 : NoAttr K A.cFile "_steps"
end Lw

namespace Lw
open PySem PySem.Spec PyProof.Rows L2
local macro_rules | `(tactic| k_extra "x1") => `(tactic| first
  | with_reducible refine es_seq ?_
  | with_reducible refine es_asg ?_
  | with_reducible refine es_if ?_
  | with_reducible refine es_ret ?_
  | with_reducible refine es_drop ?_
  | with_reducible refine es_next ?_
  | with_reducible refine es_augS ?_
  | with_reducible refine es_fld ?_
  | ((with_reducible show Ee (tVar _) _ _ _); refine ee_var rfl ?_)
  | with_reducible refine ee_c ?_
  | with_reducible refine ee_op ?_
  | with_reducible refine ee_un ?_
  | with_reducible refine eu_neg ?_
  | with_reducible refine ee_cb ?_
  | with_reducible refine ee_call ?_
  | with_reducible refine ea_nil ?_
  | with_reducible refine ea_cons ?_
  | with_reducible refine ee_sl ?_
  | with_reducible refine eo_no ?_
  | with_reducible refine eo_part ?_
  | with_reducible refine ee_tup ?_
  | with_reducible refine ee_lst ?_
  | with_reducible refine et_test ?_
  | with_reducible refine et_tB ?_
  | with_reducible refine et_tru ?_
  | with_reducible refine et_and ?_
  | with_reducible refine et_or ?_
  | with_reducible refine et_not ?_
  | with_reducible refine ee_and ?_
  | with_reducible refine ee_or ?_
  | with_reducible refine ee_not ?_
  | with_reducible refine ee_if ?_
  | with_reducible refine ee_chain ?_
  | with_reducible refine er_addI ?_
  | with_reducible refine er_subI ?_
  | with_reducible refine er_eqI ?_
  | with_reducible refine er_neI ?_
  | with_reducible refine er_eqNI ?_
  | with_reducible refine er_eqS ?_
  | with_reducible refine er_neS ?_
  | with_reducible refine er_eqB ?_
  | with_reducible refine er_neB ?_
  | with_reducible refine er_lt ?_
  | with_reducible refine er_le ?_
  | with_reducible refine er_gt ?_
  | with_reducible refine er_ge ?_
  | with_reducible refine er_isN_non ?_
  | with_reducible refine er_isN_bl ?_
  | with_reducible refine er_isN_int ?_
  | with_reducible refine er_isN_str ?_
  | with_reducible refine er_isN_ref ?_
  | with_reducible refine er_notN_non ?_
  | with_reducible refine er_notN_bl ?_
  | with_reducible refine er_notN_int ?_
  | with_reducible refine er_notN_str ?_
  | with_reducible refine er_notN_ref ?_
  | with_reducible refine er_isN ?_
  | with_reducible refine er_notN ?_
  | with_reducible refine ec_int ?_
  | with_reducible refine ec_max2 ?_
  | with_reducible refine ec_min2 ?_
  | with_reducible refine ip_I ?_
  | ((with_reducible refine eg_name ?_); (try dsimp only [L2.wipe, List.set_cons_zero, List.set_cons_succ]))
  | with_reducible refine eg_sub ?_
  | with_reducible refine egs_cons ?_
  | with_reducible refine egs_nil ?_
  | with_reducible refine tru_bl ?_
  | with_reducible refine tru_int ?_
  | with_reducible refine tru_non ?_
  | with_reducible refine iteT ?_
  | with_reducible refine iteF ?_
  | with_reducible refine ite_nt ?_
  | with_reducible refine ite_nf ?_
  | with_reducible refine ⟨_, rfl, ?_⟩)
local macro_rules | `(tactic| k_extra "s") => `(tactic| ((first | k_extra "x1" | ((with_reducible refine es_unf ?_); refine es_seq ?_)); (repeat k_extra "x1")))
local macro_rules | `(tactic| k_extra "x") => `(tactic| (repeat first | k_extra "x1" | ((with_reducible refine es_unf ?_); refine es_seq ?_)))
local macro_rules | `(tactic| k_extra "start") => `(tactic| dsimp only [L2.start, List.map_cons, List.map_nil, List.length_cons, List.length_nil, Nat.reduceAdd, Nat.reduceSub, List.replicate, List.cons_append, List.nil_append, Nat.zero_add])
local macro_rules | `(tactic| k_extra "e1") => `(tactic| first
  | with_reducible refine es_next ?_
  | ((with_reducible show Ee (tVar _) _ _ _); refine ee_var rfl ?_)
  | with_reducible refine ee_c ?_
  | with_reducible refine ee_op ?_
  | with_reducible refine ee_un ?_
  | with_reducible refine eu_neg ?_
  | with_reducible refine ee_cb ?_
  | with_reducible refine ee_call ?_
  | with_reducible refine ea_nil ?_
  | with_reducible refine ea_cons ?_
  | with_reducible refine ee_sl ?_
  | with_reducible refine eo_no ?_
  | with_reducible refine eo_part ?_
  | with_reducible refine ee_tup ?_
  | with_reducible refine ee_lst ?_
  | with_reducible refine et_test ?_
  | with_reducible refine et_tB ?_
  | with_reducible refine et_tru ?_
  | with_reducible refine et_and ?_
  | with_reducible refine et_or ?_
  | with_reducible refine et_not ?_
  | with_reducible refine ee_and ?_
  | with_reducible refine ee_or ?_
  | with_reducible refine ee_not ?_
  | with_reducible refine ee_if ?_
  | with_reducible refine ee_chain ?_
  | with_reducible refine er_addI ?_
  | with_reducible refine er_subI ?_
  | with_reducible refine er_eqI ?_
  | with_reducible refine er_neI ?_
  | with_reducible refine er_eqNI ?_
  | with_reducible refine er_eqS ?_
  | with_reducible refine er_neS ?_
  | with_reducible refine er_eqB ?_
  | with_reducible refine er_neB ?_
  | with_reducible refine er_lt ?_
  | with_reducible refine er_le ?_
  | with_reducible refine er_gt ?_
  | with_reducible refine er_ge ?_
  | with_reducible refine er_isN_non ?_
  | with_reducible refine er_isN_bl ?_
  | with_reducible refine er_isN_int ?_
  | with_reducible refine er_isN_str ?_
  | with_reducible refine er_isN_ref ?_
  | with_reducible refine er_notN_non ?_
  | with_reducible refine er_notN_bl ?_
  | with_reducible refine er_notN_int ?_
  | with_reducible refine er_notN_str ?_
  | with_reducible refine er_notN_ref ?_
  | with_reducible refine er_isN ?_
  | with_reducible refine er_notN ?_
  | with_reducible refine ec_int ?_
  | with_reducible refine ec_max2 ?_
  | with_reducible refine ec_min2 ?_
  | with_reducible refine ip_I ?_
  | ((with_reducible refine eg_name ?_); (try dsimp only [L2.wipe, List.set_cons_zero, List.set_cons_succ]))
  | with_reducible refine eg_sub ?_
  | with_reducible refine egs_cons ?_
  | with_reducible refine egs_nil ?_
  | with_reducible refine tru_bl ?_
  | with_reducible refine tru_int ?_
  | with_reducible refine tru_non ?_
  | with_reducible refine iteT ?_
  | with_reducible refine iteF ?_
  | with_reducible refine ite_nt ?_
  | with_reducible refine ite_nf ?_
  | with_reducible refine ex_bl ?_
  | with_reducible refine ex_int ?_
  | with_reducible refine ex_str ?_
  | with_reducible refine ex_strx ?_
  | with_reducible refine ex_ints1 ?_
  | with_reducible refine ex_ints2 ?_)
local macro_rules | `(tactic| k_extra "t1") => `(tactic| first
  | with_reducible refine es_asg ?_
  | with_reducible refine es_if ?_
  | with_reducible refine es_ret ?_
  | with_reducible refine es_drop ?_
  | with_reducible refine es_augS ?_
  | with_reducible refine es_fld ?_)
local macro_rules | `(tactic| k_extra "e") => `(tactic| first
  | ((with_reducible refine es_seq ?_); (try k_extra "t1"); (repeat k_extra "e1"))
  | (k_extra "t1"; (repeat k_extra "e1"))
  | (k_extra "e1"; (repeat k_extra "e1"))
  | ((with_reducible refine es_unf ?_); (refine es_seq ?_); (try k_extra "t1"); (repeat k_extra "e1")))
/-! ### numbers drawn from the script -/
def S__law_mix (K : PySem.W.Frag) (A : Ad) : Pm := fun vs G Q _ => ∃ c k : Int, vs = [.int c, .int k] ∧ ∀ r, 0 ≤ r → r < 9973 → Q (.int r) G
/-! _law_mix -/
def t__law_mix_1 (K : PySem.W.Frag) (A : Ad) : TS := tSeq (tAsg (tOp (rModU) (tCB (rInt1) (tCons (tOp (rAddU K) (tOp (rAddU K) (tOp (rMulU) (tVar 2) (tVar 2)) (tOp (rMulU) (tVar 1) (tC (.int 40692)))) (tC (.int 1))) tNil)) (tC (.int 2147483399))) (gName 2)) (tRet (tOp (rModU) (tOp (rDivU) (tVar 2) (tC (.int 5))) (tC (.int 9973))))
def t__law_mix (K : PySem.W.Frag) (A : Ad) : TS := tSeq (tAsg (tOp (rModU) (tCB (rInt1) (tCons (tOp (rAddU K) (tOp (rAddU K) (tOp (rMulU) (tCB (rInt1) (tCons (tVar 0) tNil)) (tC (.int 48271))) (tOp (rMulU) (tVar 1) (tC (.int 69621)))) (tC (.int 12345))) tNil)) (tC (.int 2147483647))) (gName 2)) (t__law_mix_1 K A)
theorem len__law_mix {K : PySem.W.Frag} {A : Ad} : ∀ vs G Q E, S__law_mix K A vs G Q E → vs.length = ["cell", "k"].length := by
  rintro vs G Q E ⟨c, k, rfl, _⟩; rfl
theorem ok__law_mix {K : PySem.W.Frag} {A : Ad} : ∀ vs G Q E, S__law_mix K A vs G Q E → Es (t__law_mix K A) { nx := fun _ G' => Q .non G', rt := Q } (L2.start ["cell", "k", "value"] vs) G := by
  rintro vs G Q E ⟨c, k, rfl, q⟩
  change Es _ _ (_ :: _ :: _ :: []) _
  k_extra "e"
  refine er_mulR (by decide) ?_
  k_extra "e"
  refine er_mulR (by decide) ?_
  k_extra "e"
  refine er_mod (by decide) ?_
  k_extra "e"
  k_extra "e"
  refine er_mulL (by omega) ?_
  k_extra "e"
  refine er_mulR (by decide) ?_
  k_extra "e"
  refine er_mod (by decide) ?_
  k_extra "e"
  k_extra "e"
  refine er_div (by decide) ?_
  k_extra "e"
  refine er_mod (by decide) ?_
  exact q _ (by omega) (by omega)
def DrOk (ds : List Int) : Prop := ds.length ≤ 4000 ∧ ∀ d ∈ ds, 0 ≤ d ∧ d < 9973
def S__law_draws (K : PySem.W.Frag) (A : Ad) : Pm := fun vs G Q _ => ∃ (a : Addr) (ns : List Int), vs = [.ref a] ∧ SqL K G a (ns.map V.int) ∧ ∀ p ds, G p = none → DrOk ds → Q (.ref p) (upd G p (.lst (ds.map V.int)))
/-! _law_draws -/
def t__law_draws_1 (K : PySem.W.Frag) (A : Ad) : TS := tSeq (tDrop (tBM K "list" (rAppend) (tVar 1) (tCons (tOp (rModU) (tCB (rInt1) (tCons (tVar 3) tNil)) (tC (.int 9973))) tNil))) (tAsg (tOp (rDivU) (tVar 3) (tC (.int 9973))) (gName 3))
def t__law_draws_2 (K : PySem.W.Frag) (A : Ad) : TS := tSeq (tAsg (tCB (rInt1) (tCons (tOp (rIx K) (tVar 0) (tVar 2)) tNil)) (gName 3)) (tIfS (tTest (tOp (rLtU K) (tVar 3) (tOp (rPowU) (tC (.int 10)) (tC (.int 18))))) (tDrop (tBM K "list" (rAppend) (tVar 1) (tCons (tCall (up (S__law_mix K A)) [] E0 (tCons (tVar 3) (tCons (tVar 2) tNil))) tNil))) (tFor (iRng1 (tCons (tC (.int 60)) tNil)) (gName 4) (tIfS (tTest (tOp (rGtI) (tVar 3) (tC (.int 0)))) (t__law_draws_1 K A) tNext)))
def t__law_draws_3 (K : PySem.W.Frag) (A : Ad) : TS := tSeq (tFor (iRng1 (tCons (tCB rMin2U (tCons (tC (.int 63)) (tCons (tCB (rLenU K) (tCons (tVar 0) tNil)) tNil))) tNil)) (gName 2) (t__law_draws_2 K A)) (tRet (tVar 1))
def t__law_draws (K : PySem.W.Frag) (A : Ad) : TS := tSeq (tAsg (tLst tNil) (gName 1)) (t__law_draws_3 K A)
theorem len__law_draws {K : PySem.W.Frag} {A : Ad} : ∀ vs G Q E, S__law_draws K A vs G Q E → vs.length = ["script"].length := by
  rintro vs G Q E ⟨a, ns, rfl, _⟩; rfl
theorem dr_snoc {ds : List Int} {d : Int} {n : Nat} (h : ds.length ≤ n) (hd : ∀ d ∈ ds, 0 ≤ d ∧ d < 9973) (h0 : 0 ≤ d) (h1 : d < 9973) : (ds ++ [d]).length ≤ n + 1 ∧ ∀ e ∈ ds ++ [d], 0 ≤ e ∧ e < 9973 := by
  refine ⟨by rw [List.length_append, List.length_singleton]; omega, fun e he => ?_⟩
  rcases List.mem_append.mp he with he | he
  · exact hd e he
  · rw [List.mem_singleton] at he; subst he; exact ⟨h0, h1⟩
theorem map_snoc (ds : List Int) (d : Int) : ds.map V.int ++ [V.int d] = (ds ++ [d]).map V.int := by rw [List.map_append]; rfl
theorem ok__law_draws {K : PySem.W.Frag} {A : Ad} : ∀ vs G Q E, S__law_draws K A vs G Q E → Es (t__law_draws K A) { nx := fun _ G' => Q .non G', rt := Q } (L2.start ["script", "draws", "k", "cell", "place"] vs) G := by
  rintro vs G Q E ⟨a, ns, rfl, hS, q⟩
  change Es _ _ (_ :: _ :: _ :: _ :: _ :: []) _
  k_extra "e"
  refine ⟨Nat.zero_le _, fun p hp => ?_⟩
  k_extra "e"
  k_extra "e"
  refine es_forR1 ?_
  k_extra "e"
  refine ec_lenL ((Ex.new hp).sl hS) fun hz => ?_
  k_extra "e"
  rw [List.length_map]
  refine ⟨by omega, fun i σ G' => ∃ ds c2 c3 c4, σ = [some (.ref a), some (.ref p), c2, c3, c4] ∧ G' = upd G p (.lst (ds.map V.int)) ∧ ds.length ≤ 60 * i ∧ ∀ d ∈ ds, 0 ≤ d ∧ d < 9973, ⟨[], _, _, _, rfl, rfl, Nat.zero_le _, fun _ h => by cases h⟩, ?_, ?_⟩
  · rintro i σ G' hi ⟨ds, c2, c3, c4, rfl, rfl, hl, hd⟩
    have hi' : i < ns.length ∧ i < 63 := by
      split at hi <;> omega
    have hget : (ns.map V.int)[i]? = some (.int ns[i]) := by rw [List.getElem?_map, List.getElem?_eq_getElem hi'.1]; rfl
    k_extra "e"
    refine er_ixL ((Ex.new hp).sl hS) (atI_nat hget) ?_
    k_extra "e"
    k_extra "e"
    refine er_pow (by decide) ?_
    k_extra "e"
    refine ifd (fun hc => ?_) (fun hc => ?_)
    · k_extra "e"
      refine ee_bm ?_
      k_extra "e"
      refine ⟨ty_lst upd_same, ?_⟩
      k_extra "e"
      refine ⟨_, _, rfl, fun r h0 h1 => ?_⟩
      k_extra "e"
      refine em_append upd_same (by rw [List.length_map]; exact szlt (by omega)) ?_
      rw [upd_upd, map_snoc]
      have := dr_snoc hl hd h0 h1
      exact ⟨_, _, _, _, rfl, rfl, by omega, this.2⟩
    · refine es_forR1 ?_
      k_extra "e"
      refine ⟨by omega, fun j σ G' => ∃ ds c2 c4, ∃ cell : Int, σ = [some (.ref a), some (.ref p), c2, some (.int cell), c4] ∧ G' = upd G p (.lst (ds.map V.int)) ∧ ds.length ≤ 60 * i + j ∧ (∀ d ∈ ds, 0 ≤ d ∧ d < 9973), ⟨ds, _, _, _, rfl, rfl, hl, hd⟩, ?_, ?_⟩
      · rintro j σ G' hj ⟨ds, c2, c4, cell, rfl, rfl, hl, hd⟩
        k_extra "e"
        refine ifd (fun hc => ?_) (fun hc => ?_)
        · k_extra "e"
          refine ee_bm ?_
          k_extra "e"
          refine ⟨ty_lst upd_same, ?_⟩
          k_extra "e"
          refine er_mod (by decide) ?_
          k_extra "e"
          refine em_append upd_same (by rw [List.length_map]; exact szlt (by omega)) ?_
          rw [upd_upd, map_snoc]
          k_extra "e"
          refine er_div (by decide) ?_
          k_extra "e"
          have := dr_snoc hl hd (d := cell % 9973) (by omega) (by omega)
          exact ⟨_, _, _, _, rfl, rfl, by omega, this.2⟩
        · refine es_next ?_
          exact ⟨_, _, _, _, rfl, rfl, by omega, hd⟩
      · rintro σ G' ⟨ds, c2, c4, cell, rfl, rfl, hl, hd⟩
        exact ⟨_, _, _, _, rfl, rfl, by omega, hd⟩
  · rintro σ G' ⟨ds, c2, c3, c4, rfl, rfl, hl, hd⟩
    k_extra "e"
    exact q p ds hp ⟨by split at hl <;> omega, hd⟩
def S__law_at (K : PySem.W.Frag) (A : Ad) : Pm := fun vs G Q _ => ∃ (a : Addr) (ds : List Int) (i : Int), vs = [.ref a, .int i] ∧ SqL K G a (ds.map V.int) ∧ DrOk ds ∧ 0 ≤ i ∧ ∀ r, 0 ≤ r → r < 9973 → Q (.int r) G
/-! _law_at -/
def t__law_at_1 (K : PySem.W.Frag) (A : Ad) : TS := tSeq (tIfS (tTest (tOp (rEqU K) (tCB (rLenU K) (tCons (tVar 0) tNil)) (tC (.int 0)))) (tRet (tCall (up (S__law_mix K A)) [] E0 (tCons (tVar 1) (tCons (tC (.int 77)) tNil)))) tNext) (tRet (tCall (up (S__law_mix K A)) [] E0 (tCons (tOp (rAddU K) (tOp (rIx K) (tVar 0) (tOp (rModU) (tCB (rInt1) (tCons (tVar 1) tNil)) (tCB (rLenU K) (tCons (tVar 0) tNil)))) (tOp (rMulU) (tVar 1) (tC (.int 131)))) (tCons (tVar 1) tNil))))
def t__law_at (K : PySem.W.Frag) (A : Ad) : TS := tSeq (tIfS (tTest (tOp (rLtU K) (tVar 1) (tCB (rLenU K) (tCons (tVar 0) tNil)))) (tRet (tOp (rIx K) (tVar 0) (tVar 1))) tNext) (t__law_at_1 K A)
theorem len__law_at {K : PySem.W.Frag} {A : Ad} : ∀ vs G Q E, S__law_at K A vs G Q E → vs.length = ["draws", "index"].length := by
  rintro vs G Q E ⟨a, ds, i, rfl, _⟩; rfl
theorem ok__law_at {K : PySem.W.Frag} {A : Ad} : ∀ vs G Q E, S__law_at K A vs G Q E → Es (t__law_at K A) { nx := fun _ G' => Q .non G', rt := Q } (L2.start ["draws", "index"] vs) G := by
  rintro vs G Q E ⟨a, ds, i, rfl, hS, hd, h0, q⟩
  change Es _ _ (_ :: _ :: []) _
  k_extra "e"
  refine ec_lenL hS fun hz => ?_
  rw [List.length_map]
  k_extra "e"
  refine ifd (fun hc => ?_) (fun hc => ?_)
  · obtain ⟨j, rfl⟩ := Int.eq_ofNat_of_zero_le h0
    have hj : j < ds.length := by omega
    have hget : (ds.map V.int)[j]? = some (.int ds[j]) := by rw [List.getElem?_map, List.getElem?_eq_getElem hj]; rfl
    k_extra "e"
    refine er_ixL hS (atI_nat hget) ?_
    have := hd.2 _ (List.getElem_mem hj)
    exact q _ this.1 this.2
  · k_extra "e"
    k_extra "e"
    refine ec_lenL hS fun hz => ?_
    rw [List.length_map]
    k_extra "e"
    refine ifd (fun hc2 => ?_) (fun hc2 => ?_)
    · k_extra "e"
      exact ⟨_, _, rfl, q⟩
    · k_extra "e"
      k_extra "e"
      refine ec_lenL hS fun hz => ?_
      rw [List.length_map]
      refine er_mod (by omega) ?_
      have h1 : 0 ≤ i % (ds.length : Int) := Int.emod_nonneg _ (by omega)
      have h2 : i % (ds.length : Int) < ds.length := Int.emod_lt_of_pos _ (by omega)
      obtain ⟨j, hj⟩ := Int.eq_ofNat_of_zero_le h1
      have hjl : j < ds.length := by omega
      have hget : (ds.map V.int)[j]? = some (.int ds[j]) := by rw [List.getElem?_map, List.getElem?_eq_getElem hjl]; rfl
      rw [hj]
      refine er_ixL hS (atI_nat hget) ?_
      k_extra "e"
      refine er_mulR (by decide) ?_
      k_extra "e"
      exact ⟨_, _, rfl, q⟩
end Lw

namespace Lw
open PySem PySem.Spec PyProof.Rows L2
local macro_rules | `(tactic| k_extra "x1") => `(tactic| first
  | with_reducible refine es_seq ?_
  | with_reducible refine es_asg ?_
  | with_reducible refine es_if ?_
  | with_reducible refine es_ret ?_
  | with_reducible refine es_drop ?_
  | with_reducible refine es_next ?_
  | with_reducible refine es_augS ?_
  | with_reducible refine es_fld ?_
  | ((with_reducible show Ee (tVar _) _ _ _); refine ee_var rfl ?_)
  | with_reducible refine ee_c ?_
  | with_reducible refine ee_op ?_
  | with_reducible refine ee_un ?_
  | with_reducible refine eu_neg ?_
  | with_reducible refine ee_cb ?_
  | with_reducible refine ee_call ?_
  | with_reducible refine ea_nil ?_
  | with_reducible refine ea_cons ?_
  | with_reducible refine ee_sl ?_
  | with_reducible refine eo_no ?_
  | with_reducible refine eo_part ?_
  | with_reducible refine ee_tup ?_
  | with_reducible refine ee_lst ?_
  | with_reducible refine et_test ?_
  | with_reducible refine et_tB ?_
  | with_reducible refine et_tru ?_
  | with_reducible refine et_and ?_
  | with_reducible refine et_or ?_
  | with_reducible refine et_not ?_
  | with_reducible refine ee_and ?_
  | with_reducible refine ee_or ?_
  | with_reducible refine ee_not ?_
  | with_reducible refine ee_if ?_
  | with_reducible refine ee_chain ?_
  | with_reducible refine er_addI ?_
  | with_reducible refine er_subI ?_
  | with_reducible refine er_eqI ?_
  | with_reducible refine er_neI ?_
  | with_reducible refine er_eqNI ?_
  | with_reducible refine er_eqS ?_
  | with_reducible refine er_neS ?_
  | with_reducible refine er_eqB ?_
  | with_reducible refine er_neB ?_
  | with_reducible refine er_lt ?_
  | with_reducible refine er_le ?_
  | with_reducible refine er_gt ?_
  | with_reducible refine er_ge ?_
  | with_reducible refine er_isN_non ?_
  | with_reducible refine er_isN_bl ?_
  | with_reducible refine er_isN_int ?_
  | with_reducible refine er_isN_str ?_
  | with_reducible refine er_isN_ref ?_
  | with_reducible refine er_notN_non ?_
  | with_reducible refine er_notN_bl ?_
  | with_reducible refine er_notN_int ?_
  | with_reducible refine er_notN_str ?_
  | with_reducible refine er_notN_ref ?_
  | with_reducible refine er_isN ?_
  | with_reducible refine er_notN ?_
  | with_reducible refine ec_int ?_
  | with_reducible refine ec_max2 ?_
  | with_reducible refine ec_min2 ?_
  | with_reducible refine ip_I ?_
  | ((with_reducible refine eg_name ?_); (try dsimp only [L2.wipe, List.set_cons_zero, List.set_cons_succ]))
  | with_reducible refine eg_sub ?_
  | with_reducible refine egs_cons ?_
  | with_reducible refine egs_nil ?_
  | with_reducible refine tru_bl ?_
  | with_reducible refine tru_int ?_
  | with_reducible refine tru_non ?_
  | with_reducible refine iteT ?_
  | with_reducible refine iteF ?_
  | with_reducible refine ite_nt ?_
  | with_reducible refine ite_nf ?_
  | with_reducible refine ⟨_, rfl, ?_⟩)
local macro_rules | `(tactic| k_extra "s") => `(tactic| ((first | k_extra "x1" | ((with_reducible refine es_unf ?_); refine es_seq ?_)); (repeat k_extra "x1")))
local macro_rules | `(tactic| k_extra "x") => `(tactic| (repeat first | k_extra "x1" | ((with_reducible refine es_unf ?_); refine es_seq ?_)))
local macro_rules | `(tactic| k_extra "start") => `(tactic| dsimp only [L2.start, List.map_cons, List.map_nil, List.length_cons, List.length_nil, Nat.reduceAdd, Nat.reduceSub, List.replicate, List.cons_append, List.nil_append, Nat.zero_add])
local macro_rules | `(tactic| k_extra "e1") => `(tactic| first
  | with_reducible refine es_next ?_
  | ((with_reducible show Ee (tVar _) _ _ _); refine ee_var rfl ?_)
  | with_reducible refine ee_c ?_
  | with_reducible refine ee_op ?_
  | with_reducible refine ee_un ?_
  | with_reducible refine eu_neg ?_
  | with_reducible refine ee_cb ?_
  | with_reducible refine ee_call ?_
  | with_reducible refine ea_nil ?_
  | with_reducible refine ea_cons ?_
  | with_reducible refine ee_sl ?_
  | with_reducible refine eo_no ?_
  | with_reducible refine eo_part ?_
  | with_reducible refine ee_tup ?_
  | with_reducible refine ee_lst ?_
  | with_reducible refine et_test ?_
  | with_reducible refine et_tB ?_
  | with_reducible refine et_tru ?_
  | with_reducible refine et_and ?_
  | with_reducible refine et_or ?_
  | with_reducible refine et_not ?_
  | with_reducible refine ee_and ?_
  | with_reducible refine ee_or ?_
  | with_reducible refine ee_not ?_
  | with_reducible refine ee_if ?_
  | with_reducible refine ee_chain ?_
  | with_reducible refine er_addI ?_
  | with_reducible refine er_subI ?_
  | with_reducible refine er_eqI ?_
  | with_reducible refine er_neI ?_
  | with_reducible refine er_eqNI ?_
  | with_reducible refine er_eqS ?_
  | with_reducible refine er_neS ?_
  | with_reducible refine er_eqB ?_
  | with_reducible refine er_neB ?_
  | with_reducible refine er_lt ?_
  | with_reducible refine er_le ?_
  | with_reducible refine er_gt ?_
  | with_reducible refine er_ge ?_
  | with_reducible refine er_isN_non ?_
  | with_reducible refine er_isN_bl ?_
  | with_reducible refine er_isN_int ?_
  | with_reducible refine er_isN_str ?_
  | with_reducible refine er_isN_ref ?_
  | with_reducible refine er_notN_non ?_
  | with_reducible refine er_notN_bl ?_
  | with_reducible refine er_notN_int ?_
  | with_reducible refine er_notN_str ?_
  | with_reducible refine er_notN_ref ?_
  | with_reducible refine er_isN ?_
  | with_reducible refine er_notN ?_
  | with_reducible refine ec_int ?_
  | with_reducible refine ec_max2 ?_
  | with_reducible refine ec_min2 ?_
  | with_reducible refine ip_I ?_
  | ((with_reducible refine eg_name ?_); (try dsimp only [L2.wipe, List.set_cons_zero, List.set_cons_succ]))
  | with_reducible refine eg_sub ?_
  | with_reducible refine egs_cons ?_
  | with_reducible refine egs_nil ?_
  | with_reducible refine tru_bl ?_
  | with_reducible refine tru_int ?_
  | with_reducible refine tru_non ?_
  | with_reducible refine iteT ?_
  | with_reducible refine iteF ?_
  | with_reducible refine ite_nt ?_
  | with_reducible refine ite_nf ?_
  | with_reducible refine ex_bl ?_
  | with_reducible refine ex_int ?_
  | with_reducible refine ex_str ?_
  | with_reducible refine ex_strx ?_
  | with_reducible refine ex_ints1 ?_
  | with_reducible refine ex_ints2 ?_)
local macro_rules | `(tactic| k_extra "t1") => `(tactic| first
  | with_reducible refine es_asg ?_
  | with_reducible refine es_if ?_
  | with_reducible refine es_ret ?_
  | with_reducible refine es_drop ?_
  | with_reducible refine es_augS ?_
  | with_reducible refine es_fld ?_)
local macro_rules | `(tactic| k_extra "e") => `(tactic| first
  | ((with_reducible refine es_seq ?_); (try k_extra "t1"); (repeat k_extra "e1"))
  | (k_extra "t1"; (repeat k_extra "e1"))
  | (k_extra "e1"; (repeat k_extra "e1"))
  | ((with_reducible refine es_unf ?_); (refine es_seq ?_); (try k_extra "t1"); (repeat k_extra "e1")))
/-! ### _law_same: of twice the same data it is True -/
def S__law_is_integer (K : PySem.W.Frag) (A : Ad) : Pm := fun vs G Q _ => ∃ i : Int, vs = [.int i] ∧ Q (.bl true) G
/-! _law_is_integer -/
def t__law_is_integer (K : PySem.W.Frag) (A : Ad) : TS := (tRet (tAndV (tCB (rIsiU K) (tCons (tVar 0) (tCons (tC (.ty "int")) tNil))) (tNotV (tCB (rIsiU K) (tCons (tVar 0) (tCons (tC (.ty "bool")) tNil))))))
theorem len__law_is_integer {K : PySem.W.Frag} {A : Ad} : ∀ vs G Q E, S__law_is_integer K A vs G Q E → vs.length = ["actual"].length := by
  rintro vs G Q E ⟨i, rfl, _⟩; rfl
theorem ok__law_is_integer {K : PySem.W.Frag} {A : Ad} : ∀ vs G Q E, S__law_is_integer K A vs G Q E → Es (t__law_is_integer K A) { nx := fun _ G' => Q .non G', rt := Q } (L2.start ["actual"] vs) G := by
  rintro vs G Q E ⟨i, rfl, q⟩
  change Es _ _ (_ :: []) _
  k_extra "e"
  refine ec_isi (.base (.int i)) (r := true) (by decide +kernel) ?_
  k_extra "e"
  refine ec_isi (.base (.int i)) (r := false) (by decide +kernel) ?_
  k_extra "e"
  exact q
def Sn__law_same (K : PySem.W.Frag) (A : Ad) (n : Nat) : Pm := fun vs G Q _ => ∃ a e d, vs = [a, e] ∧ Dp K G a d ∧ Dp K G e d ∧ d.depth < n ∧ Q (.bl true) G
def S__law_same (K : PySem.W.Frag) (A : Ad) : Pm := Sn__law_same K A 8
/-! _law_same -/
def t__law_same_1 (K : PySem.W.Frag) (A : Ad) (S : Pm) : TS := tSeq (tFor (iRng1 (tCons (tCB (rLenU K) (tCons (tVar 1) tNil)) tNil)) (gName 2) (tIfS (tNot (tTru K (tCall (up S) [] E0 (tCons (tOp (rIx K) (tVar 0) (tVar 2)) (tCons (tOp (rIx K) (tVar 1) (tVar 2)) tNil))))) (tRet (tC (.bl false))) tNext)) (tRet (tC (.bl true)))
def t__law_same_2 (K : PySem.W.Frag) (A : Ad) (S : Pm) : TS := tSeq (tIfS (tTest (tOp (rNeU K) (tCB (rLenU K) (tCons (tVar 0) tNil)) (tCB (rLenU K) (tCons (tVar 1) tNil)))) (tRet (tC (.bl false))) tNext) (t__law_same_1 K A S)
def t__law_same_3 (K : PySem.W.Frag) (A : Ad) (S : Pm) : TS := tSeq (tIfS (tOr (tTest (tOp (rNeU K) (tCB (rIsiU K) (tCons (tVar 1) (tCons (tC (.ty "list")) tNil))) (tCB (rIsiU K) (tCons (tVar 0) (tCons (tC (.ty "list")) tNil))))) (tTest (tOp (rNeU K) (tCB (rIsiU K) (tCons (tVar 1) (tCons (tC (.ty "tuple")) tNil))) (tCB (rIsiU K) (tCons (tVar 0) (tCons (tC (.ty "tuple")) tNil)))))) (tRet (tC (.bl false))) tNext) (t__law_same_2 K A S)
def t__law_same_4 (K : PySem.W.Frag) (A : Ad) (S : Pm) : TS := tSeq (tIfS (tTru K (tCB (rIsiU K) (tCons (tVar 1) (tCons (tC (.ty "int")) tNil)))) (tRet (tAndV (tCall (up (S__law_is_integer K A)) [] E0 (tCons (tVar 0) tNil)) (tOp (rEqU K) (tVar 0) (tVar 1)))) tNext) (tRet (tAndV (tCB (rIsiU K) (tCons (tVar 0) (tCons (tC (.ty "str")) tNil))) (tOp (rEqU K) (tVar 0) (tVar 1))))
def t__law_same_5 (K : PySem.W.Frag) (A : Ad) (S : Pm) : TS := tSeq (tIfS (tTru K (tCB (rIsiU K) (tCons (tVar 1) (tCons (tC (.ty "bool")) tNil)))) (tRet (tAndV (tCB (rIsiU K) (tCons (tVar 0) (tCons (tC (.ty "bool")) tNil))) (tOp (rEqU K) (tVar 0) (tVar 1)))) tNext) (t__law_same_4 K A S)
def t__law_same_6 (K : PySem.W.Frag) (A : Ad) (S : Pm) : TS := tSeq (tIfS (tTest (tOp (rIsN) (tVar 1) (tC .non))) (tRet (tOp (rIsN) (tVar 0) (tC .non))) tNext) (t__law_same_5 K A S)
def t__law_same (K : PySem.W.Frag) (A : Ad) (S : Pm) : TS := tSeq (tIfS (tTru K (tCB (rIsiU K) (tCons (tVar 1) (tCons (tTup (tCons (tC (.ty "list")) (tCons (tC (.ty "tuple")) tNil))) tNil)))) (t__law_same_3 K A S) tNext) (t__law_same_6 K A S)
theorem len__law_same {K : PySem.W.Frag} {A : Ad} (n : Nat) : ∀ vs G Q E, Sn__law_same K A n vs G Q E → vs.length = ["actual", "expected"].length := by
  rintro vs G Q E ⟨a, e, d, rfl, _⟩; rfl
theorem no__law_same {K : PySem.W.Frag} {A : Ad} : ∀ vs G Q E, ¬ Sn__law_same K A 0 vs G Q E := by
  rintro vs G Q E ⟨a, e, d, _, _, _, h, _⟩; exact absurd h (Nat.not_lt_zero _)
theorem depth_mem {d : PyData} {ds : List PyData} (h : d ∈ ds) : d.depth ≤ PyData.depthAll ds := PyData.depth_le_depthAll ds d h
theorem same_call {K : PySem.W.Frag} {A : Ad} {G : Hp} {a e : V} {d : PyData} {Q : V → Hp → Prop} {E : XK} (h1 : Dp K G a d) (h2 : Dp K G e d) (hd : d.depth < 8) (q : Q (.bl true) G) : S__law_same K A [a, e] G Q E := ⟨a, e, d, rfl, h1, h2, hd, q⟩
theorem law_same_tail {K : PySem.W.Frag} {A : Ad} {n : Nat} {G : Hp} {Q : V → Hp → Prop} {D : Ek} (hD : D.rt = Q) {a e : Addr} {xs ys : List V} {ds : List PyData} (h1 : Sq K G a xs) (h2 : Sq K G e ys) (k1 : DpAll K G xs ds) (k2 : DpAll K G ys ds) (hd : PyData.depthAll ds < n) (q : Q (.bl true) G) :
    Es (t__law_same_2 K A (Sn__law_same K A n)) D [some (.ref a), some (.ref e), none] G := by
  have e1 := dps_len k1
  have e2 := dps_len k2
  k_extra "e"
  refine ec_lenU h1 fun _ => ?_
  k_extra "e"
  refine ec_lenU h2 fun _ => ?_
  k_extra "e"
  refine ifnd (fun h => absurd (by rw [e1, e2]) h) fun _ => ?_
  k_extra "e"
  k_extra "e"
  refine es_forR1 ?_
  k_extra "e"
  refine ec_lenU h2 fun hz => ?_
  k_extra "e"
  refine ⟨line62 hz, fun i σ G' => G' = G ∧ ∃ c, σ = [some (.ref a), some (.ref e), c], ⟨rfl, _, rfl⟩, ?_, ?_⟩
  · rintro i σ G' hi ⟨rfl, c, rfl⟩
    obtain ⟨d, hd'⟩ : ∃ d, ds[i]? = some d := ⟨ds[i]'(by omega), List.getElem?_eq_getElem _⟩
    obtain ⟨x, hx, kx⟩ := dps_get k1 hd'
    obtain ⟨y, hy, ky⟩ := dps_get k2 hd'
    have hm := List.mem_of_getElem? hd'
    k_extra "e"
    refine er_ixU h1 (atI_nat hx) ?_
    k_extra "e"
    refine er_ixU h2 (atI_nat hy) ?_
    k_extra "e"
    refine ⟨x, y, d, rfl, kx, ky, Nat.lt_of_le_of_lt (depth_mem hm) hd, true, rfl, ?_⟩
    k_extra "e"
    exact ⟨rfl, _, rfl⟩
  · rintro σ G' ⟨rfl, c, rfl⟩
    k_extra "e"
    rw [hD]
    exact q
theorem ok__law_same {K : PySem.W.Frag} {A : Ad} (n : Nat) : ∀ vs G Q E, Sn__law_same K A (n + 1) vs G Q E → Es (t__law_same K A (Sn__law_same K A n)) { nx := fun _ G' => Q .non G', rt := Q } (L2.start ["actual", "expected", "k"] vs) G := by
  rintro vs G Q E ⟨a, e, d, rfl, ha, he, hd, q⟩
  change Es _ _ (_ :: _ :: _ :: []) _
  cases he with
  | non =>
    cases ha
    k_extra "e"
    refine ⟨sz1000 (by simp), fun t ht => ?_⟩
    k_extra "e"
    refine ec_isi2 (b := "list") (c := "tuple") (.base .non) upd_same (r := false) (r' := false) (by decide +kernel) (by decide +kernel) ?_
    k_extra "e"
    refine iteF ?_
    refine Es.weak (Ex.new ht) ?_
    k_extra "e"
    k_extra "e"
    k_extra "e"
    exact q
  | bl b =>
    cases ha
    k_extra "e"
    refine ⟨sz1000 (by simp), fun t ht => ?_⟩
    k_extra "e"
    refine ec_isi2 (b := "list") (c := "tuple") (.base (.bl b)) upd_same (r := false) (r' := false) (by decide +kernel) (by decide +kernel) ?_
    k_extra "e"
    refine iteF ?_
    refine Es.weak (Ex.new ht) ?_
    k_extra "e"
    k_extra "e"
    k_extra "e"
    refine ec_isi (.base (.bl b)) (r := true) (by decide +kernel) ?_
    k_extra "e"
    k_extra "e"
    refine ec_isi (.base (.bl b)) (r := true) (by decide +kernel) ?_
    k_extra "e"
    rw [decide_eq_true rfl]
    exact q
  | int i =>
    cases ha
    k_extra "e"
    refine ⟨sz1000 (by simp), fun t ht => ?_⟩
    k_extra "e"
    refine ec_isi2 (b := "list") (c := "tuple") (.base (.int i)) upd_same (r := false) (r' := false) (by decide +kernel) (by decide +kernel) ?_
    k_extra "e"
    refine iteF ?_
    refine Es.weak (Ex.new ht) ?_
    k_extra "e"
    k_extra "e"
    k_extra "e"
    refine ec_isi (.base (.int i)) (r := false) (by decide +kernel) ?_
    k_extra "e"
    k_extra "e"
    refine ec_isi (.base (.int i)) (r := true) (by decide +kernel) ?_
    k_extra "e"
    k_extra "e"
    refine ⟨i, rfl, true, rfl, ?_⟩
    k_extra "e"
    rw [decide_eq_true rfl]
    exact q
  | str x =>
    cases ha
    k_extra "e"
    refine ⟨sz1000 (by simp), fun t ht => ?_⟩
    k_extra "e"
    refine ec_isi2 (b := "list") (c := "tuple") (.base (.str x)) upd_same (r := false) (r' := false) (by decide +kernel) (by decide +kernel) ?_
    k_extra "e"
    refine iteF ?_
    refine Es.weak (Ex.new ht) ?_
    k_extra "e"
    k_extra "e"
    k_extra "e"
    refine ec_isi (.base (.str x)) (r := false) (by decide +kernel) ?_
    k_extra "e"
    k_extra "e"
    refine ec_isi (.base (.str x)) (r := false) (by decide +kernel) ?_
    k_extra "e"
    k_extra "e"
    refine ec_isi (.base (.str x)) (r := true) (by decide +kernel) ?_
    k_extra "e"
    rw [decide_eq_true rfl]
    exact q
  | lst h2 k2 =>
    obtain ⟨a, xs, rfl, h1, k1⟩ := dp_list ha
    k_extra "e"
    refine ⟨sz1000 (by simp), fun t ht => ?_⟩
    k_extra "e"
    refine ec_isi2 (b := "list") (c := "tuple") (tyx_up (Ex.new ht) (tyx_l h2)) upd_same (r := true) (r' := false) (by decide +kernel) (by decide +kernel) ?_
    k_extra "e"
    refine iteT ?_
    refine Es.weak (Ex.new ht) ?_
    k_extra "e"
    refine ec_isi (tyx_l h2) (r := true) (by decide +kernel) ?_
    k_extra "e"
    refine ec_isi (tyx_l h1) (r := true) (by decide +kernel) ?_
    k_extra "e"
    refine ifnd (fun h => absurd rfl h) fun _ => ?_
    k_extra "e"
    refine ec_isi (tyx_l h2) (r := false) (by decide +kernel) ?_
    k_extra "e"
    refine ec_isi (tyx_l h1) (r := false) (by decide +kernel) ?_
    k_extra "e"
    refine ifnd (fun h => absurd rfl h) fun _ => ?_
    refine es_next ?_
    simp only [PyData.depth] at hd
    exact law_same_tail rfl (.inl h1) (.inl h2) k1 k2 (by omega) q
  | tup h2 k2 =>
    obtain ⟨a, xs, rfl, h1, k1⟩ := dp_tup ha
    k_extra "e"
    refine ⟨sz1000 (by simp), fun t ht => ?_⟩
    k_extra "e"
    refine ec_isi2 (b := "list") (c := "tuple") (tyx_up (Ex.new ht) (tyx_t h2)) upd_same (r := false) (r' := true) (by decide +kernel) (by decide +kernel) ?_
    k_extra "e"
    refine iteT ?_
    refine Es.weak (Ex.new ht) ?_
    k_extra "e"
    refine ec_isi (tyx_t h2) (r := false) (by decide +kernel) ?_
    k_extra "e"
    refine ec_isi (tyx_t h1) (r := false) (by decide +kernel) ?_
    k_extra "e"
    refine ifnd (fun h => absurd rfl h) fun _ => ?_
    k_extra "e"
    refine ec_isi (tyx_t h2) (r := true) (by decide +kernel) ?_
    k_extra "e"
    refine ec_isi (tyx_t h1) (r := true) (by decide +kernel) ?_
    k_extra "e"
    refine ifnd (fun h => absurd rfl h) fun _ => ?_
    refine es_next ?_
    simp only [PyData.depth] at hd
    exact law_same_tail rfl (.inr h1) (.inr h2) k1 k2 (by omega) q
end Lw

namespace Lw
open PySem PySem.Spec PyProof.Rows L2
local macro_rules | `(tactic| k_extra "x1") => `(tactic| first
  | with_reducible refine es_seq ?_
  | with_reducible refine es_asg ?_
  | with_reducible refine es_if ?_
  | with_reducible refine es_ret ?_
  | with_reducible refine es_drop ?_
  | with_reducible refine es_next ?_
  | with_reducible refine es_augS ?_
  | with_reducible refine es_fld ?_
  | ((with_reducible show Ee (tVar _) _ _ _); refine ee_var rfl ?_)
  | with_reducible refine ee_c ?_
  | with_reducible refine ee_op ?_
  | with_reducible refine ee_un ?_
  | with_reducible refine eu_neg ?_
  | with_reducible refine ee_cb ?_
  | with_reducible refine ee_call ?_
  | with_reducible refine ea_nil ?_
  | with_reducible refine ea_cons ?_
  | with_reducible refine ee_sl ?_
  | with_reducible refine eo_no ?_
  | with_reducible refine eo_part ?_
  | with_reducible refine ee_tup ?_
  | with_reducible refine ee_lst ?_
  | with_reducible refine et_test ?_
  | with_reducible refine et_tB ?_
  | with_reducible refine et_tru ?_
  | with_reducible refine et_and ?_
  | with_reducible refine et_or ?_
  | with_reducible refine et_not ?_
  | with_reducible refine ee_and ?_
  | with_reducible refine ee_or ?_
  | with_reducible refine ee_not ?_
  | with_reducible refine ee_if ?_
  | with_reducible refine ee_chain ?_
  | with_reducible refine er_addI ?_
  | with_reducible refine er_subI ?_
  | with_reducible refine er_eqI ?_
  | with_reducible refine er_neI ?_
  | with_reducible refine er_eqNI ?_
  | with_reducible refine er_eqS ?_
  | with_reducible refine er_neS ?_
  | with_reducible refine er_eqB ?_
  | with_reducible refine er_neB ?_
  | with_reducible refine er_lt ?_
  | with_reducible refine er_le ?_
  | with_reducible refine er_gt ?_
  | with_reducible refine er_ge ?_
  | with_reducible refine er_isN_non ?_
  | with_reducible refine er_isN_bl ?_
  | with_reducible refine er_isN_int ?_
  | with_reducible refine er_isN_str ?_
  | with_reducible refine er_isN_ref ?_
  | with_reducible refine er_notN_non ?_
  | with_reducible refine er_notN_bl ?_
  | with_reducible refine er_notN_int ?_
  | with_reducible refine er_notN_str ?_
  | with_reducible refine er_notN_ref ?_
  | with_reducible refine er_isN ?_
  | with_reducible refine er_notN ?_
  | with_reducible refine ec_int ?_
  | with_reducible refine ec_max2 ?_
  | with_reducible refine ec_min2 ?_
  | with_reducible refine ip_I ?_
  | ((with_reducible refine eg_name ?_); (try dsimp only [L2.wipe, List.set_cons_zero, List.set_cons_succ]))
  | with_reducible refine eg_sub ?_
  | with_reducible refine egs_cons ?_
  | with_reducible refine egs_nil ?_
  | with_reducible refine tru_bl ?_
  | with_reducible refine tru_int ?_
  | with_reducible refine tru_non ?_
  | with_reducible refine iteT ?_
  | with_reducible refine iteF ?_
  | with_reducible refine ite_nt ?_
  | with_reducible refine ite_nf ?_
  | with_reducible refine ⟨_, rfl, ?_⟩)
local macro_rules | `(tactic| k_extra "s") => `(tactic| ((first | k_extra "x1" | ((with_reducible refine es_unf ?_); refine es_seq ?_)); (repeat k_extra "x1")))
local macro_rules | `(tactic| k_extra "x") => `(tactic| (repeat first | k_extra "x1" | ((with_reducible refine es_unf ?_); refine es_seq ?_)))
local macro_rules | `(tactic| k_extra "start") => `(tactic| dsimp only [L2.start, List.map_cons, List.map_nil, List.length_cons, List.length_nil, Nat.reduceAdd, Nat.reduceSub, List.replicate, List.cons_append, List.nil_append, Nat.zero_add])
local macro_rules | `(tactic| k_extra "e1") => `(tactic| first
  | with_reducible refine es_next ?_
  | ((with_reducible show Ee (tVar _) _ _ _); refine ee_var rfl ?_)
  | with_reducible refine ee_c ?_
  | with_reducible refine ee_op ?_
  | with_reducible refine ee_un ?_
  | with_reducible refine eu_neg ?_
  | with_reducible refine ee_cb ?_
  | with_reducible refine ee_call ?_
  | with_reducible refine ea_nil ?_
  | with_reducible refine ea_cons ?_
  | with_reducible refine ee_sl ?_
  | with_reducible refine eo_no ?_
  | with_reducible refine eo_part ?_
  | with_reducible refine ee_tup ?_
  | with_reducible refine ee_lst ?_
  | with_reducible refine et_test ?_
  | with_reducible refine et_tB ?_
  | with_reducible refine et_tru ?_
  | with_reducible refine et_and ?_
  | with_reducible refine et_or ?_
  | with_reducible refine et_not ?_
  | with_reducible refine ee_and ?_
  | with_reducible refine ee_or ?_
  | with_reducible refine ee_not ?_
  | with_reducible refine ee_if ?_
  | with_reducible refine ee_chain ?_
  | with_reducible refine er_addI ?_
  | with_reducible refine er_subI ?_
  | with_reducible refine er_eqI ?_
  | with_reducible refine er_neI ?_
  | with_reducible refine er_eqNI ?_
  | with_reducible refine er_eqS ?_
  | with_reducible refine er_neS ?_
  | with_reducible refine er_eqB ?_
  | with_reducible refine er_neB ?_
  | with_reducible refine er_lt ?_
  | with_reducible refine er_le ?_
  | with_reducible refine er_gt ?_
  | with_reducible refine er_ge ?_
  | with_reducible refine er_isN_non ?_
  | with_reducible refine er_isN_bl ?_
  | with_reducible refine er_isN_int ?_
  | with_reducible refine er_isN_str ?_
  | with_reducible refine er_isN_ref ?_
  | with_reducible refine er_notN_non ?_
  | with_reducible refine er_notN_bl ?_
  | with_reducible refine er_notN_int ?_
  | with_reducible refine er_notN_str ?_
  | with_reducible refine er_notN_ref ?_
  | with_reducible refine er_isN ?_
  | with_reducible refine er_notN ?_
  | with_reducible refine ec_int ?_
  | with_reducible refine ec_max2 ?_
  | with_reducible refine ec_min2 ?_
  | with_reducible refine ip_I ?_
  | ((with_reducible refine eg_name ?_); (try dsimp only [L2.wipe, List.set_cons_zero, List.set_cons_succ]))
  | with_reducible refine eg_sub ?_
  | with_reducible refine egs_cons ?_
  | with_reducible refine egs_nil ?_
  | with_reducible refine tru_bl ?_
  | with_reducible refine tru_int ?_
  | with_reducible refine tru_non ?_
  | with_reducible refine iteT ?_
  | with_reducible refine iteF ?_
  | with_reducible refine ite_nt ?_
  | with_reducible refine ite_nf ?_
  | with_reducible refine ex_bl ?_
  | with_reducible refine ex_int ?_
  | with_reducible refine ex_str ?_
  | with_reducible refine ex_strx ?_
  | with_reducible refine ex_ints1 ?_
  | with_reducible refine ex_ints2 ?_)
local macro_rules | `(tactic| k_extra "t1") => `(tactic| first
  | with_reducible refine es_asg ?_
  | with_reducible refine es_if ?_
  | with_reducible refine es_ret ?_
  | with_reducible refine es_drop ?_
  | with_reducible refine es_augS ?_
  | with_reducible refine es_fld ?_)
local macro_rules | `(tactic| k_extra "e") => `(tactic| first
  | ((with_reducible refine es_seq ?_); (try k_extra "t1"); (repeat k_extra "e1"))
  | (k_extra "t1"; (repeat k_extra "e1"))
  | (k_extra "e1"; (repeat k_extra "e1"))
  | ((with_reducible refine es_unf ?_); (refine es_seq ?_); (try k_extra "t1"); (repeat k_extra "e1")))
/-! ### the drawing object of this law -/
structure StT (G : Hp) (a l : Addr) (ds : List Int) (i : Int) : Prop where
  at_ : G a = some (.lst [.ref l, .int i])
  li : G l = some (.lst (ds.map V.int))
  ne : l ≠ a
  dr : DrOk ds
  pos : 0 ≤ i
theorem StT.put {G : Hp} {a l : Addr} {ds : List Int} {i i' : Int} (h : StT G a l ds i) (p : 0 ≤ i') : StT (upd G a (.lst [.ref l, .int i'])) a l ds i' := ⟨upd_same, get_ne h.li h.ne, h.ne, h.dr, p⟩
theorem StT.up {G H : Hp} {a l : Addr} {ds : List Int} {i : Int} (h : StT G a l ds i) (e : Ex G H) : StT H a l ds i := ⟨e _ _ h.at_, e _ _ h.li, h.ne, h.dr, h.pos⟩
def S__law_next (K : PySem.W.Frag) (A : Ad) : Pm := fun vs G Q _ => ∃ (a l : Addr) (ds : List Int) (i lim : Int), vs = [.ref a, .int lim] ∧ 0 < lim ∧ StT G a l ds i ∧ ∀ x i', 0 ≤ x → x < lim → 0 ≤ i' → Q (.int x) (upd G a (.lst [.ref l, .int i']))
theorem nx_call {K : PySem.W.Frag} {A : Ad} {G : Hp} {a l : Addr} {ds : List Int} {i lim : Int} {Q : V → Hp → Prop} {E : XK} (h : StT G a l ds i) (hl : 0 < lim)
    (q : ∀ x i', 0 ≤ x → x < lim → 0 ≤ i' → Q (.int x) (upd G a (.lst [.ref l, .int i']))) : S__law_next K A [.ref a, .int lim] G Q E := ⟨a, l, ds, i, lim, rfl, hl, h, q⟩
/-! _law_next -/
def t__law_next (K : PySem.W.Frag) (A : Ad) : TS := tSeq (tAugS (tVar 0) (tC (.int 1)) (tC (.int 1)) (rGetL K) (ipI fun i j => i + j) rSetL) (tRet (tOp (rModU) (tCall (up (S__law_at K A)) [] E0 (tCons (tOp (rIx K) (tVar 0) (tC (.int 0))) (tCons (tOp (rIx K) (tVar 0) (tC (.int 1))) tNil))) (tVar 1)))
theorem len__law_next {K : PySem.W.Frag} {A : Ad} : ∀ vs G Q E, S__law_next K A vs G Q E → vs.length = ["state", "limit"].length := by
  rintro vs G Q E ⟨a, l, ds, i, lim, rfl, _⟩; rfl
theorem ok__law_next {K : PySem.W.Frag} {A : Ad} : ∀ vs G Q E, S__law_next K A vs G Q E → Es (t__law_next K A) { nx := fun _ G' => Q .non G', rt := Q } (L2.start ["state", "limit"] vs) G := by
  rintro vs G Q E ⟨a, l, ds, i, lim, rfl, hl, h, q⟩
  change Es _ _ (_ :: _ :: []) _
  k_extra "e"
  refine er_getL (SqL.of h.at_) (by decide) rfl ?_
  k_extra "e"
  refine ez_L h.at_ (j := 1) rfl ?_
  have h' := h.put (i' := i + 1) (by have := h.pos; omega)
  k_extra "e"
  refine er_ixL (SqL.of upd_same) (atI_nat (j := 0) rfl) ?_
  k_extra "e"
  refine er_ixL (SqL.of upd_same) (atI_nat (j := 1) rfl) ?_
  k_extra "e"
  refine ⟨_, _, _, rfl, SqL.of h'.li, h.dr, h'.pos, fun r h0 h1 => ?_⟩
  k_extra "e"
  refine er_mod hl ?_
  exact q _ (i + 1) (Int.emod_nonneg _ (by omega)) (Int.emod_lt_of_pos _ hl) (by have := h.pos; omega)
/-! ### steps of a file -/
abbrev Stp := Bool × Int
def aft (d : List Int) (s : List Stp) : List Int := s.foldl (fun d x => if x.1 = true then d ++ [x.2] else d.take x.2.toNat) d
def encL (x : Stp) : PyData := .tuple [.int (if x.1 = true then 0 else 1), .int x.2]
def encP (x : Stp) : PyData := .tuple [.str (if x.1 = true then Str.ofString "append" else Str.ofString "truncate"), .int x.2]
theorem aft_snoc (d : List Int) (s : List Stp) (x : Stp) : aft d (s ++ [x]) = if x.1 = true then aft d s ++ [x.2] else (aft d s).take x.2.toNat := by unfold aft; rw [List.foldl_append]; rfl
theorem aft_app (d : List Int) (s t : List Stp) : aft d (s ++ t) = aft (aft d s) t := by unfold aft; rw [List.foldl_append]
theorem aft_len (d : List Int) : ∀ (s : List Stp), (aft d s).length ≤ d.length + s.length := by
  intro s
  induction s generalizing d with
  | nil => exact Nat.le_refl _
  | cons x r ih =>
    refine Nat.le_trans (ih _) ?_
    show (if x.1 = true then d ++ [x.2] else d.take x.2.toNat).length + _ ≤ _
    by_cases hx : x.1 = true
    · rw [if_pos hx, List.length_append, List.length_singleton, List.length_cons]; omega
    · rw [if_neg hx, List.length_take, List.length_cons]; omega
def NN (s : List Stp) : Prop := ∀ x ∈ s, 0 ≤ x.2
theorem cut_to (xs : List V) (n : Int) (h : 0 ≤ n) : cutV xs none (some n) = xs.take n.toNat := by
  obtain ⟨j, rfl⟩ := Int.eq_ofNat_of_zero_le h
  unfold cutV
  rw [HT.sIx_none, HT.sIx_nat, List.drop_zero, Nat.sub_zero, Int.toNat_natCast]
  by_cases hj : j ≤ xs.length
  · rw [Nat.min_eq_left hj]
  · rw [Nat.min_eq_right (by omega), List.take_length, List.take_of_length_le (by omega)]
def S__law_after (K : PySem.W.Frag) (A : Ad) : Pm := fun vs G Q _ => ∃ (pd ps : Addr) (d : List Int) (s : List Stp) (xs : List V), vs = [.ref pd, .ref ps] ∧ SqL K G pd (d.map V.int) ∧ SqL K G ps xs ∧ Ims K G xs (s.map encL) ∧ NN s ∧ d.length + s.length ≤ 1000000 ∧
  ∀ p, G p = none → Q (.ref p) (upd G p (.lst ((aft d s).map V.int)))
/-! _law_after -/
def t__law_after_1 (K : PySem.W.Frag) (A : Ad) : TS := tSeq (tFor (iList K (tVar 1)) (gTup K 2 (gCons (gName 2) (gCons (gName 3) gNil))) (tIfS (tTest (tOp (rEqU K) (tVar 2) (tC (.int 0)))) (tDrop (tBM K "list" (rAppend) (tVar 0) (tCons (tVar 3) tNil))) (tAsg (tSl (rSlU K) (tVar 0) tNoPart (tPart (tVar 3))) (gName 0)))) (tRet (tVar 0))
def t__law_after (K : PySem.W.Frag) (A : Ad) : TS := tSeq (tAsg (tCB (rListU K) (tCons (tVar 0) tNil)) (gName 0)) (t__law_after_1 K A)
theorem len__law_after {K : PySem.W.Frag} {A : Ad} : ∀ vs G Q E, S__law_after K A vs G Q E → vs.length = ["data", "steps"].length := by
  rintro vs G Q E ⟨pd, ps, d, s, xs, rfl, _⟩; rfl
theorem pair_at {K : PySem.W.Frag} {G : Hp} {x : V} {a b : PyData} (h : Im K G x (.tuple [a, b])) : ∃ t u v, x = .ref t ∧ SqT K G t [u, v] ∧ Im K G u a ∧ Im K G v b := by
  obtain ⟨t, zs, rfl, ht, hz⟩ := im_tup h
  cases hz with
  | cons k1 hz => cases hz with | cons k2 hz => cases hz; exact ⟨t, _, _, rfl, ht, k1, k2⟩
theorem im_int {K : PySem.W.Frag} {G : Hp} {x : V} {i : Int} (h : Im K G x (.int i)) : x = .int i := by cases h; rfl
theorem im_str {K : PySem.W.Frag} {G : Hp} {x : V} {i : Str} (h : Im K G x (.str i)) : x = .str i := by cases h; rfl
theorem ok__law_after {K : PySem.W.Frag} {A : Ad} : ∀ vs G Q E, S__law_after K A vs G Q E → Es (t__law_after K A) { nx := fun _ G' => Q .non G', rt := Q } (L2.start ["data", "steps", "kind", "number"] vs) G := by
  rintro vs G Q E ⟨pd, ps, d, s, xs, rfl, hd, hs, hI, hn, hb, q⟩
  change Es _ _ (_ :: _ :: _ :: _ :: []) _
  k_extra "e"
  refine ec_list (.inl hd) fun p hp => ?_
  k_extra "e"
  k_extra "e"
  refine es_forL ?_
  k_extra "e"
  refine ⟨ps, xs, rfl, (Ex.new hp).sl hs, fun i σ G' => ∃ p c2 c3, σ = [some (.ref p), some (.ref ps), c2, c3] ∧ G p = none ∧ G' = upd G p (.lst ((aft d (s.take i)).map V.int)), ⟨p, _, _, rfl, hp, by rw [List.take_zero]; rfl⟩, ?_, ?_, ?_⟩
  · rintro i σ G' ⟨p, c2, c3, rfl, hp, rfl⟩
    exact (Ex.new hp).sl hs
  · rintro i x σ G' hx ⟨p, c2, c3, rfl, hp, rfl⟩
    obtain ⟨d', hd', kx⟩ := ims_get' hI hx
    rw [List.getElem?_map] at hd'
    obtain ⟨y, hy, rfl⟩ := Option.map_eq_some_iff.mp hd'
    obtain ⟨t, u, v, rfl, ht, hu, hv⟩ := pair_at kx
    have hu := im_int hu
    have hv := im_int hv
    subst hu hv
    have hi : i < s.length := (List.getElem?_eq_some_iff.mp hy).1
    have hsl : (aft d (s.take i)).length ≤ 1000000 := by
      have := aft_len d (s.take i)
      rw [List.length_take] at this
      omega
    refine eg_tup ((Ex.new hp).st ht) rfl ?_
    k_extra "e"
    k_extra "e"
    obtain ⟨b, n⟩ := y
    cases b with
    | true =>
      refine ifd (fun _ => ?_) (fun h => absurd rfl h)
      k_extra "e"
      refine ee_bm ?_
      k_extra "e"
      refine ⟨ty_lst upd_same, ?_⟩
      k_extra "e"
      refine em_append upd_same (by rw [List.length_map]; exact szlt (by omega)) ?_
      rw [upd_upd, map_snoc]
      refine ⟨p, _, _, rfl, hp, ?_⟩
      rw [List.take_add_one, hy, Option.toList_some, aft_snoc, if_pos rfl]
    | false =>
      refine ifd (fun h => absurd (show (1 : Int) = 0 from h) (by decide)) (fun _ => ?_)
      k_extra "e"
      refine ew_L (SqL.of upd_same) fun p2 hp2 => ?_
      have hn0 : (0 : Int) ≤ n := hn _ (List.mem_of_getElem? hy)
      rw [cut_to _ _ hn0]
      have hp20 := nul_upd hp2
      refine Eg.weak (ex_swap hp) ?_
      refine eg_name ?_
      refine ⟨p2, _, _, rfl, hp20, ?_⟩
      rw [List.take_add_one, hy, Option.toList_some, aft_snoc, if_neg (by simp), List.map_take]
  · rintro σ G' ⟨p, c2, c3, rfl, hp, rfl⟩
    have hl := ims_len hI
    rw [List.length_map] at hl
    k_extra "e"
    rw [List.take_of_length_le (by omega)]
    exact q p hp
/-! ### the program's files -/
def S__applied (K : PySem.W.Frag) (A : Ad) : Pm := fun vs G Q _ => ∃ (pd ps : Addr) (d : List Int) (s : List Stp) (xs : List V), vs = [.ref pd, .ref ps] ∧ SqL K G pd (d.map V.int) ∧ SqL K G ps xs ∧ Ims K G xs (s.map encP) ∧ NN s ∧ d.length + s.length ≤ 1000000 ∧
  ∀ p, G p = none → Q (.ref p) (upd G p (.lst ((aft d s).map V.int)))
/-! _applied -/
def t__applied_1 (K : PySem.W.Frag) (A : Ad) : TS := tSeq (tFor (iList K (tVar 1)) (gTup K 2 (gCons (gName 3) (gCons (gName 4) gNil))) (tIfS (tTest (tOp (rEqU K) (tVar 3) (tC (.str "append")))) (tDrop (tBM K "list" (rAppend) (tVar 2) (tCons (tVar 4) tNil))) (tAsg (tSl (rSlU K) (tVar 2) tNoPart (tPart (tVar 4))) (gName 2)))) (tRet (tVar 2))
def t__applied (K : PySem.W.Frag) (A : Ad) : TS := tSeq (tAsg (tCB (rListU K) (tCons (tVar 0) tNil)) (gName 2)) (t__applied_1 K A)
theorem len__applied {K : PySem.W.Frag} {A : Ad} : ∀ vs G Q E, S__applied K A vs G Q E → vs.length = ["data", "steps"].length := by
  rintro vs G Q E ⟨pd, ps, d, s, xs, rfl, _⟩; rfl
theorem tr_ap : ¬ (Str.ofString "truncate" = Str.ofString "append") := by decide +kernel
theorem ok__applied {K : PySem.W.Frag} {A : Ad} : ∀ vs G Q E, S__applied K A vs G Q E → Es (t__applied K A) { nx := fun _ G' => Q .non G', rt := Q } (L2.start ["data", "steps", "result", "name", "number"] vs) G := by
  rintro vs G Q E ⟨pd, ps, d, s, xs, rfl, hd, hs, hI, hn, hb, q⟩
  change Es _ _ (_ :: _ :: _ :: _ :: _ :: []) _
  k_extra "e"
  refine ec_list (.inl hd) fun p hp => ?_
  k_extra "e"
  k_extra "e"
  refine es_forL ?_
  k_extra "e"
  refine ⟨ps, xs, rfl, (Ex.new hp).sl hs, fun i σ G' => ∃ p c2 c3, σ = [some (.ref pd), some (.ref ps), some (.ref p), c2, c3] ∧ G p = none ∧ G' = upd G p (.lst ((aft d (s.take i)).map V.int)), ⟨p, _, _, rfl, hp, by rw [List.take_zero]; rfl⟩, ?_, ?_, ?_⟩
  · rintro i σ G' ⟨p, c2, c3, rfl, hp, rfl⟩
    exact (Ex.new hp).sl hs
  · rintro i x σ G' hx ⟨p, c2, c3, rfl, hp, rfl⟩
    obtain ⟨d', hd', kx⟩ := ims_get' hI hx
    rw [List.getElem?_map] at hd'
    obtain ⟨y, hy, rfl⟩ := Option.map_eq_some_iff.mp hd'
    obtain ⟨t, u, v, rfl, ht, hu, hv⟩ := pair_at kx
    have hu := im_str hu
    have hv := im_int hv
    subst hu hv
    have hi : i < s.length := (List.getElem?_eq_some_iff.mp hy).1
    have hsl : (aft d (s.take i)).length ≤ 1000000 := by
      have := aft_len d (s.take i)
      rw [List.length_take] at this
      omega
    refine eg_tup ((Ex.new hp).st ht) rfl ?_
    k_extra "e"
    k_extra "e"
    obtain ⟨b, n⟩ := y
    cases b with
    | true =>
      refine ifd (fun _ => ?_) (fun h => absurd rfl h)
      k_extra "e"
      refine ee_bm ?_
      k_extra "e"
      refine ⟨ty_lst upd_same, ?_⟩
      k_extra "e"
      refine em_append upd_same (by rw [List.length_map]; exact szlt (by omega)) ?_
      rw [upd_upd, map_snoc]
      refine ⟨p, _, _, rfl, hp, ?_⟩
      rw [List.take_add_one, hy, Option.toList_some, aft_snoc, if_pos rfl]
    | false =>
      refine ifd (fun h => absurd (show Str.ofString "truncate" = Str.ofString "append" from h) tr_ap) (fun _ => ?_)
      k_extra "e"
      refine ew_L (SqL.of upd_same) fun p2 hp2 => ?_
      have hn0 : (0 : Int) ≤ n := hn _ (List.mem_of_getElem? hy)
      rw [cut_to _ _ hn0]
      have hp20 := nul_upd hp2
      refine Eg.weak (ex_swap hp) ?_
      refine eg_name ?_
      refine ⟨p2, _, _, rfl, hp20, ?_⟩
      rw [List.take_add_one, hy, Option.toList_some, aft_snoc, if_neg (by simp), List.map_take]
  · rintro σ G' ⟨p, c2, c3, rfl, hp, rfl⟩
    have hl := ims_len hI
    rw [List.length_map] at hl
    k_extra "e"
    rw [List.take_of_length_le (by omega)]
    exact q p hp
end Lw

namespace Lw
open PySem PySem.Spec PyProof.Rows L2
local macro_rules | `(tactic| k_extra "x1") => `(tactic| first
  | with_reducible refine es_seq ?_
  | with_reducible refine es_asg ?_
  | with_reducible refine es_if ?_
  | with_reducible refine es_ret ?_
  | with_reducible refine es_drop ?_
  | with_reducible refine es_next ?_
  | with_reducible refine es_augS ?_
  | with_reducible refine es_fld ?_
  | ((with_reducible show Ee (tVar _) _ _ _); refine ee_var rfl ?_)
  | with_reducible refine ee_c ?_
  | with_reducible refine ee_op ?_
  | with_reducible refine ee_un ?_
  | with_reducible refine eu_neg ?_
  | with_reducible refine ee_cb ?_
  | with_reducible refine ee_call ?_
  | with_reducible refine ea_nil ?_
  | with_reducible refine ea_cons ?_
  | with_reducible refine ee_sl ?_
  | with_reducible refine eo_no ?_
  | with_reducible refine eo_part ?_
  | with_reducible refine ee_tup ?_
  | with_reducible refine ee_lst ?_
  | with_reducible refine et_test ?_
  | with_reducible refine et_tB ?_
  | with_reducible refine et_tru ?_
  | with_reducible refine et_and ?_
  | with_reducible refine et_or ?_
  | with_reducible refine et_not ?_
  | with_reducible refine ee_and ?_
  | with_reducible refine ee_or ?_
  | with_reducible refine ee_not ?_
  | with_reducible refine ee_if ?_
  | with_reducible refine ee_chain ?_
  | with_reducible refine er_addI ?_
  | with_reducible refine er_subI ?_
  | with_reducible refine er_eqI ?_
  | with_reducible refine er_neI ?_
  | with_reducible refine er_eqNI ?_
  | with_reducible refine er_eqS ?_
  | with_reducible refine er_neS ?_
  | with_reducible refine er_eqB ?_
  | with_reducible refine er_neB ?_
  | with_reducible refine er_lt ?_
  | with_reducible refine er_le ?_
  | with_reducible refine er_gt ?_
  | with_reducible refine er_ge ?_
  | with_reducible refine er_isN_non ?_
  | with_reducible refine er_isN_bl ?_
  | with_reducible refine er_isN_int ?_
  | with_reducible refine er_isN_str ?_
  | with_reducible refine er_isN_ref ?_
  | with_reducible refine er_notN_non ?_
  | with_reducible refine er_notN_bl ?_
  | with_reducible refine er_notN_int ?_
  | with_reducible refine er_notN_str ?_
  | with_reducible refine er_notN_ref ?_
  | with_reducible refine er_isN ?_
  | with_reducible refine er_notN ?_
  | with_reducible refine ec_int ?_
  | with_reducible refine ec_max2 ?_
  | with_reducible refine ec_min2 ?_
  | with_reducible refine ip_I ?_
  | ((with_reducible refine eg_name ?_); (try dsimp only [L2.wipe, List.set_cons_zero, List.set_cons_succ]))
  | with_reducible refine eg_sub ?_
  | with_reducible refine egs_cons ?_
  | with_reducible refine egs_nil ?_
  | with_reducible refine tru_bl ?_
  | with_reducible refine tru_int ?_
  | with_reducible refine tru_non ?_
  | with_reducible refine iteT ?_
  | with_reducible refine iteF ?_
  | with_reducible refine ite_nt ?_
  | with_reducible refine ite_nf ?_
  | with_reducible refine ⟨_, rfl, ?_⟩)
local macro_rules | `(tactic| k_extra "s") => `(tactic| ((first | k_extra "x1" | ((with_reducible refine es_unf ?_); refine es_seq ?_)); (repeat k_extra "x1")))
local macro_rules | `(tactic| k_extra "x") => `(tactic| (repeat first | k_extra "x1" | ((with_reducible refine es_unf ?_); refine es_seq ?_)))
local macro_rules | `(tactic| k_extra "start") => `(tactic| dsimp only [L2.start, List.map_cons, List.map_nil, List.length_cons, List.length_nil, Nat.reduceAdd, Nat.reduceSub, List.replicate, List.cons_append, List.nil_append, Nat.zero_add])
local macro_rules | `(tactic| k_extra "e1") => `(tactic| first
  | with_reducible refine es_next ?_
  | ((with_reducible show Ee (tVar _) _ _ _); refine ee_var rfl ?_)
  | with_reducible refine ee_c ?_
  | with_reducible refine ee_op ?_
  | with_reducible refine ee_un ?_
  | with_reducible refine eu_neg ?_
  | with_reducible refine ee_cb ?_
  | with_reducible refine ee_call ?_
  | with_reducible refine ea_nil ?_
  | with_reducible refine ea_cons ?_
  | with_reducible refine ee_sl ?_
  | with_reducible refine eo_no ?_
  | with_reducible refine eo_part ?_
  | with_reducible refine ee_tup ?_
  | with_reducible refine ee_lst ?_
  | with_reducible refine et_test ?_
  | with_reducible refine et_tB ?_
  | with_reducible refine et_tru ?_
  | with_reducible refine et_and ?_
  | with_reducible refine et_or ?_
  | with_reducible refine et_not ?_
  | with_reducible refine ee_and ?_
  | with_reducible refine ee_or ?_
  | with_reducible refine ee_not ?_
  | with_reducible refine ee_if ?_
  | with_reducible refine ee_chain ?_
  | with_reducible refine er_addI ?_
  | with_reducible refine er_subI ?_
  | with_reducible refine er_eqI ?_
  | with_reducible refine er_neI ?_
  | with_reducible refine er_eqNI ?_
  | with_reducible refine er_eqS ?_
  | with_reducible refine er_neS ?_
  | with_reducible refine er_eqB ?_
  | with_reducible refine er_neB ?_
  | with_reducible refine er_lt ?_
  | with_reducible refine er_le ?_
  | with_reducible refine er_gt ?_
  | with_reducible refine er_ge ?_
  | with_reducible refine er_isN_non ?_
  | with_reducible refine er_isN_bl ?_
  | with_reducible refine er_isN_int ?_
  | with_reducible refine er_isN_str ?_
  | with_reducible refine er_isN_ref ?_
  | with_reducible refine er_notN_non ?_
  | with_reducible refine er_notN_bl ?_
  | with_reducible refine er_notN_int ?_
  | with_reducible refine er_notN_str ?_
  | with_reducible refine er_notN_ref ?_
  | with_reducible refine er_isN ?_
  | with_reducible refine er_notN ?_
  | with_reducible refine ec_int ?_
  | with_reducible refine ec_max2 ?_
  | with_reducible refine ec_min2 ?_
  | with_reducible refine ip_I ?_
  | ((with_reducible refine eg_name ?_); (try dsimp only [L2.wipe, List.set_cons_zero, List.set_cons_succ]))
  | with_reducible refine eg_sub ?_
  | with_reducible refine egs_cons ?_
  | with_reducible refine egs_nil ?_
  | with_reducible refine tru_bl ?_
  | with_reducible refine tru_int ?_
  | with_reducible refine tru_non ?_
  | with_reducible refine iteT ?_
  | with_reducible refine iteF ?_
  | with_reducible refine ite_nt ?_
  | with_reducible refine ite_nf ?_
  | with_reducible refine ex_bl ?_
  | with_reducible refine ex_int ?_
  | with_reducible refine ex_str ?_
  | with_reducible refine ex_strx ?_
  | with_reducible refine ex_ints1 ?_
  | with_reducible refine ex_ints2 ?_)
local macro_rules | `(tactic| k_extra "t1") => `(tactic| first
  | with_reducible refine es_asg ?_
  | with_reducible refine es_if ?_
  | with_reducible refine es_ret ?_
  | with_reducible refine es_drop ?_
  | with_reducible refine es_augS ?_
  | with_reducible refine es_fld ?_)
local macro_rules | `(tactic| k_extra "e") => `(tactic| first
  | ((with_reducible refine es_seq ?_); (try k_extra "t1"); (repeat k_extra "e1"))
  | (k_extra "t1"; (repeat k_extra "e1"))
  | (k_extra "e1"; (repeat k_extra "e1"))
  | ((with_reducible refine es_unf ?_); (refine es_seq ?_); (try k_extra "t1"); (repeat k_extra "e1")))
/-! ### the class of files -/
def limV : Option Int → V
  | none => .non
  | some m => .int m
def LimN (l : Option Int) : Prop := ∀ m, l = some m → 0 ≤ m
def cnt : Option Int → Nat → Nat
  | none, n => n
  | some m, n => if (n : Int) < m then n else m.toNat
def fF (p1 p2 : Addr) : List (Str × V) := [(Str.ofString "_lasting", .ref p1), (Str.ofString "_steps", .ref p2)]
theorem nls : ¬ (Str.ofString "_lasting" = Str.ofString "_steps") := by decide +kernel
theorem nsl : ¬ (Str.ofString "_steps" = Str.ofString "_lasting") := by decide +kernel
theorem fF_las (p1 p2 : Addr) : (fF p1 p2).lookup (Str.ofString "_lasting") = some (.ref p1) := by simp [fF, List.lookup]
theorem fF_stp (p1 p2 : Addr) : (fF p1 p2).lookup (Str.ofString "_steps") = some (.ref p2) := by
  have : (Str.ofString "_steps" == Str.ofString "_lasting") = false := beq_false_of_ne nsl
  simp [fF, List.lookup, this]
theorem fF_init (p1 p2 : Addr) : putF (Str.ofString "_steps") (.ref p2) (putF (Str.ofString "_lasting") (.ref p1) []) = fF p1 p2 := by
  simp [putF, fF, nls]
theorem fF_putL (p1 p2 q : Addr) : putF (Str.ofString "_lasting") (.ref q) (fF p1 p2) = fF q p2 := by simp [putF, fF]
theorem fF_putS (p1 p2 q : Addr) : putF (Str.ofString "_steps") (.ref q) (fF p1 p2) = fF p1 q := by simp [putF, fF, nls]
theorem fF_no {p1 p2 : Addr} {m : Str} (h1 : ¬ m = Str.ofString "_lasting") (h2 : ¬ m = Str.ofString "_steps") : (fF p1 p2).lookup m = none := by
  have a : (m == Str.ofString "_lasting") = false := beq_false_of_ne h1
  have b : (m == Str.ofString "_steps") = false := beq_false_of_ne h2
  simp [fF, List.lookup, a, b]
/-- a file stands at x in the piece F -/
structure FileAt (K : PySem.W.Frag) (A : Ad) (F : Hp) (x : Addr) (las : List Int) (st : List Stp) : Prop where
  ex : ∃ dx p1 p2 xs, F x = some (.ins A.cFile dx (fF p1 p2)) ∧ F p1 = some (.lst (las.map V.int)) ∧ F p2 = some (.lst xs) ∧ Ims K F xs (st.map encP) ∧ p1 ≠ p2
  nn : NN st
def S_File_init (K : PySem.W.Frag) (A : Ad) : Pm := fun vs G Q _ => ∃ (x dx : Addr) (F : Hp), vs = [.ref x] ∧ F x = some (.ins A.cFile dx []) ∧ Ex F G ∧ ∀ G' F', FileAt K A F' x [] [] → Ex F' G' → Fr F G F' G' → Q .non G'
/-! File.__init__ -/
def t_File_init (K : PySem.W.Frag) (A : Ad) : TS := tSeq (sFld K (tVar 0) (tLst tNil) "_lasting") (sFld K (tVar 0) (tLst tNil) "_steps")
theorem len_File_init {K : PySem.W.Frag} {A : Ad} : ∀ vs G Q E, S_File_init K A vs G Q E → vs.length = ["self"].length := by
  rintro vs G Q E ⟨x, dx, F, rfl, _⟩; rfl
theorem ok_File_init {K : PySem.W.Frag} {A : Ad} (C : Cf K A) : ∀ vs G Q E, S_File_init K A vs G Q E → Es (t_File_init K A) { nx := fun _ G' => Q .non G', rt := Q } (L2.start ["self"] vs) G := by
  rintro vs G Q E ⟨x, dx, F, rfl, hx, e, q⟩
  change Es _ _ (_ :: []) _
  k_extra "e"
  refine ⟨Nat.zero_le _, fun p1 hp1 => ?_⟩
  have hxG := e _ _ hx
  k_extra "e"
  refine ⟨x, _, dx, _, rfl, get_new hxG hp1, C.cl, C.n1, by decide, ?_⟩
  k_extra "e"
  refine ⟨Nat.zero_le _, fun p2 hp2 => ?_⟩
  have hxp : x ≠ p1 := ne_new hxG hp1
  have hxp2 : x ≠ p2 := ne_new (upd_same) hp2
  have h12 : p1 ≠ p2 := ne_new (get_ne upd_same hxp.symm) hp2
  k_extra "e"
  refine ⟨x, _, dx, _, rfl, get_ne upd_same hxp2, C.cl, C.n2, by simp [putF], ?_⟩
  rw [fF_init]
  have fr : Fr F G (upd (upd (upd (upd F p1 (.lst [])) x (.ins A.cFile dx (putF (Str.ofString "_lasting") (.ref p1) []))) p2 (.lst [])) x (.ins A.cFile dx (fF p1 p2))) (upd (upd (upd (upd G p1 (.lst [])) x (.ins A.cFile dx (putF (Str.ofString "_lasting") (.ref p1) []))) p2 (.lst [])) x (.ins A.cFile dx (fF p1 p2))) :=
    (((Fr.new hp1).trans (Fr.mut (get_ne hx hxp))).trans (Fr.new hp2)).trans (Fr.mut (get_ne upd_same hxp2))
  exact q _ _ ⟨⟨dx, p1, p2, [], upd_same, get_ne (get_ne (get_ne upd_same hxp.symm) h12) hxp.symm, get_ne upd_same hxp2.symm, .nil, h12⟩, fun _ z => by cases z⟩ e.put.put.put.put fr
def S_File_content (K : PySem.W.Frag) (A : Ad) : Pm := fun vs G Q _ => ∃ (x : Addr) (las : List Int) (st : List Stp), vs = [.ref x] ∧ FileAt K A G x las st ∧ las.length + st.length ≤ 1000000 ∧ ∀ p, G p = none → Q (.ref p) (upd G p (.lst ((aft las st).map V.int)))
/-! File.content -/
def t_File_content (K : PySem.W.Frag) (A : Ad) : TS := (tRet (tCall (up (S__applied K A)) [] E0 (tCons (tFld K (tVar 0) "_lasting") (tCons (tFld K (tVar 0) "_steps") tNil))))
theorem len_File_content {K : PySem.W.Frag} {A : Ad} : ∀ vs G Q E, S_File_content K A vs G Q E → vs.length = ["self"].length := by
  rintro vs G Q E ⟨x, _, _, rfl, _⟩; rfl
theorem FileAt.up {K : PySem.W.Frag} {A : Ad} {F G : Hp} {x : Addr} {las : List Int} {st : List Stp} (h : FileAt K A F x las st) (e : Ex F G) : FileAt K A G x las st := by
  obtain ⟨⟨dx, p1, p2, xs, h1, h2, h3, h4, h5⟩, h6⟩ := h
  exact ⟨⟨dx, p1, p2, xs, e _ _ h1, e _ _ h2, e _ _ h3, e.tx.ims h4, h5⟩, h6⟩
theorem ok_File_content {K : PySem.W.Frag} {A : Ad} (C : Cf K A) : ∀ vs G Q E, S_File_content K A vs G Q E → Es (t_File_content K A) { nx := fun _ G' => Q .non G', rt := Q } (L2.start ["self"] vs) G := by
  rintro vs G Q E ⟨x, las, st, rfl, ⟨⟨dx, p1, p2, xs, h1, h2, h3, h4, h5⟩, h6⟩, hb, q⟩
  change Es _ _ (_ :: []) _
  k_extra "e"
  refine ee_fld ?_
  k_extra "e"
  refine ⟨x, _, dx, _, _, rfl, h1, C.cl, C.n1, fF_las _ _, ?_⟩
  k_extra "e"
  refine ee_fld ?_
  k_extra "e"
  refine ⟨x, _, dx, _, _, rfl, h1, C.cl, C.n2, fF_stp _ _, ?_⟩
  k_extra "e"
  exact ⟨p1, p2, las, st, xs, rfl, SqL.of h2, SqL.of h3, h4, h6, hb, q⟩
def S_File_pending (K : PySem.W.Frag) (A : Ad) : Pm := fun vs G Q _ => ∃ (x : Addr) (las : List Int) (st : List Stp), vs = [.ref x] ∧ FileAt K A G x las st ∧ Q (.int st.length) G
/-! File.pending -/
def t_File_pending (K : PySem.W.Frag) (A : Ad) : TS := (tRet (tCB (rLenU K) (tCons (tFld K (tVar 0) "_steps") tNil)))
theorem len_File_pending {K : PySem.W.Frag} {A : Ad} : ∀ vs G Q E, S_File_pending K A vs G Q E → vs.length = ["self"].length := by
  rintro vs G Q E ⟨x, _, _, rfl, _⟩; rfl
theorem ok_File_pending {K : PySem.W.Frag} {A : Ad} (C : Cf K A) : ∀ vs G Q E, S_File_pending K A vs G Q E → Es (t_File_pending K A) { nx := fun _ G' => Q .non G', rt := Q } (L2.start ["self"] vs) G := by
  rintro vs G Q E ⟨x, las, st, rfl, ⟨⟨dx, p1, p2, xs, h1, h2, h3, h4, h5⟩, h6⟩, q⟩
  change Es _ _ (_ :: []) _
  k_extra "e"
  refine ee_fld ?_
  k_extra "e"
  refine ⟨x, _, dx, _, _, rfl, h1, C.cl, C.n2, fF_stp _ _, ?_⟩
  k_extra "e"
  refine ec_lenL (SqL.of h3) fun _ => ?_
  have := ims_len h4
  rw [List.length_map] at this
  rw [this]
  exact q
def S_File_lose (K : PySem.W.Frag) (A : Ad) : Pm := fun vs G Q _ => ∃ (x : Addr) (las : List Int) (st : List Stp) (n : Int) (F : Hp), vs = [.ref x, .int n] ∧ FileAt K A F x las st ∧ Ex F G ∧ 0 ≤ n ∧ las.length + st.length ≤ 1000000 ∧
  ∀ G' F', FileAt K A F' x (aft las (st.take n.toNat)) [] → Ex F' G' → Fr F G F' G' → Q .non G'
/-! File.lose -/
def t_File_lose (K : PySem.W.Frag) (A : Ad) : TS := tSeq (sFld K (tVar 0) (tCall (up (S__applied K A)) [] E0 (tCons (tFld K (tVar 0) "_lasting") (tCons (tSl (rSlU K) (tFld K (tVar 0) "_steps") tNoPart (tPart (tVar 1))) tNil))) "_lasting") (sFld K (tVar 0) (tLst tNil) "_steps")
theorem len_File_lose {K : PySem.W.Frag} {A : Ad} : ∀ vs G Q E, S_File_lose K A vs G Q E → vs.length = ["self", "steps"].length := by
  rintro vs G Q E ⟨x, _, _, _, _, rfl, _⟩; rfl
theorem ims_take {K : PySem.W.Frag} {G : Hp} : ∀ {xs : List V} {ds : List PyData} (n : Nat), Ims K G xs ds → Ims K G (xs.take n) (ds.take n)
  | _, _, 0, _ => by rw [List.take_zero, List.take_zero]; exact .nil
  | _, _, n + 1, .nil => .nil
  | _, _, n + 1, .cons h t => .cons h (ims_take n t)
theorem NN.take {st : List Stp} (h : NN st) (n : Nat) : NN (st.take n) := fun x hx => h x (List.mem_of_mem_take hx)
theorem ok_File_lose {K : PySem.W.Frag} {A : Ad} (C : Cf K A) : ∀ vs G Q E, S_File_lose K A vs G Q E → Es (t_File_lose K A) { nx := fun _ G' => Q .non G', rt := Q } (L2.start ["self", "steps"] vs) G := by
  rintro vs G Q E ⟨x, las, st, n, F, rfl, ⟨⟨dx, p1, p2, xs, h1, h2, h3, h4, h5⟩, h6⟩, e, hn, hb, q⟩
  change Es _ _ (_ :: _ :: []) _
  k_extra "e"
  refine ee_fld ?_
  k_extra "e"
  refine ⟨x, _, dx, _, _, rfl, e _ _ h1, C.cl, C.n1, fF_las _ _, ?_⟩
  k_extra "e"
  refine ee_fld ?_
  k_extra "e"
  refine ⟨x, _, dx, _, _, rfl, e _ _ h1, C.cl, C.n2, fF_stp _ _, ?_⟩
  k_extra "e"
  refine ew_L (SqL.of (e _ _ h3)) fun pc hpc => ?_
  rw [cut_to _ _ hn]
  k_extra "e"
  have hl := ims_len h4
  rw [List.length_map] at hl
  refine ⟨p1, pc, las, st.take n.toNat, _, rfl, (Ex.new hpc).sl (SqL.of (e _ _ h2)), SqL.of upd_same, ?_, h6.take _, by rw [List.length_take]; omega, fun p hp => ?_⟩
  · rw [List.map_take]; exact (e.trans (Ex.new hpc)).tx.ims (ims_take _ h4)
  have hxc : x ≠ pc := ne_new (e _ _ h1) hpc
  have hxp : x ≠ p := ne_new (get_ne (e _ _ h1) hxc) hp
  k_extra "e"
  refine ⟨x, _, dx, _, rfl, get_ne (get_ne (e _ _ h1) hxc) hxp, C.cl, C.n1, by simp [fF], ?_⟩
  rw [fF_putL]
  k_extra "e"
  refine ⟨Nat.zero_le _, fun p3 hp3 => ?_⟩
  have hx3 : x ≠ p3 := ne_new upd_same hp3
  have hp3' : p ≠ p3 := ne_new (get_ne upd_same hxp.symm) hp3
  k_extra "e"
  refine ⟨x, _, dx, _, rfl, get_ne upd_same hx3, C.cl, C.n2, by simp [fF], ?_⟩
  rw [fF_putS]
  refine q _ (upd (upd (upd (upd F p (.lst ((aft las (st.take n.toNat)).map V.int))) x (.ins A.cFile dx (fF p p2))) p3 (.lst [])) x (.ins A.cFile dx (fF p p3))) ⟨⟨dx, p, p3, [], upd_same, get_ne (get_ne (get_ne upd_same hxp.symm) hp3') hxp.symm, get_ne upd_same hx3.symm, .nil, hp3'⟩, fun _ z => by cases z⟩ ?_ ?_
  · exact (e.trans (Ex.new hpc)).put.put.put.put
  · exact ((((Fr.junk (Ex.new hpc)).trans (Fr.new hp)).trans (Fr.mut (get_ne h1 hxp))).trans (Fr.new hp3)).trans (Fr.mut (get_ne upd_same hx3))
def S_File_flush (K : PySem.W.Frag) (A : Ad) : Pm := fun vs G Q _ => ∃ (x : Addr) (las : List Int) (st : List Stp) (lim : Option Int) (F : Hp), vs = [.ref x, limV lim] ∧ FileAt K A F x las st ∧ Ex F G ∧ las.length + st.length ≤ 1000000 ∧
  (lim = some 0 → Q (.int 0) G) ∧ (lim ≠ some 0 → ∀ G' F', FileAt K A F' x (aft las st) [] → Ex F' G' → Fr F G F' G' → Q (.int 1) G')
/-! File.flush -/
def t_File_flush_1 (K : PySem.W.Frag) (A : Ad) : TS := tSeq (tDrop (tMeth A.cFile "lose" (up (S_File_lose K A)) [] E0 (tVar 0) (tCons (tCB (rLenU K) (tCons (tFld K (tVar 0) "_steps") tNil)) tNil))) (tRet (tC (.int 1)))
def t_File_flush (K : PySem.W.Frag) (A : Ad) : TS := tSeq (tIfS (tTest (tOp (rEqU K) (tVar 1) (tC (.int 0)))) (tRet (tC (.int 0))) tNext) (t_File_flush_1 K A)
theorem len_File_flush {K : PySem.W.Frag} {A : Ad} : ∀ vs G Q E, S_File_flush K A vs G Q E → vs.length = ["self", "steps"].length := by
  rintro vs G Q E ⟨x, _, _, _, _, rfl, _⟩; rfl
theorem ok_File_flush {K : PySem.W.Frag} {A : Ad} (C : Cf K A) : ∀ vs G Q E, S_File_flush K A vs G Q E → Es (t_File_flush K A) { nx := fun _ G' => Q .non G', rt := Q } (L2.start ["self", "steps"] vs) G := by
  rintro vs G Q E ⟨x, las, st, lim, F, rfl, hF, e, hb, q0, q1⟩
  change Es _ _ (_ :: _ :: []) _
  have go : lim ≠ some 0 → Es (t_File_flush_1 K A) { nx := fun _ G' => Q .non G', rt := Q } [some (.ref x), some (limV lim)] G := by
    intro hl
    obtain ⟨dx, p1, p2, xs, h1, h2, h3, h4, h5⟩ := hF.ex
    k_extra "e"
    refine ee_meth ?_
    k_extra "e"
    refine ⟨x, dx, _, rfl, e _ _ h1, fF_no (by decide +kernel) (by decide +kernel), ?_⟩
    k_extra "e"
    refine ee_fld ?_
    k_extra "e"
    refine ⟨x, _, dx, _, _, rfl, e _ _ h1, C.cl, C.n2, fF_stp _ _, ?_⟩
    k_extra "e"
    refine ec_lenL (SqL.of (e _ _ h3)) fun _ => ?_
    have hxl := ims_len h4
    rw [List.length_map] at hxl
    k_extra "e"
    refine ⟨x, las, st, _, F, rfl, hF, e, Int.natCast_nonneg _, hb, fun G' F' hF' e' fr => ?_⟩
    rw [Int.toNat_natCast, hxl, List.take_length] at hF'
    k_extra "e"
    exact q1 hl G' F' hF' e' fr
  cases lim with
  | none =>
    dsimp only [limV] at go ⊢
    k_extra "e"
    exact go (by simp)
  | some m =>
    dsimp only [limV] at go ⊢
    k_extra "e"
    refine ifd (fun h => ?_) (fun h => ?_)
    · subst h
      k_extra "e"
      exact q0 rfl
    · refine es_next ?_
      exact go (by simpa using h)
def S_File_shorten (K : PySem.W.Frag) (A : Ad) : Pm := fun vs G Q _ => ∃ (x : Addr) (las : List Int) (st : List Stp) (n : Int) (lim : Option Int) (F : Hp), vs = [.ref x, .int n, limV lim] ∧ FileAt K A F x las st ∧ Ex F G ∧ 0 ≤ n ∧ las.length + st.length ≤ 1000000 ∧
  (lim = some 0 → Q (.int 0) G) ∧ (lim ≠ some 0 → ∀ G' F', FileAt K A F' x las (st ++ [(false, n)]) → Ex F' G' → Fr F G F' G' → Q (.int 1) G')
/-! File.shorten -/
def t_File_shorten_1 (K : PySem.W.Frag) (A : Ad) : TS := tSeq (tDrop (tBM K "list" (rAppend) (tFld K (tVar 0) "_steps") (tCons (tTup (tCons (tC (.str "truncate")) (tCons (tVar 1) tNil))) tNil))) (tRet (tC (.int 1)))
def t_File_shorten (K : PySem.W.Frag) (A : Ad) : TS := tSeq (tIfS (tTest (tOp (rEqU K) (tVar 2) (tC (.int 0)))) (tRet (tC (.int 0))) tNext) (t_File_shorten_1 K A)
theorem len_File_shorten {K : PySem.W.Frag} {A : Ad} : ∀ vs G Q E, S_File_shorten K A vs G Q E → vs.length = ["self", "size", "steps"].length := by
  rintro vs G Q E ⟨x, _, _, _, _, _, rfl, _⟩; rfl
theorem NN.app {s t : List Stp} (h : NN s) (k : NN t) : NN (s ++ t) := fun x hx => (List.mem_append.mp hx).elim (h x) (k x)
theorem ok_File_shorten {K : PySem.W.Frag} {A : Ad} (C : Cf K A) : ∀ vs G Q E, S_File_shorten K A vs G Q E → Es (t_File_shorten K A) { nx := fun _ G' => Q .non G', rt := Q } (L2.start ["self", "size", "steps"] vs) G := by
  rintro vs G Q E ⟨x, las, st, n, lim, F, rfl, hF, e, hn, hb, q0, q1⟩
  change Es _ _ (_ :: _ :: _ :: []) _
  have go : lim ≠ some 0 → Es (t_File_shorten_1 K A) { nx := fun _ G' => Q .non G', rt := Q } [some (.ref x), some (.int n), some (limV lim)] G := by
    intro hl
    obtain ⟨dx, p1, p2, xs, h1, h2, h3, h4, h5⟩ := hF.ex
    have hxl := ims_len h4
    rw [List.length_map] at hxl
    have hx2 : x ≠ p2 := fun z => by rw [z, h3] at h1; cases h1
    k_extra "e"
    refine ee_bm ?_
    refine ee_fld ?_
    k_extra "e"
    refine ⟨x, _, dx, _, _, rfl, e _ _ h1, C.cl, C.n2, fF_stp _ _, ?_⟩
    refine ⟨ty_lst (e _ _ h3), ?_⟩
    k_extra "e"
    refine ⟨sz1000 (by simp), fun t ht => ?_⟩
    have h2t : p2 ≠ t := ne_new (e _ _ h3) ht
    k_extra "e"
    refine em_append (get_ne (e _ _ h3) h2t) (szlt (by omega)) ?_
    k_extra "e"
    refine q1 hl _ (upd (upd F t (.tup [.str (Str.ofString "truncate"), .int n])) p2 (.lst (xs ++ [.ref t]))) ⟨⟨dx, p1, p2, _, get_ne (get_ne h1 (ne_new (e _ _ h1) ht)) hx2, get_ne (get_ne h2 (ne_new (e _ _ h2) ht)) h5, upd_same, ?_, h5⟩, hF.nn.app fun y hy => ?_⟩ e.put.put ((Fr.new ht).trans (Fr.mut (get_ne h3 h2t)))
    · rw [List.map_append]
      have tx : Tx F (upd (upd F t (.tup [.str (Str.ofString "truncate"), .int n])) p2 (.lst (xs ++ [.ref t]))) := (Ex.new (e.nul ht)).tx.trans (Tx.upd (noTup_lst (get_ne h3 h2t)))
      exact ims_app (tx.ims h4) (ims_one (.tup (SqT.of (get_ne upd_same h2t.symm)) (.cons (.str _) (.cons (.int _) .nil))))
    · rw [List.mem_singleton] at hy; subst hy; exact hn
  cases lim with
  | none =>
    dsimp only [limV] at go ⊢
    k_extra "e"
    exact go (by simp)
  | some m =>
    dsimp only [limV] at go ⊢
    k_extra "e"
    refine ifd (fun h => ?_) (fun h => ?_)
    · subst h
      k_extra "e"
      exact q0 rfl
    · refine es_next ?_
      exact go (by simpa using h)
end Lw

namespace Lw
open PySem PySem.Spec PyProof.Rows L2
local macro_rules | `(tactic| k_extra "x1") => `(tactic| first
  | with_reducible refine es_seq ?_
  | with_reducible refine es_asg ?_
  | with_reducible refine es_if ?_
  | with_reducible refine es_ret ?_
  | with_reducible refine es_drop ?_
  | with_reducible refine es_next ?_
  | with_reducible refine es_augS ?_
  | with_reducible refine es_fld ?_
  | ((with_reducible show Ee (tVar _) _ _ _); refine ee_var rfl ?_)
  | with_reducible refine ee_c ?_
  | with_reducible refine ee_op ?_
  | with_reducible refine ee_un ?_
  | with_reducible refine eu_neg ?_
  | with_reducible refine ee_cb ?_
  | with_reducible refine ee_call ?_
  | with_reducible refine ea_nil ?_
  | with_reducible refine ea_cons ?_
  | with_reducible refine ee_sl ?_
  | with_reducible refine eo_no ?_
  | with_reducible refine eo_part ?_
  | with_reducible refine ee_tup ?_
  | with_reducible refine ee_lst ?_
  | with_reducible refine et_test ?_
  | with_reducible refine et_tB ?_
  | with_reducible refine et_tru ?_
  | with_reducible refine et_and ?_
  | with_reducible refine et_or ?_
  | with_reducible refine et_not ?_
  | with_reducible refine ee_and ?_
  | with_reducible refine ee_or ?_
  | with_reducible refine ee_not ?_
  | with_reducible refine ee_if ?_
  | with_reducible refine ee_chain ?_
  | with_reducible refine er_addI ?_
  | with_reducible refine er_subI ?_
  | with_reducible refine er_eqI ?_
  | with_reducible refine er_neI ?_
  | with_reducible refine er_eqNI ?_
  | with_reducible refine er_eqS ?_
  | with_reducible refine er_neS ?_
  | with_reducible refine er_eqB ?_
  | with_reducible refine er_neB ?_
  | with_reducible refine er_lt ?_
  | with_reducible refine er_le ?_
  | with_reducible refine er_gt ?_
  | with_reducible refine er_ge ?_
  | with_reducible refine er_isN_non ?_
  | with_reducible refine er_isN_bl ?_
  | with_reducible refine er_isN_int ?_
  | with_reducible refine er_isN_str ?_
  | with_reducible refine er_isN_ref ?_
  | with_reducible refine er_notN_non ?_
  | with_reducible refine er_notN_bl ?_
  | with_reducible refine er_notN_int ?_
  | with_reducible refine er_notN_str ?_
  | with_reducible refine er_notN_ref ?_
  | with_reducible refine er_isN ?_
  | with_reducible refine er_notN ?_
  | with_reducible refine ec_int ?_
  | with_reducible refine ec_max2 ?_
  | with_reducible refine ec_min2 ?_
  | with_reducible refine ip_I ?_
  | ((with_reducible refine eg_name ?_); (try dsimp only [L2.wipe, List.set_cons_zero, List.set_cons_succ]))
  | with_reducible refine eg_sub ?_
  | with_reducible refine egs_cons ?_
  | with_reducible refine egs_nil ?_
  | with_reducible refine tru_bl ?_
  | with_reducible refine tru_int ?_
  | with_reducible refine tru_non ?_
  | with_reducible refine iteT ?_
  | with_reducible refine iteF ?_
  | with_reducible refine ite_nt ?_
  | with_reducible refine ite_nf ?_
  | with_reducible refine ⟨_, rfl, ?_⟩)
local macro_rules | `(tactic| k_extra "s") => `(tactic| ((first | k_extra "x1" | ((with_reducible refine es_unf ?_); refine es_seq ?_)); (repeat k_extra "x1")))
local macro_rules | `(tactic| k_extra "x") => `(tactic| (repeat first | k_extra "x1" | ((with_reducible refine es_unf ?_); refine es_seq ?_)))
local macro_rules | `(tactic| k_extra "start") => `(tactic| dsimp only [L2.start, List.map_cons, List.map_nil, List.length_cons, List.length_nil, Nat.reduceAdd, Nat.reduceSub, List.replicate, List.cons_append, List.nil_append, Nat.zero_add])
local macro_rules | `(tactic| k_extra "e1") => `(tactic| first
  | with_reducible refine es_next ?_
  | ((with_reducible show Ee (tVar _) _ _ _); refine ee_var rfl ?_)
  | with_reducible refine ee_c ?_
  | with_reducible refine ee_op ?_
  | with_reducible refine ee_un ?_
  | with_reducible refine eu_neg ?_
  | with_reducible refine ee_cb ?_
  | with_reducible refine ee_call ?_
  | with_reducible refine ea_nil ?_
  | with_reducible refine ea_cons ?_
  | with_reducible refine ee_sl ?_
  | with_reducible refine eo_no ?_
  | with_reducible refine eo_part ?_
  | with_reducible refine ee_tup ?_
  | with_reducible refine ee_lst ?_
  | with_reducible refine et_test ?_
  | with_reducible refine et_tB ?_
  | with_reducible refine et_tru ?_
  | with_reducible refine et_and ?_
  | with_reducible refine et_or ?_
  | with_reducible refine et_not ?_
  | with_reducible refine ee_and ?_
  | with_reducible refine ee_or ?_
  | with_reducible refine ee_not ?_
  | with_reducible refine ee_if ?_
  | with_reducible refine ee_chain ?_
  | with_reducible refine er_addI ?_
  | with_reducible refine er_subI ?_
  | with_reducible refine er_eqI ?_
  | with_reducible refine er_neI ?_
  | with_reducible refine er_eqNI ?_
  | with_reducible refine er_eqS ?_
  | with_reducible refine er_neS ?_
  | with_reducible refine er_eqB ?_
  | with_reducible refine er_neB ?_
  | with_reducible refine er_lt ?_
  | with_reducible refine er_le ?_
  | with_reducible refine er_gt ?_
  | with_reducible refine er_ge ?_
  | with_reducible refine er_isN_non ?_
  | with_reducible refine er_isN_bl ?_
  | with_reducible refine er_isN_int ?_
  | with_reducible refine er_isN_str ?_
  | with_reducible refine er_isN_ref ?_
  | with_reducible refine er_notN_non ?_
  | with_reducible refine er_notN_bl ?_
  | with_reducible refine er_notN_int ?_
  | with_reducible refine er_notN_str ?_
  | with_reducible refine er_notN_ref ?_
  | with_reducible refine er_isN ?_
  | with_reducible refine er_notN ?_
  | with_reducible refine ec_int ?_
  | with_reducible refine ec_max2 ?_
  | with_reducible refine ec_min2 ?_
  | with_reducible refine ip_I ?_
  | ((with_reducible refine eg_name ?_); (try dsimp only [L2.wipe, List.set_cons_zero, List.set_cons_succ]))
  | with_reducible refine eg_sub ?_
  | with_reducible refine egs_cons ?_
  | with_reducible refine egs_nil ?_
  | with_reducible refine tru_bl ?_
  | with_reducible refine tru_int ?_
  | with_reducible refine tru_non ?_
  | with_reducible refine iteT ?_
  | with_reducible refine iteF ?_
  | with_reducible refine ite_nt ?_
  | with_reducible refine ite_nf ?_
  | with_reducible refine ex_bl ?_
  | with_reducible refine ex_int ?_
  | with_reducible refine ex_str ?_
  | with_reducible refine ex_strx ?_
  | with_reducible refine ex_ints1 ?_
  | with_reducible refine ex_ints2 ?_)
local macro_rules | `(tactic| k_extra "t1") => `(tactic| first
  | with_reducible refine es_asg ?_
  | with_reducible refine es_if ?_
  | with_reducible refine es_ret ?_
  | with_reducible refine es_drop ?_
  | with_reducible refine es_augS ?_
  | with_reducible refine es_fld ?_)
local macro_rules | `(tactic| k_extra "e") => `(tactic| first
  | ((with_reducible refine es_seq ?_); (try k_extra "t1"); (repeat k_extra "e1"))
  | (k_extra "t1"; (repeat k_extra "e1"))
  | (k_extra "e1"; (repeat k_extra "e1"))
  | ((with_reducible refine es_unf ?_); (refine es_seq ?_); (try k_extra "t1"); (repeat k_extra "e1")))
/-! ### what is new in a heap; two pieces together -/
def newp (G G' : Hp) : Hp := fun b => match G b with
  | none => G' b
  | some _ => none
def un (F R : Hp) : Hp := fun b => match F b with
  | some o => some o
  | none => R b
theorem newp_of {G G' : Hp} {b : Addr} {o : HO} (h : newp G G' b = some o) : G b = none ∧ G' b = some o := by
  unfold newp at h
  split at h
  · rename_i e; exact ⟨e, h⟩
  · cases h
theorem newp_get {G G' : Hp} {b : Addr} {o : HO} (h : G b = none) (h' : G' b = some o) : newp G G' b = some o := by unfold newp; rw [h]; exact h'
theorem un_l {F R : Hp} : Ex F (un F R) := fun b o h => by unfold un; rw [h]
theorem un_r {F R : Hp} {b : Addr} {o : HO} (h : F b = none) (h' : R b = some o) : un F R b = some o := by unfold un; rw [h]; exact h'
theorem un_of {F R : Hp} {b : Addr} {o : HO} (h : un F R b = some o) : F b = some o ∨ R b = some o := by
  unfold un at h
  split at h
  · rename_i e; exact .inl (e.trans h)
  · exact .inr h
theorem un_ex {F G G' : Hp} (e : Ex F G) (e' : Ex G G') : Ex (un F (newp G G')) G' := fun b o h => by
  rcases un_of h with h | h
  · exact e' _ _ (e _ _ h)
  · exact (newp_of h).2
theorem un_fr {F G G' : Hp} (e' : Ex G G') : Fr F G (un F (newp G G')) G' := fun R d e => by
  refine ⟨e.trans e', fun b => ?_⟩
  cases h : R b with
  | none => exact .inr rfl
  | some o =>
    refine .inl ?_
    have hF := (d b).resolve_right (by rw [h]; simp)
    unfold un newp
    rw [hF, e _ _ h]
theorem un_grow {F G G' G'' : Hp} (e : Ex G' G'') : Ex (un F (newp G G')) (un F (newp G G'')) := fun b o h => by
  rcases un_of h with h' | h'
  · exact un_l _ _ h'
  · obtain ⟨h1, h2⟩ := newp_of h'
    cases hF : F b with
    | some u => have := un_l (R := newp G G') _ _ hF; rw [this] at h; cases h; exact un_l _ _ hF
    | none => exact un_r hF (newp_get h1 (e _ _ h2))
theorem un_at {F G G' : Hp} {b : Addr} {o : HO} (e : Ex F G) (h : G b = none) (h' : G' b = some o) : un F (newp G G') b = some o := un_r (e.nul h) (newp_get h h')
theorem Ap.alloc {T : Hp} {L : List Hp} {G G' : Hp} (a : Ap (T :: L) G) (e : Ex G G') : Ap (un T (newp G G') :: L) G' :=
  Ap.fr (L1 := []) a (un_fr e) (un_ex (a.ex T List.mem_cons_self) e)
theorem Ap.new1 {T : Hp} {L : List Hp} {G : Hp} {p : Addr} {o : HO} (a : Ap (T :: L) G) (h : G p = none) : Ap (upd T p o :: L) (upd G p o) :=
  Ap.fr (L1 := []) a (Fr.new h) (a.ex T List.mem_cons_self).put
theorem Ap.mut1 {T : Hp} {L : List Hp} {G : Hp} {p : Addr} {o u : HO} (a : Ap (T :: L) G) (h : T p = some u) : Ap (upd T p o :: L) (upd G p o) :=
  Ap.fr (L1 := []) a (Fr.mut h) (a.ex T List.mem_cons_self).put
theorem Ap.fr2 {T : Hp} {L : List Hp} {F F' G G' : Hp} (a : Ap (T :: F :: L) G) (f : Fr F G F' G') (e : Ex F' G') : Ap (T :: F' :: L) G' := Ap.fr (L1 := [T]) a f e
/-! ### File.write -/
def cntI : Option Int → Nat → Int
  | none, n => n
  | some m, n => if (n : Int) < m then n else m
def S_File_write (K : PySem.W.Frag) (A : Ad) : Pm := fun vs G Q _ => ∃ (x pd : Addr) (las bs : List Int) (st : List Stp) (lim : Option Int) (F : Hp), vs = [.ref x, .ref pd, limV lim] ∧ FileAt K A F x las st ∧ Ex F G ∧ SqL K G pd (bs.map V.int) ∧ LimN lim ∧ bs.length + st.length ≤ 1000000 ∧ (∀ b ∈ bs, 0 ≤ b) ∧
  ∀ G' F', FileAt K A F' x las (st ++ (bs.take (cntI lim bs.length).toNat).map fun b => (true, b)) → Ex F' G' → Fr F G F' G' → Q (.int (cntI lim bs.length)) G'
/-! File.write -/
def t_File_write_1 (K : PySem.W.Frag) (A : Ad) : TS := tSeq (tDrop (tBM K "list" (rExtend) (tFld K (tVar 0) "_steps") (tCons (tLc (iList K (tSl (rSlU K) (tVar 1) tNoPart (tPart (tVar 3)))) (gName 4) tYes (tTup (tCons (tC (.str "append")) (tCons (tVar 4) tNil))) [4]) tNil))) (tRet (tVar 3))
def t_File_write (K : PySem.W.Frag) (A : Ad) : TS := tSeq (tAsg (tIf (tTest (tOp (rIsN) (tVar 2) (tC .non))) (tCB (rLenU K) (tCons (tVar 1) tNil)) (tCB rMin2U (tCons (tVar 2) (tCons (tCB (rLenU K) (tCons (tVar 1) tNil)) tNil)))) (gName 3)) (t_File_write_1 K A)
theorem len_File_write {K : PySem.W.Frag} {A : Ad} : ∀ vs G Q E, S_File_write K A vs G Q E → vs.length = ["self", "data", "steps"].length := by
  rintro vs G Q E ⟨x, _, _, _, _, _, _, rfl, _⟩; rfl
theorem ok_File_write {K : PySem.W.Frag} {A : Ad} (C : Cf K A) : ∀ vs G Q E, S_File_write K A vs G Q E → Es (t_File_write K A) { nx := fun _ G' => Q .non G', rt := Q } (L2.start ["self", "data", "steps", "count", "byte"] vs) G := by
  rintro vs G Q E ⟨x, pd, las, bs, st, lim, F, rfl, hF, e, hd, hlim, hb, hbs, q⟩
  change Es _ _ (_ :: _ :: _ :: _ :: _ :: []) _
  have go : Es (t_File_write_1 K A) { nx := fun _ G' => Q .non G', rt := Q } [some (.ref x), some (.ref pd), some (limV lim), some (.int (cntI lim bs.length)), none] G := by
    obtain ⟨dx, p1, p2, xs, h1, h2, h3, h4, h5⟩ := hF.ex
    have hc0 : 0 ≤ cntI lim bs.length := by
      cases lim with
      | none => exact Int.natCast_nonneg _
      | some m => show 0 ≤ (if (bs.length : Int) < m then (bs.length : Int) else m); have := hlim m rfl; split <;> omega
    generalize cntI lim bs.length = c at *
    have hxl := ims_len h4
    rw [List.length_map] at hxl
    have hx2 : x ≠ p2 := fun z => by rw [z, h3] at h1; cases h1
    k_extra "e"
    refine ee_bm ?_
    refine ee_fld ?_
    k_extra "e"
    refine ⟨x, _, dx, _, _, rfl, e _ _ h1, C.cl, C.n2, fF_stp _ _, ?_⟩
    refine ⟨ty_lst (e _ _ h3), ?_⟩
    k_extra "e"
    refine ee_lcL ?_
    k_extra "e"
    refine ew_L hd fun pc hpc => ?_
    rw [cut_to _ _ hc0, ← List.map_take]
    generalize hG1 : upd G pc (.lst ((bs.take c.toNat).map V.int)) = G1
    have x1 : Ex G G1 := by rw [← hG1]; exact Ex.new hpc
    have hp1 : G1 pc = some (.lst ((bs.take c.toNat).map V.int)) := by rw [← hG1]; exact upd_same
    refine ⟨pc, _, rfl, SqL.of hp1, fun p hp => ⟨fun i acc G' => Ex G1 G' ∧ G' p = none ∧ Ims K (un F (newp G G')) acc (((bs.take c.toNat).take i).map fun b => encP (true, b)), ⟨Ex.refl _, hp, by rw [List.take_zero]; exact .nil⟩, ?_, ?_, ?_⟩⟩
    · rintro i acc G' ⟨g1, g2, g3⟩
      have := ims_len g3
      rw [List.length_map, List.length_take, List.length_take] at this
      exact ⟨g2, szlt (by omega), SqL.of (g1 _ _ hp1)⟩
    · rintro i acc y G' hy ⟨g1, g2, g3⟩
      rw [List.getElem?_map] at hy
      obtain ⟨b, hb1, rfl⟩ := Option.map_eq_some_iff.mp hy
      refine eg_name ?_
      dsimp only [L2.wipe, List.set_cons_zero, List.set_cons_succ]
      refine ⟨rfl, et_yes (iteT ?_)⟩
      k_extra "e"
      refine ⟨sz1000 (by simp), fun t ht => ?_⟩
      have ht' := nul_upd ht
      have hpt : p ≠ t := ne_new upd_same ht
      have hGt : G t = none := (x1.trans g1).nul ht'
      refine ⟨get_ne upd_same hpt, upd G' t (.tup [.str (Str.ofString "append"), .int b]), ?_, g1.trans (Ex.new ht'), nul_ne g2 hpt, ?_⟩
      · exact Ex.putL (Ex.putL ((Ex.new g2).trans (Ex.new ht)) upd_same) (get_ne upd_same hpt)
      · rw [List.take_add_one, hb1, List.map_append]
        refine ims_app ((un_grow (Ex.new ht')).tx.ims g3) (ims_one ?_)
        exact .tup (SqT.of (un_at e hGt upd_same)) (.cons (.str _) (.cons (.int _) .nil))
    · rintro acc G' ⟨g1, g2, g3⟩
      have hl := ims_len g3
      rw [List.length_map, List.length_take, List.length_take] at hl
      rw [List.take_of_length_le (by rw [List.length_map, List.length_take]; omega)] at g3
      have hp2 : upd G' p (.lst acc) p2 = some (.lst xs) := get_new ((x1.trans g1) _ _ (e _ _ h3)) g2
      k_extra "e"
      refine em_extend hp2 upd_same (szM (by omega)) ?_
      k_extra "e"
      have xg : Ex G (upd G' p (.lst acc)) := (x1.trans g1).trans (Ex.new g2)
      have uF : Ex F (un F (newp G (upd G' p (.lst acc)))) := un_l
      refine q _ (upd (un F (newp G (upd G' p (.lst acc)))) p2 (.lst (xs ++ acc))) ⟨⟨dx, p1, p2, _, get_ne (uF _ _ h1) hx2, get_ne (uF _ _ h2) h5, upd_same, ?_, h5⟩, hF.nn.app ?_⟩ (un_ex e xg).put ((un_fr xg).trans (Fr.mut (uF _ _ h3)))
      · have tx : Tx (un F (newp G (upd G' p (.lst acc)))) (upd (un F (newp G (upd G' p (.lst acc)))) p2 (.lst (xs ++ acc))) := Tx.upd (noTup_lst (uF _ _ h3))
        rw [List.map_append, List.map_map]
        exact tx.ims (ims_app (uF.tx.ims h4) ((un_grow (Ex.new g2)).tx.ims g3))
      · intro y hy
        obtain ⟨b, hb1, rfl⟩ := List.mem_map.mp hy
        exact hbs b (List.mem_of_mem_take hb1)
  cases lim with
  | none =>
    dsimp only [limV] at go ⊢
    k_extra "e"
    refine ec_lenL hd fun _ => ?_
    rw [List.length_map]
    refine eg_name ?_
    exact go
  | some m =>
    dsimp only [limV] at go ⊢
    k_extra "e"
    refine ec_lenL hd fun _ => ?_
    rw [List.length_map]
    k_extra "e"
    exact go
end Lw

namespace Lw
open PySem PySem.Spec PyProof.Rows L2
local macro_rules | `(tactic| k_extra "x1") => `(tactic| first
  | with_reducible refine es_seq ?_
  | with_reducible refine es_asg ?_
  | with_reducible refine es_if ?_
  | with_reducible refine es_ret ?_
  | with_reducible refine es_drop ?_
  | with_reducible refine es_next ?_
  | with_reducible refine es_augS ?_
  | with_reducible refine es_fld ?_
  | ((with_reducible show Ee (tVar _) _ _ _); refine ee_var rfl ?_)
  | with_reducible refine ee_c ?_
  | with_reducible refine ee_op ?_
  | with_reducible refine ee_un ?_
  | with_reducible refine eu_neg ?_
  | with_reducible refine ee_cb ?_
  | with_reducible refine ee_call ?_
  | with_reducible refine ea_nil ?_
  | with_reducible refine ea_cons ?_
  | with_reducible refine ee_sl ?_
  | with_reducible refine eo_no ?_
  | with_reducible refine eo_part ?_
  | with_reducible refine ee_tup ?_
  | with_reducible refine ee_lst ?_
  | with_reducible refine et_test ?_
  | with_reducible refine et_tB ?_
  | with_reducible refine et_tru ?_
  | with_reducible refine et_and ?_
  | with_reducible refine et_or ?_
  | with_reducible refine et_not ?_
  | with_reducible refine ee_and ?_
  | with_reducible refine ee_or ?_
  | with_reducible refine ee_not ?_
  | with_reducible refine ee_if ?_
  | with_reducible refine ee_chain ?_
  | with_reducible refine er_addI ?_
  | with_reducible refine er_subI ?_
  | with_reducible refine er_eqI ?_
  | with_reducible refine er_neI ?_
  | with_reducible refine er_eqNI ?_
  | with_reducible refine er_eqS ?_
  | with_reducible refine er_neS ?_
  | with_reducible refine er_eqB ?_
  | with_reducible refine er_neB ?_
  | with_reducible refine er_lt ?_
  | with_reducible refine er_le ?_
  | with_reducible refine er_gt ?_
  | with_reducible refine er_ge ?_
  | with_reducible refine er_isN_non ?_
  | with_reducible refine er_isN_bl ?_
  | with_reducible refine er_isN_int ?_
  | with_reducible refine er_isN_str ?_
  | with_reducible refine er_isN_ref ?_
  | with_reducible refine er_notN_non ?_
  | with_reducible refine er_notN_bl ?_
  | with_reducible refine er_notN_int ?_
  | with_reducible refine er_notN_str ?_
  | with_reducible refine er_notN_ref ?_
  | with_reducible refine er_isN ?_
  | with_reducible refine er_notN ?_
  | with_reducible refine ec_int ?_
  | with_reducible refine ec_intB ?_
  | with_reducible refine ec_max2 ?_
  | with_reducible refine ec_min2 ?_
  | with_reducible refine ip_I ?_
  | ((with_reducible refine eg_name ?_); (try dsimp only [L2.wipe, List.set_cons_zero, List.set_cons_succ]))
  | with_reducible refine eg_sub ?_
  | with_reducible refine egs_cons ?_
  | with_reducible refine egs_nil ?_
  | with_reducible refine tru_bl ?_
  | with_reducible refine tru_int ?_
  | with_reducible refine tru_non ?_
  | with_reducible refine iteT ?_
  | with_reducible refine iteF ?_
  | with_reducible refine ite_nt ?_
  | with_reducible refine ite_nf ?_
  | with_reducible refine ⟨_, rfl, ?_⟩)
local macro_rules | `(tactic| k_extra "s") => `(tactic| ((first | k_extra "x1" | ((with_reducible refine es_unf ?_); refine es_seq ?_)); (repeat k_extra "x1")))
local macro_rules | `(tactic| k_extra "x") => `(tactic| (repeat first | k_extra "x1" | ((with_reducible refine es_unf ?_); refine es_seq ?_)))
local macro_rules | `(tactic| k_extra "start") => `(tactic| dsimp only [L2.start, List.map_cons, List.map_nil, List.length_cons, List.length_nil, Nat.reduceAdd, Nat.reduceSub, List.replicate, List.cons_append, List.nil_append, Nat.zero_add])
local macro_rules | `(tactic| k_extra "e1") => `(tactic| first
  | with_reducible refine es_next ?_
  | ((with_reducible show Ee (tVar _) _ _ _); refine ee_var rfl ?_)
  | with_reducible refine ee_c ?_
  | with_reducible refine ee_op ?_
  | with_reducible refine ee_un ?_
  | with_reducible refine eu_neg ?_
  | with_reducible refine ee_cb ?_
  | with_reducible refine ee_call ?_
  | with_reducible refine ea_nil ?_
  | with_reducible refine ea_cons ?_
  | with_reducible refine ee_sl ?_
  | with_reducible refine eo_no ?_
  | with_reducible refine eo_part ?_
  | with_reducible refine ee_tup ?_
  | with_reducible refine ee_lst ?_
  | with_reducible refine et_test ?_
  | with_reducible refine et_tB ?_
  | with_reducible refine et_tru ?_
  | with_reducible refine et_and ?_
  | with_reducible refine et_or ?_
  | with_reducible refine et_not ?_
  | with_reducible refine ee_and ?_
  | with_reducible refine ee_or ?_
  | with_reducible refine ee_not ?_
  | with_reducible refine ee_if ?_
  | with_reducible refine ee_chain ?_
  | with_reducible refine er_addI ?_
  | with_reducible refine er_subI ?_
  | with_reducible refine er_eqI ?_
  | with_reducible refine er_neI ?_
  | with_reducible refine er_eqNI ?_
  | with_reducible refine er_eqS ?_
  | with_reducible refine er_neS ?_
  | with_reducible refine er_eqB ?_
  | with_reducible refine er_neB ?_
  | with_reducible refine er_lt ?_
  | with_reducible refine er_le ?_
  | with_reducible refine er_gt ?_
  | with_reducible refine er_ge ?_
  | with_reducible refine er_isN_non ?_
  | with_reducible refine er_isN_bl ?_
  | with_reducible refine er_isN_int ?_
  | with_reducible refine er_isN_str ?_
  | with_reducible refine er_isN_ref ?_
  | with_reducible refine er_notN_non ?_
  | with_reducible refine er_notN_bl ?_
  | with_reducible refine er_notN_int ?_
  | with_reducible refine er_notN_str ?_
  | with_reducible refine er_notN_ref ?_
  | with_reducible refine er_isN ?_
  | with_reducible refine er_notN ?_
  | with_reducible refine ec_int ?_
  | with_reducible refine ec_intB ?_
  | with_reducible refine ec_max2 ?_
  | with_reducible refine ec_min2 ?_
  | with_reducible refine ip_I ?_
  | ((with_reducible refine eg_name ?_); (try dsimp only [L2.wipe, List.set_cons_zero, List.set_cons_succ]))
  | with_reducible refine eg_sub ?_
  | with_reducible refine egs_cons ?_
  | with_reducible refine egs_nil ?_
  | with_reducible refine tru_bl ?_
  | with_reducible refine tru_int ?_
  | with_reducible refine tru_non ?_
  | with_reducible refine iteT ?_
  | with_reducible refine iteF ?_
  | with_reducible refine ite_nt ?_
  | with_reducible refine ite_nf ?_
  | with_reducible refine ex_bl ?_
  | with_reducible refine ex_int ?_
  | with_reducible refine ex_str ?_
  | with_reducible refine ex_strx ?_
  | with_reducible refine ex_ints1 ?_
  | with_reducible refine ex_ints2 ?_)
local macro_rules | `(tactic| k_extra "t1") => `(tactic| first
  | with_reducible refine es_asg ?_
  | with_reducible refine es_if ?_
  | with_reducible refine es_ret ?_
  | with_reducible refine es_drop ?_
  | with_reducible refine es_augS ?_
  | with_reducible refine es_fld ?_)
local macro_rules | `(tactic| k_extra "e") => `(tactic| first
  | ((with_reducible refine es_seq ?_); (try k_extra "t1"); (repeat k_extra "e1"))
  | (k_extra "t1"; (repeat k_extra "e1"))
  | (k_extra "e1"; (repeat k_extra "e1"))
  | ((with_reducible refine es_unf ?_); (refine es_seq ?_); (try k_extra "t1"); (repeat k_extra "e1")))
/-! ### one deed of the law -/
structure LawD (K : PySem.W.Frag) (T : Hp) (a l : Addr) (ds : List Int) (i : Int) (pl ps : Addr) (las : List Int) (st : List Stp) : Prop where
  s : StT T a l ds i
  hl : T pl = some (.lst (las.map V.int))
  hs : ∃ xs, T ps = some (.lst xs) ∧ Ims K T xs (st.map encL)
  nl : pl ≠ a
  ns : ps ≠ a
section
variable {K : PySem.W.Frag} {A : Ad} {T T' G G' F : Hp} {L : List Hp} {a l pl ps : Addr} {ds las : List Int} {i i' : Int} {st : List Stp}
theorem LawD.put (h : LawD K T a l ds i pl ps las st) (p : 0 ≤ i') : LawD K (upd T a (.lst [.ref l, .int i'])) a l ds i' pl ps las st := by
  obtain ⟨xs, h1, h2⟩ := h.hs
  exact ⟨h.s.put p, get_ne h.hl h.nl, ⟨xs, get_ne h1 h.ns, (Tx.upd (noTup_lst h.s.at_)).ims h2⟩, h.nl, h.ns⟩
theorem LawD.up (h : LawD K T a l ds i pl ps las st) (e : Ex T T') : LawD K T' a l ds i pl ps las st := by
  obtain ⟨xs, h1, h2⟩ := h.hs
  exact ⟨h.s.up e, e _ _ h.hl, ⟨xs, e _ _ h1, e.tx.ims h2⟩, h.nl, h.ns⟩
/-- a number drawn -/
theorem nxL {lim : Int} {Q : V → Hp → Prop} {E : XK} (h : LawD K T a l ds i pl ps las st) (ap : Ap (T :: L) G) (hl : 0 < lim)
    (q : ∀ x i', 0 ≤ x → x < lim → LawD K (upd T a (.lst [.ref l, .int i'])) a l ds i' pl ps las st → Ap (upd T a (.lst [.ref l, .int i']) :: L) (upd G a (.lst [.ref l, .int i'])) → Q (.int x) (upd G a (.lst [.ref l, .int i']))) : S__law_next K A [.ref a, .int lim] G Q E :=
  nx_call (h.s.up (ap.ex T List.mem_cons_self)) hl fun x i' h0 h1 h2 => q x i' h0 h1 (h.put h2) (ap.mut1 h.s.at_)
theorem sh_ints (ns : List Int) : SeqAt.shaped (.list (ns.map PyData.int)) = true := by
  have h1 : ∀ ns : List Int, PyData.canLayAll0 (ns.map PyData.int) = true := by
    intro ns; induction ns with
    | nil => rfl
    | cons n r ih => rw [List.map_cons]; simp only [PyData.canLayAll0, PyData.canLay0, ih, Bool.and_self, Bool.true_and]
  have h2 : ∀ ns : List Int, PyData.depthAll (ns.map PyData.int) = 0 := by
    intro ns; induction ns with
    | nil => rfl
    | cons n r ih => rw [List.map_cons]; simp only [PyData.depthAll, PyData.depth, ih]; rfl
  unfold SeqAt.shaped
  simp only [PyData.canLay0, PyData.depth, h1, h2]
  decide
theorem eqv_ints (ns : List Int) : PyData.eqv (.list (ns.map PyData.int)) (.list (ns.map PyData.int)) = true := by
  have h := sh_ints ns
  unfold SeqAt.shaped at h
  exact SeqAt.eqv_refl _ (Bool.and_eq_true_iff.mp h).1
theorem int_depth (n : Int) : (PyData.int n).depth < 8 := by simp [PyData.depth]
theorem ints_depth (ns : List Int) : (PyData.list (ns.map PyData.int)).depth < 8 := by
  have h2 : ∀ ns : List Int, PyData.depthAll (ns.map PyData.int) = 0 := by
    intro ns; induction ns with
    | nil => rfl
    | cons n r ih => rw [List.map_cons]; simp only [PyData.depthAll, PyData.depth, ih]; rfl
  simp [PyData.depth, h2]
end
def S__law_deed (K : PySem.W.Frag) (A : Ad) : Pm := fun vs G Q _ => ∃ (a x pl ps l : Addr) (ds las : List Int) (i : Int) (st : List Stp) (T F : Hp) (L : List Hp), vs = [.ref a, .ref x, .ref pl, .ref ps] ∧ LawD K T a l ds i pl ps las st ∧ FileAt K A F x las st ∧ Ap (T :: F :: L) G ∧ las.length + st.length ≤ 900000 ∧
  ∀ G' T' F' r pl' ps' i' las' st', T' r = some (.lst [.bl true, .ref pl', .ref ps']) → LawD K T' a l ds i' pl' ps' las' st' → FileAt K A F' x las' st' → las'.length + st'.length ≤ las.length + st.length + 100 → Ap (T' :: F' :: L) G' → Q (.ref r) G'
/-! _law_deed -/
def t__law_deed_1 (K : PySem.W.Frag) (A : Ad) : TS := tSeq (tDrop (tBM K "list" (rAppend) (tVar 8) (tCons (tC (.int 9)) tNil))) (tRet (tLst (tCons (tCall (up (S__law_same K A)) [] E0 (tCons (tVar 9) (tCons (tVar 7) tNil))) (tCons (tVar 2) (tCons (tOp (rAddU K) (tVar 3) (tLc (iList K (tSl (rSlU K) (tVar 6) tNoPart (tPart (tVar 7)))) (gName 12) tYes (tTup (tCons (tC (.int 0)) (tCons (tVar 12) tNil))) [12])) tNil)))))
def t__law_deed_2 (K : PySem.W.Frag) (A : Ad) : TS := tSeq (tDrop (tBM K "list" (rInsertU) (tVar 8) (tCons (tC (.int 0)) (tCons (tC (.int 9)) tNil)))) (t__law_deed_1 K A)
def t__law_deed_3 (K : PySem.W.Frag) (A : Ad) : TS := tSeq (tIfS (tTest (tOp (rNeU K) (tVar 8) (tVar 6))) (tRet (tLst (tCons (tC (.bl false)) (tCons (tVar 2) (tCons (tVar 3) tNil))))) tNext) (t__law_deed_2 K A)
def t__law_deed_4 (K : PySem.W.Frag) (A : Ad) : TS := tSeq (tAsg (tMeth A.cFile "write" (up (S_File_write K A)) [] E0 (tVar 1) (tCons (tVar 8) (tCons (tVar 5) tNil))) (gName 9)) (t__law_deed_3 K A)
def t__law_deed_5 (K : PySem.W.Frag) (A : Ad) : TS := tSeq (tAsg (tCB (rListU K) (tCons (tVar 6) tNil)) (gName 8)) (t__law_deed_4 K A)
def t__law_deed_6 (K : PySem.W.Frag) (A : Ad) : TS := tSeq (tIfS (tTest (tOp (rNotN) (tVar 5) (tC .non))) (tAsg (tCB rMin2U (tCons (tVar 7) (tCons (tVar 5) tNil))) (gName 7)) tNext) (t__law_deed_5 K A)
def t__law_deed_7 (K : PySem.W.Frag) (A : Ad) : TS := tSeq (tAsg (tCB (rLenU K) (tCons (tVar 6) tNil)) (gName 7)) (t__law_deed_6 K A)
def t__law_deed_8 (K : PySem.W.Frag) (A : Ad) : TS := tSeq (tAsg (tLc (iRng1 (tCons (tOp (rAddU K) (tCall (up (S__law_next K A)) [] E0 (tCons (tVar 0) (tCons (tC (.int 10)) tNil))) (tOp (rMulU) (tC (.int 50)) (tCB (rInt1) (tCons (tOp (rEqU K) (tCall (up (S__law_next K A)) [] E0 (tCons (tVar 0) (tCons (tC (.int 5)) tNil))) (tC (.int 0))) tNil)))) tNil)) (gName 11) tYes (tCall (up (S__law_next K A)) [] E0 (tCons (tVar 0) (tCons (tC (.int 256)) tNil))) [11]) (gName 6)) (t__law_deed_7 K A)
def t__law_deed_9 (K : PySem.W.Frag) (A : Ad) : TS := tSeq (tIfS (tTest (tOp (rEqU K) (tVar 5) (tC (.int 0)))) (tRet (tLst (tCons (tCall (up (S__law_same K A)) [] E0 (tCons (tVar 9) (tCons (tC (.int 0)) tNil))) (tCons (tVar 2) (tCons (tVar 3) tNil))))) tNext) (tRet (tLst (tCons (tCall (up (S__law_same K A)) [] E0 (tCons (tVar 9) (tCons (tC (.int 1)) tNil))) (tCons (tVar 2) (tCons (tOp (rAddU K) (tVar 3) (tLst (tCons (tTup (tCons (tC (.int 1)) (tCons (tVar 10) tNil))) tNil))) tNil)))))
def t__law_deed_10 (K : PySem.W.Frag) (A : Ad) : TS := tSeq (tAsg (tMeth A.cFile "shorten" (up (S_File_shorten K A)) [] E0 (tVar 1) (tCons (tVar 10) (tCons (tVar 5) tNil))) (gName 9)) (t__law_deed_9 K A)
def t__law_deed_11 (K : PySem.W.Frag) (A : Ad) : TS := tSeq (tAsg (tCall (up (S__law_next K A)) [] E0 (tCons (tVar 0) (tCons (tOp (rAddU K) (tCB (rLenU K) (tCons (tCall (up (S__law_after K A)) [] E0 (tCons (tVar 2) (tCons (tVar 3) tNil))) tNil)) (tC (.int 3))) tNil))) (gName 10)) (t__law_deed_10 K A)
def t__law_deed_12 (K : PySem.W.Frag) (A : Ad) : TS := tSeq (tIfS (tTest (tOp (rEqU K) (tVar 5) (tC (.int 0)))) (tRet (tLst (tCons (tCall (up (S__law_same K A)) [] E0 (tCons (tVar 9) (tCons (tC (.int 0)) tNil))) (tCons (tVar 2) (tCons (tVar 3) tNil))))) tNext) (tRet (tLst (tCons (tCall (up (S__law_same K A)) [] E0 (tCons (tVar 9) (tCons (tC (.int 1)) tNil))) (tCons (tCall (up (S__law_after K A)) [] E0 (tCons (tVar 2) (tCons (tVar 3) tNil))) (tCons (tLst tNil) tNil)))))
def t__law_deed_13 (K : PySem.W.Frag) (A : Ad) : TS := tSeq (tAsg (tMeth A.cFile "flush" (up (S_File_flush K A)) [] E0 (tVar 1) (tCons (tVar 5) tNil)) (gName 9)) (t__law_deed_12 K A)
def t__law_deed_14 (K : PySem.W.Frag) (A : Ad) : TS := tSeq (tDrop (tMeth A.cFile "lose" (up (S_File_lose K A)) [] E0 (tVar 1) (tCons (tVar 7) tNil))) (tRet (tLst (tCons (tC (.bl true)) (tCons (tCall (up (S__law_after K A)) [] E0 (tCons (tVar 2) (tCons (tSl (rSlU K) (tVar 3) tNoPart (tPart (tVar 7))) tNil))) (tCons (tLst tNil) tNil)))))
def t__law_deed_15 (K : PySem.W.Frag) (A : Ad) : TS := tSeq (tAsg (tCall (up (S__law_next K A)) [] E0 (tCons (tVar 0) (tCons (tOp (rAddU K) (tCB (rLenU K) (tCons (tVar 3) tNil)) (tC (.int 3))) tNil))) (gName 7)) (t__law_deed_14 K A)
def t__law_deed_16 (K : PySem.W.Frag) (A : Ad) : TS := tSeq (tIfS (tTest (tOp (rLtU K) (tVar 4) (tC (.int 7)))) (t__law_deed_13 K A) tNext) (t__law_deed_15 K A)
def t__law_deed_17 (K : PySem.W.Frag) (A : Ad) : TS := tSeq (tIfS (tTest (tOp (rLtU K) (tVar 4) (tC (.int 5)))) (t__law_deed_11 K A) tNext) (t__law_deed_16 K A)
def t__law_deed_18 (K : PySem.W.Frag) (A : Ad) : TS := tSeq (tIfS (tTest (tOp (rLtU K) (tVar 4) (tC (.int 3)))) (t__law_deed_8 K A) tNext) (t__law_deed_17 K A)
def t__law_deed_19 (K : PySem.W.Frag) (A : Ad) : TS := tSeq (tIfS (tTest (tOp (rEqU K) (tCall (up (S__law_next K A)) [] E0 (tCons (tVar 0) (tCons (tC (.int 3)) tNil))) (tC (.int 0)))) (tAsg (tOp (rIx K) (tLst (tCons (tCall (up (S__law_next K A)) [] E0 (tCons (tVar 0) (tCons (tC (.int 7)) tNil))) (tCons (tCall (up (S__law_next K A)) [] E0 (tCons (tVar 0) (tCons (tC (.int 60)) tNil))) tNil))) (tCall (up (S__law_next K A)) [] E0 (tCons (tVar 0) (tCons (tC (.int 2)) tNil)))) (gName 5)) tNext) (t__law_deed_18 K A)
def t__law_deed_20 (K : PySem.W.Frag) (A : Ad) : TS := tSeq (tAsg (tC .non) (gName 5)) (t__law_deed_19 K A)
def t__law_deed (K : PySem.W.Frag) (A : Ad) : TS := tSeq (tAsg (tCall (up (S__law_next K A)) [] E0 (tCons (tVar 0) (tCons (tC (.int 8)) tNil))) (gName 4)) (t__law_deed_20 K A)
theorem len__law_deed {K : PySem.W.Frag} {A : Ad} : ∀ vs G Q E, S__law_deed K A vs G Q E → vs.length = ["state", "file", "lasting", "steps"].length := by
  rintro vs G Q E ⟨_, _, _, _, _, _, _, _, _, _, _, _, rfl, _⟩; rfl
/-- what is wanted behind a deed -/
abbrev DeedQ (K : PySem.W.Frag) (A : Ad) (Q : V → Hp → Prop) (a x l : Addr) (ds : List Int) (L : List Hp) (n : Nat) : Prop :=
  ∀ G' T' F' r pl' ps' i' las' st', T' r = some (.lst [.bl true, .ref pl', .ref ps']) → LawD K T' a l ds i' pl' ps' las' st' → FileAt K A F' x las' st' → las'.length + st'.length ≤ n + 100 → Ap (T' :: F' :: L) G' → Q (.ref r) G'
section
variable {K : PySem.W.Frag} {A : Ad} {T G F : Hp} {L : List Hp} {a x l pl ps : Addr} {ds las : List Int} {i : Int} {st : List Stp} {Q : V → Hp → Prop} {c6 c7 c8 c9 c10 c11 c12 : Option V} {pick : Int} {lim : Option Int} {N : L2.St → Hp → Prop}
theorem deed_lose (h : LawD K T a l ds i pl ps las st) (hF : FileAt K A F x las st) (ap : Ap (T :: F :: L) G) (hb : las.length + st.length ≤ 900000) (q : DeedQ K A Q a x l ds L (las.length + st.length)) :
    Es (t__law_deed_15 K A) { nx := N, rt := Q } [some (.ref a), some (.ref x), some (.ref pl), some (.ref ps), some (.int pick), some (limV lim), c6, c7, c8, c9, c10, c11, c12] G := by
  obtain ⟨xs, hs1, hs2⟩ := h.hs
  have eT := ap.ex T List.mem_cons_self
  have hxl := ims_len hs2
  rw [List.length_map] at hxl
  k_extra "e"
  refine ec_lenL (SqL.of (eT _ _ hs1)) fun _ => ?_
  k_extra "e"
  refine nxL h ap (by omega) fun n i1 hn0 hn1 h1 ap1 => ?_
  k_extra "e"
  k_extra "e"
  refine ee_meth ?_
  k_extra "e"
  obtain ⟨dx, p1, p2, ys, f1, f2, f3, f4, f5⟩ := hF.ex
  have eF := ap1.ex F (List.mem_cons_of_mem _ List.mem_cons_self)
  refine ⟨x, dx, _, rfl, eF _ _ f1, fF_no (by decide +kernel) (by decide +kernel), ?_⟩
  k_extra "e"
  refine ⟨x, las, st, n, F, rfl, hF, eF, hn0, by omega, fun G2 F2 hF2 e2 fr2 => ?_⟩
  have ap2 := ap1.fr2 fr2 e2
  have eT2 := ap2.ex _ List.mem_cons_self
  obtain ⟨xs1, hs11, hs12⟩ := h1.hs
  have hx1 := ims_len hs12
  rw [List.length_map] at hx1
  k_extra "e"
  refine ew_L (SqL.of (eT2 _ _ hs11)) fun pc hpc => ?_
  rw [cut_to _ _ hn0]
  have ap3 := ap2.new1 (o := .lst (xs1.take n.toNat)) hpc
  have h3 := h1.up (Ex.new (o := .lst (xs1.take n.toNat)) (eT2.nul hpc))
  k_extra "e"
  have eT3 := ap3.ex _ List.mem_cons_self
  refine ⟨pl, pc, las, st.take n.toNat, _, rfl, SqL.of (eT3 _ _ h3.hl), SqL.of upd_same, ?_, hF.nn.take _, by rw [List.length_take]; omega, fun p hp => ?_⟩
  · rw [List.map_take]; exact (eT2.trans (Ex.new hpc)).tx.ims (ims_take _ hs12)
  have ap4 := ap3.new1 (o := .lst ((aft las (st.take n.toNat)).map V.int)) hp
  have hpT := eT3.nul hp
  have h4 := h3.up (Ex.new (o := .lst ((aft las (st.take n.toNat)).map V.int)) hpT)
  k_extra "e"
  refine ⟨Nat.zero_le _, fun p5 hp5 => ?_⟩
  have ap5 := ap4.new1 (o := .lst []) hp5
  have hp5T := (ap4.ex _ List.mem_cons_self).nul hp5
  have h5 := h4.up (Ex.new (o := .lst []) hp5T)
  k_extra "e"
  refine ⟨sz1000 (by simp), fun r hr => ?_⟩
  have ap6 := ap5.new1 (o := .lst [.bl true, .ref p, .ref p5]) hr
  have hrT := (ap5.ex _ List.mem_cons_self).nul hr
  have h6 := h5.up (Ex.new (o := .lst [.bl true, .ref p, .ref p5]) hrT)
  have hpa : p ≠ a := new_ne h3.s.at_ hpT
  have hp5a : p5 ≠ a := new_ne h4.s.at_ hp5T
  have hl4 := aft_len las (st.take n.toNat)
  rw [List.length_take] at hl4
  exact q _ _ _ r p p5 i1 _ _ upd_same ⟨h6.s, get_new (get_new upd_same hp5T) hrT, ⟨[], get_new upd_same hrT, .nil⟩, hpa, hp5a⟩ hF2 (by rw [List.length_nil]; omega) ap6
theorem same_int {K : PySem.W.Frag} {A : Ad} {G : Hp} {n : Int} {Q : V → Hp → Prop} {E : XK} (q : Q (.bl true) G) : S__law_same K A [.int n, .int n] G Q E := same_call (.int n) (.int n) (int_depth n) q
theorem deed_flush (h : LawD K T a l ds i pl ps las st) (hF : FileAt K A F x las st) (ap : Ap (T :: F :: L) G) (hb : las.length + st.length ≤ 900000) (q : DeedQ K A Q a x l ds L (las.length + st.length)) :
    Es (t__law_deed_13 K A) { nx := N, rt := Q } [some (.ref a), some (.ref x), some (.ref pl), some (.ref ps), some (.int pick), some (limV lim), c6, c7, c8, c9, c10, c11, c12] G := by
  obtain ⟨xs, hs1, hs2⟩ := h.hs
  have eT := ap.ex T List.mem_cons_self
  have eF := ap.ex F (List.mem_cons_of_mem _ List.mem_cons_self)
  obtain ⟨dx, p1, p2, ys, f1, f2, f3, f4, f5⟩ := hF.ex
  -- where nothing is done
  have stay : ∀ c9, lim = some 0 → c9 = some (.int 0) → Es (t__law_deed_12 K A) { nx := N, rt := Q } [some (.ref a), some (.ref x), some (.ref pl), some (.ref ps), some (.int pick), some (limV lim), c6, c7, c8, c9, c10, c11, c12] G := by
    rintro c9 rfl rfl
    dsimp only [limV]
    k_extra "e"
    refine ifd (fun _ => ?_) (fun h => absurd rfl h)
    k_extra "e"
    refine same_int ?_
    k_extra "e"
    refine ⟨sz1000 (by simp), fun r hr => ?_⟩
    have hrT := eT.nul hr
    exact q _ _ F r pl ps i las st upd_same (h.up (Ex.new hrT)) hF (by omega) (ap.new1 hr)
  have done : ∀ c9 G F', lim ≠ some 0 → c9 = some (.int 1) → FileAt K A F' x (aft las st) [] → Ap (T :: F' :: L) G → Es (t__law_deed_12 K A) { nx := N, rt := Q } [some (.ref a), some (.ref x), some (.ref pl), some (.ref ps), some (.int pick), some (limV lim), c6, c7, c8, c9, c10, c11, c12] G := by
    rintro c9 G F' hl rfl hF' ap'
    have eT := ap'.ex T List.mem_cons_self
    have tail : Es (tRet (tLst (tCons (tCall (up (S__law_same K A)) [] E0 (tCons (tVar 9) (tCons (tC (.int 1)) tNil))) (tCons (tCall (up (S__law_after K A)) [] E0 (tCons (tVar 2) (tCons (tVar 3) tNil))) (tCons (tLst tNil) tNil))))) { nx := N, rt := Q } [some (.ref a), some (.ref x), some (.ref pl), some (.ref ps), some (.int pick), some (limV lim), c6, c7, c8, some (.int 1), c10, c11, c12] G := by
      k_extra "e"
      refine same_int ?_
      k_extra "e"
      refine ⟨pl, ps, las, st, xs, rfl, SqL.of (eT _ _ h.hl), SqL.of (eT _ _ hs1), eT.tx.ims hs2, hF.nn, by omega, fun p hp => ?_⟩
      have ap4 := ap'.new1 (o := .lst ((aft las st).map V.int)) hp
      have hpT := eT.nul hp
      have h4 := h.up (Ex.new (o := .lst ((aft las st).map V.int)) hpT)
      k_extra "e"
      refine ⟨Nat.zero_le _, fun p5 hp5 => ?_⟩
      have ap5 := ap4.new1 (o := .lst []) hp5
      have hp5T := (ap4.ex _ List.mem_cons_self).nul hp5
      have h5 := h4.up (Ex.new (o := .lst []) hp5T)
      k_extra "e"
      refine ⟨sz1000 (by simp), fun r hr => ?_⟩
      have ap6 := ap5.new1 (o := .lst [.bl true, .ref p, .ref p5]) hr
      have hrT := (ap5.ex _ List.mem_cons_self).nul hr
      have h6 := h5.up (Ex.new (o := .lst [.bl true, .ref p, .ref p5]) hrT)
      have hpa : p ≠ a := new_ne h.s.at_ hpT
      have hp5a : p5 ≠ a := new_ne h4.s.at_ hp5T
      have hl4 := aft_len las st
      exact q _ _ _ r p p5 i _ _ upd_same ⟨h6.s, get_new (get_new upd_same hp5T) hrT, ⟨[], get_new upd_same hrT, .nil⟩, hpa, hp5a⟩ hF' (by rw [List.length_nil]; omega) ap6
    cases lim with
    | none =>
      dsimp only [limV] at tail ⊢
      k_extra "e"
      exact tail
    | some m =>
      dsimp only [limV] at tail ⊢
      k_extra "e"
      refine ifd (fun h => absurd (by rw [h]) hl) (fun _ => ?_)
      refine es_next ?_
      exact tail
  k_extra "e"
  refine ee_meth ?_
  k_extra "e"
  refine ⟨x, dx, _, rfl, eF _ _ f1, fF_no (by decide +kernel) (by decide +kernel), ?_⟩
  k_extra "e"
  refine ⟨x, las, st, lim, F, rfl, hF, eF, by omega, fun h0 => ?_, fun h0 G2 F2 hF2 e2 fr2 => ?_⟩
  · refine eg_name ?_
    exact stay _ h0 rfl
  · refine eg_name ?_
    exact done _ _ F2 h0 rfl hF2 (ap.fr2 fr2 e2)
theorem deed_shorten (h : LawD K T a l ds i pl ps las st) (hF : FileAt K A F x las st) (ap : Ap (T :: F :: L) G) (hb : las.length + st.length ≤ 900000) (q : DeedQ K A Q a x l ds L (las.length + st.length)) :
    Es (t__law_deed_11 K A) { nx := N, rt := Q } [some (.ref a), some (.ref x), some (.ref pl), some (.ref ps), some (.int pick), some (limV lim), c6, c7, c8, c9, c10, c11, c12] G := by
  obtain ⟨xs, hs1, hs2⟩ := h.hs
  have eT := ap.ex T List.mem_cons_self
  k_extra "e"
  refine ⟨pl, ps, las, st, xs, rfl, SqL.of (eT _ _ h.hl), SqL.of (eT _ _ hs1), eT.tx.ims hs2, hF.nn, by omega, fun p hp => ?_⟩
  have ap1 := ap.new1 (o := .lst ((aft las st).map V.int)) hp
  have h1 := h.up (Ex.new (o := .lst ((aft las st).map V.int)) (eT.nul hp))
  k_extra "e"
  refine ec_lenL (SqL.of upd_same) fun _ => ?_
  k_extra "e"
  refine nxL h1 ap1 (by omega) fun n i2 hn0 hn1 h2 ap2 => ?_
  generalize upd (upd T p (.lst ((aft las st).map V.int))) a (.lst [.ref l, .int i2]) = T2 at h2 ap2
  generalize upd (upd G p (.lst ((aft las st).map V.int))) a (.lst [.ref l, .int i2]) = G2 at ap2 ⊢
  clear h1 ap1 hs1 hs2 eT ap h xs
  obtain ⟨xs, hs1, hs2⟩ := h2.hs
  have eT := ap2.ex T2 List.mem_cons_self
  have eF := ap2.ex F (List.mem_cons_of_mem _ List.mem_cons_self)
  obtain ⟨dx, p1, p2, ys, f1, f2, f3, f4, f5⟩ := hF.ex
  have stay : ∀ c9, lim = some 0 → c9 = some (.int 0) → Es (t__law_deed_9 K A) { nx := N, rt := Q } [some (.ref a), some (.ref x), some (.ref pl), some (.ref ps), some (.int pick), some (limV lim), c6, c7, c8, c9, some (.int n), c11, c12] G2 := by
    rintro c9 rfl rfl
    dsimp only [limV]
    k_extra "e"
    refine ifd (fun _ => ?_) (fun h => absurd rfl h)
    k_extra "e"
    refine same_int ?_
    k_extra "e"
    refine ⟨sz1000 (by simp), fun r hr => ?_⟩
    have hrT := eT.nul hr
    exact q _ _ F r pl ps _ las st upd_same (h2.up (Ex.new hrT)) hF (by omega) (ap2.new1 hr)
  have done : ∀ c9 G F', lim ≠ some 0 → c9 = some (.int 1) → FileAt K A F' x las (st ++ [(false, n)]) → Ap (T2 :: F' :: L) G → Es (t__law_deed_9 K A) { nx := N, rt := Q } [some (.ref a), some (.ref x), some (.ref pl), some (.ref ps), some (.int pick), some (limV lim), c6, c7, c8, c9, some (.int n), c11, c12] G := by
    rintro c9 G F' hl rfl hF' ap'
    have eT := ap'.ex T2 List.mem_cons_self
    have hxl := ims_len hs2
    rw [List.length_map] at hxl
    have tail : Es (tRet (tLst (tCons (tCall (up (S__law_same K A)) [] E0 (tCons (tVar 9) (tCons (tC (.int 1)) tNil))) (tCons (tVar 2) (tCons (tOp (rAddU K) (tVar 3) (tLst (tCons (tTup (tCons (tC (.int 1)) (tCons (tVar 10) tNil))) tNil))) tNil))))) { nx := N, rt := Q } [some (.ref a), some (.ref x), some (.ref pl), some (.ref ps), some (.int pick), some (limV lim), c6, c7, c8, some (.int 1), some (.int n), c11, c12] G := by
      k_extra "e"
      refine same_int ?_
      k_extra "e"
      refine ⟨sz1000 (by simp), fun t ht => ?_⟩
      have ap3 := ap'.new1 (o := .tup [.int 1, .int n]) ht
      have htT := eT.nul ht
      have h3 := h2.up (Ex.new (o := .tup [.int 1, .int n]) htT)
      k_extra "e"
      refine ⟨sz1000 (by simp), fun t2 ht2 => ?_⟩
      have ap4 := ap3.new1 (o := .lst [.ref t]) ht2
      have ht2T := (ap3.ex _ List.mem_cons_self).nul ht2
      have h4 := h3.up (Ex.new (o := .lst [.ref t]) ht2T)
      have eT4 := ap4.ex _ List.mem_cons_self
      refine er_addL (eT4 _ _ (get_new (get_new hs1 htT) ht2T)) upd_same (szM (by rw [List.length_singleton]; omega)) fun t3 ht3 => ?_
      have ap5 := ap4.new1 (o := .lst (xs ++ [.ref t])) ht3
      have ht3T := eT4.nul ht3
      have h5 := h4.up (Ex.new (o := .lst (xs ++ [.ref t])) ht3T)
      k_extra "e"
      refine ⟨sz1000 (by simp), fun r hr => ?_⟩
      have ap6 := ap5.new1 (o := .lst [.bl true, .ref pl, .ref t3]) hr
      have hrT := (ap5.ex _ List.mem_cons_self).nul hr
      have h6 := h5.up (Ex.new (o := .lst [.bl true, .ref pl, .ref t3]) hrT)
      have ht3a : t3 ≠ a := new_ne h4.s.at_ ht3T
      refine q _ _ _ r pl t3 i2 _ (st ++ [(false, n)]) upd_same ⟨h6.s, h6.hl, ⟨xs ++ [.ref t], get_new upd_same hrT, ?_⟩, h6.nl, ht3a⟩ hF' (by rw [List.length_append, List.length_singleton]; omega) ap6
      have e6 : Ex (upd T2 t (.tup [.int 1, .int n])) (upd (upd (upd (upd T2 t (.tup [.int 1, .int n])) t2 (.lst [.ref t])) t3 (.lst (xs ++ [.ref t]))) r (.lst [.bl true, .ref pl, .ref t3])) := ((Ex.new ht2T).trans (Ex.new ht3T)).trans (Ex.new hrT)
      rw [List.map_append]
      refine e6.tx.ims (ims_app ((Ex.new htT).tx.ims hs2) (ims_one ?_))
      exact .tup (SqT.of upd_same) (.cons (.int 1) (.cons (.int n) .nil))
    cases lim with
    | none =>
      dsimp only [limV] at tail ⊢
      k_extra "e"
      exact tail
    | some m =>
      dsimp only [limV] at tail ⊢
      k_extra "e"
      refine ifd (fun h => absurd (by rw [h]) hl) (fun _ => ?_)
      refine es_next ?_
      exact tail
  k_extra "e"
  k_extra "e"
  refine ee_meth ?_
  k_extra "e"
  refine ⟨x, dx, _, rfl, eF _ _ f1, fF_no (by decide +kernel) (by decide +kernel), ?_⟩
  k_extra "e"
  refine ⟨x, las, st, n, lim, F, rfl, hF, eF, hn0, by omega, fun h0 => ?_, fun h0 G3 F3 hF3 e3 fr3 => ?_⟩
  · refine eg_name ?_
    exact stay _ h0 rfl
  · refine eg_name ?_
    exact done _ _ F3 h0 rfl hF3 (ap2.fr2 fr3 e3)
end
end Lw

namespace Lw
open PySem PySem.Spec PyProof.Rows L2
local macro_rules | `(tactic| k_extra "x1") => `(tactic| first
  | with_reducible refine es_seq ?_
  | with_reducible refine es_asg ?_
  | with_reducible refine es_if ?_
  | with_reducible refine es_ret ?_
  | with_reducible refine es_drop ?_
  | with_reducible refine es_next ?_
  | with_reducible refine es_augS ?_
  | with_reducible refine es_fld ?_
  | ((with_reducible show Ee (tVar _) _ _ _); refine ee_var rfl ?_)
  | with_reducible refine ee_c ?_
  | with_reducible refine ee_op ?_
  | with_reducible refine ee_un ?_
  | with_reducible refine eu_neg ?_
  | with_reducible refine ee_cb ?_
  | with_reducible refine ee_call ?_
  | with_reducible refine ea_nil ?_
  | with_reducible refine ea_cons ?_
  | with_reducible refine ee_sl ?_
  | with_reducible refine eo_no ?_
  | with_reducible refine eo_part ?_
  | with_reducible refine ee_tup ?_
  | with_reducible refine ee_lst ?_
  | with_reducible refine et_test ?_
  | with_reducible refine et_tB ?_
  | with_reducible refine et_tru ?_
  | with_reducible refine et_and ?_
  | with_reducible refine et_or ?_
  | with_reducible refine et_not ?_
  | with_reducible refine ee_and ?_
  | with_reducible refine ee_or ?_
  | with_reducible refine ee_not ?_
  | with_reducible refine ee_if ?_
  | with_reducible refine ee_chain ?_
  | with_reducible refine er_addI ?_
  | with_reducible refine er_subI ?_
  | with_reducible refine er_eqI ?_
  | with_reducible refine er_neI ?_
  | with_reducible refine er_eqNI ?_
  | with_reducible refine er_eqS ?_
  | with_reducible refine er_neS ?_
  | with_reducible refine er_eqB ?_
  | with_reducible refine er_neB ?_
  | with_reducible refine er_lt ?_
  | with_reducible refine er_le ?_
  | with_reducible refine er_gt ?_
  | with_reducible refine er_ge ?_
  | with_reducible refine er_isN_non ?_
  | with_reducible refine er_isN_bl ?_
  | with_reducible refine er_isN_int ?_
  | with_reducible refine er_isN_str ?_
  | with_reducible refine er_isN_ref ?_
  | with_reducible refine er_notN_non ?_
  | with_reducible refine er_notN_bl ?_
  | with_reducible refine er_notN_int ?_
  | with_reducible refine er_notN_str ?_
  | with_reducible refine er_notN_ref ?_
  | with_reducible refine er_isN ?_
  | with_reducible refine er_notN ?_
  | with_reducible refine ec_int ?_
  | with_reducible refine ec_intB ?_
  | with_reducible refine ec_max2 ?_
  | with_reducible refine ec_min2 ?_
  | with_reducible refine ip_I ?_
  | ((with_reducible refine eg_name ?_); (try dsimp only [L2.wipe, List.set_cons_zero, List.set_cons_succ]))
  | with_reducible refine eg_sub ?_
  | with_reducible refine egs_cons ?_
  | with_reducible refine egs_nil ?_
  | with_reducible refine tru_bl ?_
  | with_reducible refine tru_int ?_
  | with_reducible refine tru_non ?_
  | with_reducible refine iteT ?_
  | with_reducible refine iteF ?_
  | with_reducible refine ite_nt ?_
  | with_reducible refine ite_nf ?_
  | with_reducible refine ⟨_, rfl, ?_⟩)
local macro_rules | `(tactic| k_extra "s") => `(tactic| ((first | k_extra "x1" | ((with_reducible refine es_unf ?_); refine es_seq ?_)); (repeat k_extra "x1")))
local macro_rules | `(tactic| k_extra "x") => `(tactic| (repeat first | k_extra "x1" | ((with_reducible refine es_unf ?_); refine es_seq ?_)))
local macro_rules | `(tactic| k_extra "start") => `(tactic| dsimp only [L2.start, List.map_cons, List.map_nil, List.length_cons, List.length_nil, Nat.reduceAdd, Nat.reduceSub, List.replicate, List.cons_append, List.nil_append, Nat.zero_add])
local macro_rules | `(tactic| k_extra "e1") => `(tactic| first
  | with_reducible refine es_next ?_
  | ((with_reducible show Ee (tVar _) _ _ _); refine ee_var rfl ?_)
  | with_reducible refine ee_c ?_
  | with_reducible refine ee_op ?_
  | with_reducible refine ee_un ?_
  | with_reducible refine eu_neg ?_
  | with_reducible refine ee_cb ?_
  | with_reducible refine ee_call ?_
  | with_reducible refine ea_nil ?_
  | with_reducible refine ea_cons ?_
  | with_reducible refine ee_sl ?_
  | with_reducible refine eo_no ?_
  | with_reducible refine eo_part ?_
  | with_reducible refine ee_tup ?_
  | with_reducible refine ee_lst ?_
  | with_reducible refine et_test ?_
  | with_reducible refine et_tB ?_
  | with_reducible refine et_tru ?_
  | with_reducible refine et_and ?_
  | with_reducible refine et_or ?_
  | with_reducible refine et_not ?_
  | with_reducible refine ee_and ?_
  | with_reducible refine ee_or ?_
  | with_reducible refine ee_not ?_
  | with_reducible refine ee_if ?_
  | with_reducible refine ee_chain ?_
  | with_reducible refine er_addI ?_
  | with_reducible refine er_subI ?_
  | with_reducible refine er_eqI ?_
  | with_reducible refine er_neI ?_
  | with_reducible refine er_eqNI ?_
  | with_reducible refine er_eqS ?_
  | with_reducible refine er_neS ?_
  | with_reducible refine er_eqB ?_
  | with_reducible refine er_neB ?_
  | with_reducible refine er_lt ?_
  | with_reducible refine er_le ?_
  | with_reducible refine er_gt ?_
  | with_reducible refine er_ge ?_
  | with_reducible refine er_isN_non ?_
  | with_reducible refine er_isN_bl ?_
  | with_reducible refine er_isN_int ?_
  | with_reducible refine er_isN_str ?_
  | with_reducible refine er_isN_ref ?_
  | with_reducible refine er_notN_non ?_
  | with_reducible refine er_notN_bl ?_
  | with_reducible refine er_notN_int ?_
  | with_reducible refine er_notN_str ?_
  | with_reducible refine er_notN_ref ?_
  | with_reducible refine er_isN ?_
  | with_reducible refine er_notN ?_
  | with_reducible refine ec_int ?_
  | with_reducible refine ec_intB ?_
  | with_reducible refine ec_max2 ?_
  | with_reducible refine ec_min2 ?_
  | with_reducible refine ip_I ?_
  | ((with_reducible refine eg_name ?_); (try dsimp only [L2.wipe, List.set_cons_zero, List.set_cons_succ]))
  | with_reducible refine eg_sub ?_
  | with_reducible refine egs_cons ?_
  | with_reducible refine egs_nil ?_
  | with_reducible refine tru_bl ?_
  | with_reducible refine tru_int ?_
  | with_reducible refine tru_non ?_
  | with_reducible refine iteT ?_
  | with_reducible refine iteF ?_
  | with_reducible refine ite_nt ?_
  | with_reducible refine ite_nf ?_
  | with_reducible refine ex_bl ?_
  | with_reducible refine ex_int ?_
  | with_reducible refine ex_str ?_
  | with_reducible refine ex_strx ?_
  | with_reducible refine ex_ints1 ?_
  | with_reducible refine ex_ints2 ?_)
local macro_rules | `(tactic| k_extra "t1") => `(tactic| first
  | with_reducible refine es_asg ?_
  | with_reducible refine es_if ?_
  | with_reducible refine es_ret ?_
  | with_reducible refine es_drop ?_
  | with_reducible refine es_augS ?_
  | with_reducible refine es_fld ?_)
local macro_rules | `(tactic| k_extra "e") => `(tactic| first
  | ((with_reducible refine es_seq ?_); (try k_extra "t1"); (repeat k_extra "e1"))
  | (k_extra "t1"; (repeat k_extra "e1"))
  | (k_extra "e1"; (repeat k_extra "e1"))
  | ((with_reducible refine es_unf ?_); (refine es_seq ?_); (try k_extra "t1"); (repeat k_extra "e1")))
theorem upd_self {G : Hp} {a : Addr} {o : HO} (h : G a = some o) : upd G a o = G := by
  funext b; unfold upd; split
  · rename_i e; rw [e, h]
  · rfl
theorem Ap.add2 {T F : Hp} {L : List Hp} {G : Hp} {p : Addr} {o : HO} (a : Ap (T :: F :: L) G) (h : G p = none) : Ap (T :: F :: one p o :: L) (upd G p o) :=
  (a.add h).perm (List.perm_middle (l₁ := [T, F]))
theorem Ap.drop3 {T F P : Hp} {L : List Hp} {G : Hp} (a : Ap (T :: F :: P :: L) G) : Ap (T :: F :: L) G :=
  (a.perm (List.perm_middle (l₁ := [T, F])).symm).drop1
theorem Ap.mut3 {T F P : Hp} {L : List Hp} {G : Hp} {p : Addr} {o u : HO} (a : Ap (T :: F :: P :: L) G) (h : P p = some u) : Ap (T :: F :: upd P p o :: L) (upd G p o) :=
  Ap.fr (L1 := [T, F]) a (Fr.mut h) (a.ex P (by simp)).put
section
variable {K : PySem.W.Frag} {A : Ad} {T G F : Hp} {L : List Hp} {a x l pl ps : Addr} {ds las : List Int} {i : Int} {st : List Stp} {Q : V → Hp → Prop} {c6 c7 c8 c9 c10 c11 c12 : Option V} {pick : Int} {lim : Option Int} {N : L2.St → Hp → Prop}
theorem cntI_nn {lim : Option Int} {n : Nat} (h : LimN lim) : 0 ≤ cntI lim n := by
  cases lim with
  | none => exact Int.natCast_nonneg _
  | some m => show 0 ≤ (if (n : Int) < m then (n : Int) else m); have := h m rfl; split <;> omega
/-- behind the writing: the comparison, the list that was passed, the end -/
theorem deed_write2 {p pp : Addr} {bs : List Int} (h : LawD K T a l ds i pl ps las st) (hlim : LimN lim) (hbs : ∀ b ∈ bs, 0 ≤ b) (hlb : bs.length ≤ 60) (hp : T p = some (.lst (bs.map V.int))) (hF : FileAt K A F x las (st ++ (bs.take (cntI lim bs.length).toNat).map fun b => (true, b))) (ap : Ap (T :: F :: one pp (.lst (bs.map V.int)) :: L) G) (hb : las.length + st.length ≤ 900000) (q : DeedQ K A Q a x l ds L (las.length + st.length)) :
    Es (t__law_deed_3 K A) { nx := N, rt := Q } [some (.ref a), some (.ref x), some (.ref pl), some (.ref ps), some (.int pick), some (limV lim), some (.ref p), some (.int (cntI lim bs.length)), some (.ref pp), some (.int (cntI lim bs.length)), c10, c11, c12] G := by
  have hc0 := cntI_nn (n := bs.length) hlim
  generalize cntI lim bs.length = c at *
  have eT := ap.ex T List.mem_cons_self
  have eP : G pp = some (.lst (bs.map V.int)) := ap.ex (one pp (.lst (bs.map V.int))) (by simp) _ _ upd_same
  have d1 : Dp K G (.ref pp) (.list (bs.map PyData.int)) := .lst (SqL.of eP) (dps_ints bs)
  have d2 : Dp K G (.ref p) (.list (bs.map PyData.int)) := .lst (SqL.of (eT _ _ hp)) (dps_ints bs)
  k_extra "e"
  refine er_neD d1 d2 (sh_ints bs) (sh_ints bs) ?_
  rw [eqv_ints]
  k_extra "e"
  k_extra "e"
  refine ee_bm ?_
  k_extra "e"
  refine ⟨ty_lst eP, ?_⟩
  k_extra "e"
  refine em_insert (i := 0) eP (by rw [List.length_map]; exact szlt (by omega)) (by decide) ?_
  have ap1 := ap.mut3 (o := .lst ((bs.map V.int).take 0 ++ [.int 9] ++ (bs.map V.int).drop 0)) (show one pp (.lst (bs.map V.int)) pp = some _ from upd_same)
  generalize upd (one pp (.lst (bs.map V.int))) pp (.lst ((bs.map V.int).take 0 ++ [.int 9] ++ (bs.map V.int).drop 0)) = P1 at ap1
  have hl1 : ((bs.map V.int).take 0 ++ [V.int 9] ++ (bs.map V.int).drop 0).length ≤ 100 := by simp; omega
  k_extra "e"
  refine ee_bm ?_
  k_extra "e"
  refine ⟨ty_lst upd_same, ?_⟩
  k_extra "e"
  refine em_append upd_same (szlt (by omega)) ?_
  rw [upd_upd]
  have ap2 : Ap (T :: F :: L) (upd G pp (.lst ((bs.map V.int).take 0 ++ [.int 9] ++ (bs.map V.int).drop 0 ++ [.int 9]))) :=
    (ap.mut3 (show one pp (.lst (bs.map V.int)) pp = some _ from upd_same)).drop3
  generalize upd G pp (.lst ((bs.map V.int).take 0 ++ [.int 9] ++ (bs.map V.int).drop 0 ++ [.int 9])) = G2 at ap2 ⊢
  clear ap ap1 eT eP d1 d2
  have eT := ap2.ex T List.mem_cons_self
  obtain ⟨xs, hs1, hs2⟩ := h.hs
  have hxl := ims_len hs2
  rw [List.length_map] at hxl
  k_extra "e"
  refine same_int ?_
  k_extra "e"
  refine ee_lcL ?_
  k_extra "e"
  refine ew_L (SqL.of (eT _ _ hp)) fun pc hpc => ?_
  rw [cut_to _ _ hc0, ← List.map_take]
  generalize hG1 : upd G2 pc (.lst ((bs.take c.toNat).map V.int)) = G1
  have x1 : Ex G2 G1 := by rw [← hG1]; exact Ex.new hpc
  have hp1 : G1 pc = some (.lst ((bs.take c.toNat).map V.int)) := by rw [← hG1]; exact upd_same
  refine ⟨pc, _, rfl, SqL.of hp1, fun d hd => ⟨fun j acc G' => Ex G1 G' ∧ G' d = none ∧ Ims K (un T (newp G2 G')) acc (((bs.take c.toNat).take j).map fun b => encL (true, b)), ⟨Ex.refl _, hd, by rw [List.take_zero]; exact .nil⟩, ?_, ?_, ?_⟩⟩
  · rintro j acc G' ⟨g1, g2, g3⟩
    have := ims_len g3
    rw [List.length_map, List.length_take, List.length_take] at this
    exact ⟨g2, szlt (by omega), SqL.of (g1 _ _ hp1)⟩
  · rintro j acc y G' hy ⟨g1, g2, g3⟩
    rw [List.getElem?_map] at hy
    obtain ⟨b, hb1, rfl⟩ := Option.map_eq_some_iff.mp hy
    refine eg_name ?_
    dsimp only [L2.wipe, List.set_cons_zero, List.set_cons_succ]
    refine ⟨rfl, et_yes (iteT ?_)⟩
    k_extra "e"
    refine ⟨sz1000 (by simp), fun t ht => ?_⟩
    have ht' := nul_upd ht
    have hpt : d ≠ t := ne_new upd_same ht
    have hGt : G2 t = none := (x1.trans g1).nul ht'
    refine ⟨get_ne upd_same hpt, upd G' t (.tup [.int 0, .int b]), ?_, g1.trans (Ex.new ht'), nul_ne g2 hpt, ?_⟩
    · exact Ex.putL (Ex.putL ((Ex.new g2).trans (Ex.new ht)) upd_same) (get_ne upd_same hpt)
    · rw [List.take_add_one, hb1, List.map_append]
      refine ims_app ((un_grow (Ex.new ht')).tx.ims g3) (ims_one ?_)
      exact .tup (SqT.of (un_at eT hGt upd_same)) (.cons (.int 0) (.cons (.int _) .nil))
  · rintro acc G' ⟨g1, g2, g3⟩
    have hl := ims_len g3
    rw [List.length_map, List.length_take, List.length_take] at hl
    rw [List.take_of_length_le (by rw [List.length_map, List.length_take]; omega)] at g3
    have xg : Ex G2 (upd G' d (.lst acc)) := (x1.trans g1).trans (Ex.new g2)
    have ap3 := ap2.alloc xg
    have uT : Ex T (un T (newp G2 (upd G' d (.lst acc)))) := un_l
    have h3 := h.up uT
    have g3' := (un_grow (F := T) (G := G2) (Ex.new (o := .lst acc) g2)).tx.ims g3
    generalize un T (newp G2 (upd G' d (.lst acc))) = T3 at ap3 uT h3 g3'
    refine er_addL (xg _ _ (eT _ _ hs1)) upd_same (szM (by omega)) fun t3 ht3 => ?_
    have ap4 := ap3.new1 (o := .lst (xs ++ acc)) ht3
    have ht3T := (ap3.ex _ List.mem_cons_self).nul ht3
    have h4 := h3.up (Ex.new (o := .lst (xs ++ acc)) ht3T)
    k_extra "e"
    refine ⟨sz1000 (by simp), fun r hr => ?_⟩
    have ap5 := ap4.new1 (o := .lst [.bl true, .ref pl, .ref t3]) hr
    have hrT := (ap4.ex _ List.mem_cons_self).nul hr
    have h5 := h4.up (Ex.new (o := .lst [.bl true, .ref pl, .ref t3]) hrT)
    have ht3a : t3 ≠ a := new_ne h3.s.at_ ht3T
    refine q _ _ _ r pl t3 i _ _ upd_same ⟨h5.s, h5.hl, ⟨xs ++ acc, get_new upd_same hrT, ?_⟩, h5.nl, ht3a⟩ hF (by rw [List.length_append, List.length_map, List.length_take]; omega) ap5
    rw [List.map_append, List.map_map]
    exact ((Ex.new ht3T).trans (Ex.new hrT)).tx.ims (ims_app (uT.tx.ims hs2) g3')
theorem deed_write (h : LawD K T a l ds i pl ps las st) (hlim : LimN lim) (hF : FileAt K A F x las st) (ap : Ap (T :: F :: L) G) (hb : las.length + st.length ≤ 900000) (q : DeedQ K A Q a x l ds L (las.length + st.length)) :
    Es (t__law_deed_8 K A) { nx := N, rt := Q } [some (.ref a), some (.ref x), some (.ref pl), some (.ref ps), some (.int pick), some (limV lim), none, none, none, none, none, none, none] G := by
  k_extra "e"
  refine ee_lcR1 ?_
  k_extra "e"
  refine nxL h ap (by decide) fun n1 i1 hn10 hn11 h1 ap1 => ?_
  k_extra "e"
  refine nxL h1 ap1 (by decide) fun n2 i2 hn20 hn21 h2 ap2 => ?_
  generalize upd (upd T a (.lst [.ref l, .int i1])) a (.lst [.ref l, .int i2]) = T2 at h2 ap2
  generalize upd (upd G a (.lst [.ref l, .int i1])) a (.lst [.ref l, .int i2]) = G2 at ap2 ⊢
  clear h1 ap1 h ap
  k_extra "e"
  refine er_mulL (by decide) ?_
  k_extra "e"
  obtain ⟨n, hn, hn0, hn1⟩ : ∃ n : Int, n1 + 50 * (if decide (n2 = 0) = true then 1 else 0) = n ∧ 0 ≤ n ∧ n ≤ 59 := ⟨_, rfl, by split <;> omega, by split <;> omega⟩
  rw [hn]
  refine ⟨by omega, fun p hp => ?_⟩
  have eT := ap2.ex T2 List.mem_cons_self
  have hsG := h2.s.up eT
  have hpa : p ≠ a := new_ne hsG.at_ hp
  refine ⟨fun j acc G' => ∃ (i' : Int) (bs : List Int), acc = bs.map V.int ∧ bs.length = j ∧ (∀ b ∈ bs, 0 ≤ b) ∧ 0 ≤ i' ∧ G' = upd G2 a (.lst [.ref l, .int i']) ∧ j ≤ n.toNat, ⟨i2, [], rfl, rfl, fun _ z => (by cases z), hsG.pos, (upd_self hsG.at_).symm, Nat.zero_le _⟩, ?_, ?_, ?_⟩
  · rintro j acc G' ⟨i', bs, rfl, rfl, h3, h4, rfl, h5⟩
    exact ⟨nul_ne hp hpa, by rw [List.length_map]; exact szlt (by omega)⟩
  · rintro j acc G' hj ⟨i', bs, rfl, rfl, h3, h4, rfl, h5⟩
    have hpn : upd G2 a (.lst [.ref l, .int i']) p = none := nul_ne hp hpa
    refine ⟨rfl, et_yes (iteT ?_)⟩
    dsimp only [L2.wipe, List.set_cons_zero, List.set_cons_succ]
    k_extra "e"
    refine nx_call ((hsG.put h4).up (Ex.new hpn)) (by decide) fun b i3 hb0 hb1 hi3 => ?_
    rw [upd_comm hpa, upd_upd]
    refine ⟨upd_same, _, Ex.refl _, i3, bs ++ [b], map_snoc _ _, by simp, fun c hc => ?_, hi3, rfl, by omega⟩
    rcases List.mem_append.mp hc with hc | hc
    · exact h3 c hc
    · rw [List.mem_singleton] at hc; omega
  · rintro acc G' ⟨i', bs, rfl, hlb, h3, h4, rfl, h5⟩
    have hpn : upd G2 a (.lst [.ref l, .int i']) p = none := nul_ne hp hpa
    have ap3 := (ap2.mut1 (o := .lst [.ref l, .int i']) h2.s.at_)
    have ap4 := ap3.new1 (o := .lst (bs.map V.int)) hpn
    have h4' := (h2.put h4).up (Ex.new (o := .lst (bs.map V.int)) ((ap3.ex _ List.mem_cons_self).nul hpn))
    have hpT : upd (upd T2 a (.lst [.ref l, .int i'])) p (.lst (bs.map V.int)) p = some (.lst (bs.map V.int)) := upd_same
    generalize upd (upd T2 a (.lst [.ref l, .int i'])) p (.lst (bs.map V.int)) = T4 at ap4 h4' hpT
    generalize upd (upd G2 a (.lst [.ref l, .int i'])) p (.lst (bs.map V.int)) = G4 at ap4 ⊢
    clear ap2 ap3 h2 hsG eT hpn
    have eT := ap4.ex T4 List.mem_cons_self
    have hlb : bs.length ≤ 60 := by omega
    -- count
    have go : Es (t__law_deed_5 K A) { nx := N, rt := Q } [some (.ref a), some (.ref x), some (.ref pl), some (.ref ps), some (.int pick), some (limV lim), some (.ref p), some (.int (cntI lim bs.length)), none, none, none, none, none] G4 := by
      k_extra "e"
      refine ec_list (.inl (SqL.of (eT _ _ hpT))) fun pp hpp => ?_
      have ap5 := ap4.add2 (o := .lst (bs.map V.int)) hpp
      k_extra "e"
      obtain ⟨dx, p1, p2, ys, f1, f2, f3, f4, f5⟩ := hF.ex
      have eF := ap5.ex F (by simp)
      k_extra "e"
      refine ee_meth ?_
      k_extra "e"
      refine ⟨x, dx, _, rfl, eF _ _ f1, fF_no (by decide +kernel) (by decide +kernel), ?_⟩
      k_extra "e"
      refine ⟨x, pp, las, bs, st, lim, F, rfl, hF, eF, SqL.of upd_same, hlim, by omega, h3, fun G6 F6 hF6 e6 fr6 => ?_⟩
      refine eg_name ?_
      exact deed_write2 h4' hlim h3 hlb hpT hF6 (ap5.fr2 fr6 e6) hb q
    k_extra "e"
    k_extra "e"
    refine ec_lenL (SqL.of (eT _ _ hpT)) fun _ => ?_
    rw [List.length_map]
    k_extra "e"
    cases lim with
    | none =>
      dsimp only [limV] at go ⊢
      k_extra "e"
      exact go
    | some m =>
      dsimp only [limV] at go ⊢
      k_extra "e"
      k_extra "e"
      have e : (if m < (bs.length : Int) then m else (bs.length : Int)) = cntI (some m) bs.length := by
        show _ = (if (bs.length : Int) < m then (bs.length : Int) else m)
        split <;> split <;> omega
      rw [e]
      exact go
end
theorem ok__law_deed {K : PySem.W.Frag} {A : Ad} : ∀ vs G Q E, S__law_deed K A vs G Q E → Es (t__law_deed K A) { nx := fun _ G' => Q .non G', rt := Q } (L2.start ["state", "file", "lasting", "steps", "pick", "limit", "data", "count", "passed", "done", "size", "k", "byte"] vs) G := by
  rintro vs G Q E ⟨a, x, pl, ps, l, ds, las, i, st, T, F, L, rfl, h, hF, ap, hb, q⟩
  change Es _ _ (_ :: _ :: _ :: _ :: _ :: _ :: _ :: _ :: _ :: _ :: _ :: _ :: _ :: []) _
  have main : ∀ (pick : Int) (lim : Option Int) (T G : Hp) (i : Int), LimN lim → LawD K T a l ds i pl ps las st → Ap (T :: F :: L) G → Es (t__law_deed_18 K A) { nx := fun _ G' => Q .non G', rt := Q } [some (.ref a), some (.ref x), some (.ref pl), some (.ref ps), some (.int pick), some (limV lim), none, none, none, none, none, none, none] G := by
    intro pick lim T G i hlim h ap
    k_extra "e"
    refine ifd (fun _ => deed_write h hlim hF ap hb q) fun _ => ?_
    refine es_next ?_
    k_extra "e"
    refine ifd (fun _ => deed_shorten h hF ap hb q) fun _ => ?_
    refine es_next ?_
    k_extra "e"
    refine ifd (fun _ => deed_flush h hF ap hb q) fun _ => ?_
    refine es_next ?_
    exact deed_lose h hF ap hb q
  k_extra "e"
  refine nxL h ap (by decide) fun pick i1 hp0 hp1 h1 ap1 => ?_
  k_extra "e"
  k_extra "e"
  k_extra "e"
  refine nxL h1 ap1 (by decide) fun n i2 hn0 hn1 h2 ap2 => ?_
  k_extra "e"
  refine ifd (fun _ => ?_) (fun _ => ?_)
  · k_extra "e"
    refine nxL h2 ap2 (by decide) fun m1 i3 hm10 hm11 h3 ap3 => ?_
    k_extra "e"
    refine nxL h3 ap3 (by decide) fun m2 i4 hm20 hm21 h4 ap4 => ?_
    k_extra "e"
    refine ⟨sz1000 (by simp), fun m hm => ?_⟩
    have ap5 := ap4.new1 (o := .lst [.int m1, .int m2]) hm
    have h5 := h4.up (Ex.new (o := .lst [.int m1, .int m2]) ((ap4.ex _ List.mem_cons_self).nul hm))
    have hma : m ≠ a := new_ne (h4.s.up (ap4.ex _ List.mem_cons_self)).at_ hm
    k_extra "e"
    refine nxL h5 ap5 (by decide) fun j i6 hj0 hj1 h6 ap6 => ?_
    obtain ⟨w, hw, hw2⟩ : ∃ w, atI [V.int m1, V.int m2] j = some w ∧ (w = .int m1 ∨ w = .int m2) := by
      obtain ⟨k, rfl⟩ := Int.eq_ofNat_of_zero_le hj0
      have hk : k = 0 ∨ k = 1 := by omega
      rcases hk with rfl | rfl
      · exact ⟨_, atI_nat (j := 0) rfl, .inl rfl⟩
      · exact ⟨_, atI_nat (j := 1) rfl, .inr rfl⟩
    refine er_ixL (SqL.of (get_ne upd_same hma)) hw ?_
    refine eg_name ?_
    rcases hw2 with rfl | rfl
    · exact main _ (some m1) _ _ _ (fun m hm => by cases hm; exact hm10) h6 ap6
    · exact main _ (some m2) _ _ _ (fun m hm => by cases hm; exact hm20) h6 ap6
  · refine es_next ?_
    exact main _ none _ _ _ (fun m hm => by cases hm) h2 ap2
end Lw

namespace Lw
open PySem PySem.Spec PyProof.Rows L2
local macro_rules | `(tactic| k_extra "x1") => `(tactic| first
  | with_reducible refine es_seq ?_
  | with_reducible refine es_asg ?_
  | with_reducible refine es_if ?_
  | with_reducible refine es_ret ?_
  | with_reducible refine es_drop ?_
  | with_reducible refine es_next ?_
  | with_reducible refine es_augS ?_
  | with_reducible refine es_fld ?_
  | ((with_reducible show Ee (tVar _) _ _ _); refine ee_var rfl ?_)
  | with_reducible refine ee_c ?_
  | with_reducible refine ee_op ?_
  | with_reducible refine ee_un ?_
  | with_reducible refine eu_neg ?_
  | with_reducible refine ee_cb ?_
  | with_reducible refine ee_call ?_
  | with_reducible refine ea_nil ?_
  | with_reducible refine ea_cons ?_
  | with_reducible refine ee_sl ?_
  | with_reducible refine eo_no ?_
  | with_reducible refine eo_part ?_
  | with_reducible refine ee_tup ?_
  | with_reducible refine ee_lst ?_
  | with_reducible refine et_test ?_
  | with_reducible refine et_tB ?_
  | with_reducible refine et_tru ?_
  | with_reducible refine et_and ?_
  | with_reducible refine et_or ?_
  | with_reducible refine et_not ?_
  | with_reducible refine ee_and ?_
  | with_reducible refine ee_or ?_
  | with_reducible refine ee_not ?_
  | with_reducible refine ee_if ?_
  | with_reducible refine ee_chain ?_
  | with_reducible refine er_addI ?_
  | with_reducible refine er_subI ?_
  | with_reducible refine er_eqI ?_
  | with_reducible refine er_neI ?_
  | with_reducible refine er_eqNI ?_
  | with_reducible refine er_eqS ?_
  | with_reducible refine er_neS ?_
  | with_reducible refine er_eqB ?_
  | with_reducible refine er_neB ?_
  | with_reducible refine er_lt ?_
  | with_reducible refine er_le ?_
  | with_reducible refine er_gt ?_
  | with_reducible refine er_ge ?_
  | with_reducible refine er_isN_non ?_
  | with_reducible refine er_isN_bl ?_
  | with_reducible refine er_isN_int ?_
  | with_reducible refine er_isN_str ?_
  | with_reducible refine er_isN_ref ?_
  | with_reducible refine er_notN_non ?_
  | with_reducible refine er_notN_bl ?_
  | with_reducible refine er_notN_int ?_
  | with_reducible refine er_notN_str ?_
  | with_reducible refine er_notN_ref ?_
  | with_reducible refine er_isN ?_
  | with_reducible refine er_notN ?_
  | with_reducible refine ec_int ?_
  | with_reducible refine ec_intB ?_
  | with_reducible refine ec_max2 ?_
  | with_reducible refine ec_min2 ?_
  | with_reducible refine ip_I ?_
  | ((with_reducible refine eg_name ?_); (try dsimp only [L2.wipe, List.set_cons_zero, List.set_cons_succ]))
  | with_reducible refine eg_sub ?_
  | with_reducible refine egs_cons ?_
  | with_reducible refine egs_nil ?_
  | with_reducible refine tru_bl ?_
  | with_reducible refine tru_int ?_
  | with_reducible refine tru_non ?_
  | with_reducible refine iteT ?_
  | with_reducible refine iteF ?_
  | with_reducible refine ite_nt ?_
  | with_reducible refine ite_nf ?_
  | with_reducible refine ⟨_, rfl, ?_⟩)
local macro_rules | `(tactic| k_extra "s") => `(tactic| ((first | k_extra "x1" | ((with_reducible refine es_unf ?_); refine es_seq ?_)); (repeat k_extra "x1")))
local macro_rules | `(tactic| k_extra "x") => `(tactic| (repeat first | k_extra "x1" | ((with_reducible refine es_unf ?_); refine es_seq ?_)))
local macro_rules | `(tactic| k_extra "start") => `(tactic| dsimp only [L2.start, List.map_cons, List.map_nil, List.length_cons, List.length_nil, Nat.reduceAdd, Nat.reduceSub, List.replicate, List.cons_append, List.nil_append, Nat.zero_add])
local macro_rules | `(tactic| k_extra "e1") => `(tactic| first
  | with_reducible refine es_next ?_
  | ((with_reducible show Ee (tVar _) _ _ _); refine ee_var rfl ?_)
  | with_reducible refine ee_c ?_
  | with_reducible refine ee_op ?_
  | with_reducible refine ee_un ?_
  | with_reducible refine eu_neg ?_
  | with_reducible refine ee_cb ?_
  | with_reducible refine ee_call ?_
  | with_reducible refine ea_nil ?_
  | with_reducible refine ea_cons ?_
  | with_reducible refine ee_sl ?_
  | with_reducible refine eo_no ?_
  | with_reducible refine eo_part ?_
  | with_reducible refine ee_tup ?_
  | with_reducible refine ee_lst ?_
  | with_reducible refine et_test ?_
  | with_reducible refine et_tB ?_
  | with_reducible refine et_tru ?_
  | with_reducible refine et_and ?_
  | with_reducible refine et_or ?_
  | with_reducible refine et_not ?_
  | with_reducible refine ee_and ?_
  | with_reducible refine ee_or ?_
  | with_reducible refine ee_not ?_
  | with_reducible refine ee_if ?_
  | with_reducible refine ee_chain ?_
  | with_reducible refine er_addI ?_
  | with_reducible refine er_subI ?_
  | with_reducible refine er_eqI ?_
  | with_reducible refine er_neI ?_
  | with_reducible refine er_eqNI ?_
  | with_reducible refine er_eqS ?_
  | with_reducible refine er_neS ?_
  | with_reducible refine er_eqB ?_
  | with_reducible refine er_neB ?_
  | with_reducible refine er_lt ?_
  | with_reducible refine er_le ?_
  | with_reducible refine er_gt ?_
  | with_reducible refine er_ge ?_
  | with_reducible refine er_isN_non ?_
  | with_reducible refine er_isN_bl ?_
  | with_reducible refine er_isN_int ?_
  | with_reducible refine er_isN_str ?_
  | with_reducible refine er_isN_ref ?_
  | with_reducible refine er_notN_non ?_
  | with_reducible refine er_notN_bl ?_
  | with_reducible refine er_notN_int ?_
  | with_reducible refine er_notN_str ?_
  | with_reducible refine er_notN_ref ?_
  | with_reducible refine er_isN ?_
  | with_reducible refine er_notN ?_
  | with_reducible refine ec_int ?_
  | with_reducible refine ec_intB ?_
  | with_reducible refine ec_max2 ?_
  | with_reducible refine ec_min2 ?_
  | with_reducible refine ip_I ?_
  | ((with_reducible refine eg_name ?_); (try dsimp only [L2.wipe, List.set_cons_zero, List.set_cons_succ]))
  | with_reducible refine eg_sub ?_
  | with_reducible refine egs_cons ?_
  | with_reducible refine egs_nil ?_
  | with_reducible refine tru_bl ?_
  | with_reducible refine tru_int ?_
  | with_reducible refine tru_non ?_
  | with_reducible refine iteT ?_
  | with_reducible refine iteF ?_
  | with_reducible refine ite_nt ?_
  | with_reducible refine ite_nf ?_
  | with_reducible refine ex_bl ?_
  | with_reducible refine ex_int ?_
  | with_reducible refine ex_str ?_
  | with_reducible refine ex_strx ?_
  | with_reducible refine ex_ints1 ?_
  | with_reducible refine ex_ints2 ?_)
local macro_rules | `(tactic| k_extra "t1") => `(tactic| first
  | with_reducible refine es_asg ?_
  | with_reducible refine es_if ?_
  | with_reducible refine es_ret ?_
  | with_reducible refine es_drop ?_
  | with_reducible refine es_augS ?_
  | with_reducible refine es_fld ?_)
local macro_rules | `(tactic| k_extra "e") => `(tactic| first
  | ((with_reducible refine es_seq ?_); (try k_extra "t1"); (repeat k_extra "e1"))
  | (k_extra "t1"; (repeat k_extra "e1"))
  | (k_extra "e1"; (repeat k_extra "e1"))
  | ((with_reducible refine es_unf ?_); (refine es_seq ?_); (try k_extra "t1"); (repeat k_extra "e1")))
def S_law (K : PySem.W.Frag) (A : Ad) : Pm := fun vs G Q _ => ∃ (a : Addr) (ns : List Int), vs = [.ref a] ∧ SqL K G a (ns.map V.int) ∧ ns.length ≤ 63 ∧ ∀ G', Q (.bl true) G'
/-! law -/
def t_law_1 (K : PySem.W.Frag) (A : Ad) : TS := tSeq (tAsg (tMake A.cFile (up (S_File_init K A)) [] E0 tNil) (gName 5)) (tIfS (tOr (tTest (tOp (rNeU K) (tMeth A.cFile "content" (up (S_File_content K A)) [] E0 (tVar 5) tNil) (tLst tNil))) (tNot (tTru K (tCall (up (S__law_same K A)) [] E0 (tCons (tMeth A.cFile "pending" (up (S_File_pending K A)) [] E0 (tVar 5) tNil) (tCons (tC (.int 0)) tNil)))))) (tRet (tC (.bl false))) tNext)
def t_law_2 (K : PySem.W.Frag) (A : Ad) : TS := tSeq (tIfS (tOr (tNot (tTru K (tCall (up (S__law_same K A)) [] E0 (tCons (tMeth A.cFile "content" (up (S_File_content K A)) [] E0 (tVar 5) tNil) (tCons (tLst (tCons (tVar 7) (tCons (tOp (rAddU K) (tVar 7) (tC (.int 1))) (tCons (tOp (rAddU K) (tVar 7) (tC (.int 2))) tNil)))) tNil))))) (tNot (tTru K (tCall (up (S__law_same K A)) [] E0 (tCons (tMeth A.cFile "pending" (up (S_File_pending K A)) [] E0 (tVar 5) tNil) (tCons (tC (.int 3)) tNil)))))) (tRet (tC (.bl false))) tNext) (t_law_1 K A)
def t_law_3 (K : PySem.W.Frag) (A : Ad) : TS := tSeq (tDrop (tMeth A.cFile "write" (up (S_File_write K A)) [] E0 (tVar 5) (tCons (tLst (tCons (tVar 7) (tCons (tOp (rAddU K) (tVar 7) (tC (.int 1))) (tCons (tOp (rAddU K) (tVar 7) (tC (.int 2))) tNil)))) (tCons (tC .non) tNil)))) (t_law_2 K A)
def t_law_4 (K : PySem.W.Frag) (A : Ad) : TS := tSeq (tDrop (tBM K "list" (rAppend) (tMeth A.cFile "content" (up (S_File_content K A)) [] E0 (tVar 2) tNil) (tCons (tC (.int 7)) tNil))) (tIfS (tAnd (tTest (tOp (rEqU K) (tCall (up (S__law_next K A)) [] E0 (tCons (tVar 1) (tCons (tC (.int 4)) tNil))) (tC (.int 0)))) (tNot (tTru K (tCall (up (S__law_same K A)) [] E0 (tCons (tMeth A.cFile "content" (up (S_File_content K A)) [] E0 (tVar 2) tNil) (tCons (tCall (up (S__law_after K A)) [] E0 (tCons (tVar 3) (tCons (tVar 4) tNil))) tNil)))))) (tRet (tC (.bl false))) tNext)
def t_law_5 (K : PySem.W.Frag) (A : Ad) : TS := tSeq (tIfS (tNot (tTru K (tCall (up (S__law_same K A)) [] E0 (tCons (tMeth A.cFile "pending" (up (S_File_pending K A)) [] E0 (tVar 2) tNil) (tCons (tCB (rLenU K) (tCons (tVar 4) tNil)) tNil))))) (tRet (tC (.bl false))) tNext) (t_law_4 K A)
def t_law_6 (K : PySem.W.Frag) (A : Ad) : TS := tSeq (tIfS (tOr (tNot (tTru K (tVar 8))) (tNot (tTru K (tCall (up (S__law_same K A)) [] E0 (tCons (tMeth A.cFile "content" (up (S_File_content K A)) [] E0 (tVar 2) tNil) (tCons (tCall (up (S__law_after K A)) [] E0 (tCons (tVar 3) (tCons (tVar 4) tNil))) tNil)))))) (tRet (tC (.bl false))) tNext) (t_law_5 K A)
def t_law_7 (K : PySem.W.Frag) (A : Ad) : TS := tSeq (tAsg (tCall (up (S__law_deed K A)) [] E0 (tCons (tVar 1) (tCons (tVar 2) (tCons (tVar 3) (tCons (tVar 4) tNil))))) (gLst K 3 (gCons (gName 8) (gCons (gName 3) (gCons (gName 4) gNil))))) (t_law_6 K A)
def t_law_8 (K : PySem.W.Frag) (A : Ad) : TS := tSeq (tIfS (tTest (tOp (rEqU K) (tCall (up (S__law_next K A)) [] E0 (tCons (tVar 1) (tCons (tC (.int 6)) tNil))) (tC (.int 0)))) (t_law_3 K A) tNext) (t_law_7 K A)
def t_law_9 (K : PySem.W.Frag) (A : Ad) : TS := tSeq (tIfS (tOr (tNot (tTru K (tCall (up (S__law_same K A)) [] E0 (tCons (tMeth A.cFile "content" (up (S_File_content K A)) [] E0 (tVar 6) tNil) (tCons (tLst (tCons (tC (.int 1)) (tCons (tC (.int 2)) (tCons (tC (.int 3)) tNil)))) tNil))))) (tNot (tTru K (tCall (up (S__law_same K A)) [] E0 (tCons (tMeth A.cFile "pending" (up (S_File_pending K A)) [] E0 (tVar 6) tNil) (tCons (tC (.int 1)) tNil)))))) (tRet (tC (.bl false))) tNext) (tRet (tAndV (tCall (up (S__law_same K A)) [] E0 (tCons (tMeth A.cFile "content" (up (S_File_content K A)) [] E0 (tVar 2) tNil) (tCons (tVar 3) tNil))) (tCall (up (S__law_same K A)) [] E0 (tCons (tMeth A.cFile "pending" (up (S_File_pending K A)) [] E0 (tVar 2) tNil) (tCons (tC (.int 0)) tNil)))))
def t_law_10 (K : PySem.W.Frag) (A : Ad) : TS := tSeq (tDrop (tMeth A.cFile "lose" (up (S_File_lose K A)) [] E0 (tVar 2) (tCons (tC (.int 0)) tNil))) (t_law_9 K A)
def t_law_11 (K : PySem.W.Frag) (A : Ad) : TS := tSeq (tFor (iRng1 (tCons (tCall (up (S__law_next K A)) [] E0 (tCons (tVar 1) (tCons (tC (.int 31)) tNil))) tNil)) (gName 7) (t_law_8 K A)) (t_law_10 K A)
def t_law_12 (K : PySem.W.Frag) (A : Ad) : TS := tSeq (tDrop (tMeth A.cFile "write" (up (S_File_write K A)) [] E0 (tVar 6) (tCons (tLst (tCons (tC (.int 3)) tNil)) (tCons (tC .non) tNil)))) (t_law_11 K A)
def t_law_13 (K : PySem.W.Frag) (A : Ad) : TS := tSeq (tDrop (tMeth A.cFile "flush" (up (S_File_flush K A)) [] E0 (tVar 6) (tCons (tC .non) tNil))) (t_law_12 K A)
def t_law_14 (K : PySem.W.Frag) (A : Ad) : TS := tSeq (tDrop (tMeth A.cFile "write" (up (S_File_write K A)) [] E0 (tVar 6) (tCons (tLst (tCons (tC (.int 1)) (tCons (tC (.int 2)) tNil))) (tCons (tC .non) tNil)))) (t_law_13 K A)
def t_law_15 (K : PySem.W.Frag) (A : Ad) : TS := tSeq (tAsg (tMake A.cFile (up (S_File_init K A)) [] E0 tNil) (gName 6)) (t_law_14 K A)
def t_law_16 (K : PySem.W.Frag) (A : Ad) : TS := tSeq (tAsg (tMake A.cFile (up (S_File_init K A)) [] E0 tNil) (gName 5)) (t_law_15 K A)
def t_law_17 (K : PySem.W.Frag) (A : Ad) : TS := tSeq (tAsg (tLst tNil) (gName 4)) (t_law_16 K A)
def t_law_18 (K : PySem.W.Frag) (A : Ad) : TS := tSeq (tAsg (tLst tNil) (gName 3)) (t_law_17 K A)
def t_law_19 (K : PySem.W.Frag) (A : Ad) : TS := tSeq (tAsg (tMake A.cFile (up (S_File_init K A)) [] E0 tNil) (gName 2)) (t_law_18 K A)
def t_law (K : PySem.W.Frag) (A : Ad) : TS := tSeq (tAsg (tLst (tCons (tCall (up (S__law_draws K A)) [] E0 (tCons (tVar 0) tNil)) (tCons (tC (.int 20)) tNil))) (gName 1)) (t_law_19 K A)
theorem len_law {K : PySem.W.Frag} {A : Ad} : ∀ vs G Q E, S_law K A vs G Q E → vs.length = ["script"].length := by
  rintro vs G Q E ⟨a, ns, rfl, _⟩; rfl
section
variable {K : PySem.W.Frag} {A : Ad} {F G : Hp} {L : List Hp} {x dx : Addr} {las : List Int} {st : List Stp} {Q : V → Hp → Prop} {E : XK} {σ : L2.St}
theorem init_call (ap : Ap L G) (hx : G x = none) (hd : G dx = none) (hn : dx ≠ x) (q : ∀ G' F', FileAt K A F' x [] [] → Ap (F' :: L) G' → Q .non G') : S_File_init K A [.ref x] (upd (upd G dx (.own x)) x (.ins A.cFile dx [])) Q E := by
  have ap1 := (ap.junk (Ex.new (o := .own x) hd)).add (p := x) (o := .ins A.cFile dx []) (nul_ne hx hn.symm)
  refine ⟨x, dx, one x (.ins A.cFile dx []), rfl, upd_same, ap1.ex _ List.mem_cons_self, fun G' F' hF e fr => q G' F' hF ?_⟩
  exact Ap.fr (L1 := []) ap1 fr e
theorem ee_file {i : Nat} {m : Str} {S : Pm} {E : XK} {t : TA} (hF : FileAt K A F x las st) (e : Ex F G) (hi : σ[i]? = some (some (.ref x))) (h1 : ¬ m = Str.ofString "_lasting") (h2 : ¬ m = Str.ofString "_steps")
    (q : Ea t σ G fun vs G2 => S (.ref x :: (vs ++ [])) G2 Q (dn E)) : Ee (tMeth A.cFile m (up S) [] E (tVar i) t) σ G Q := by
  obtain ⟨dx, p1, p2, ys, f1, f2, f3, f4, f5⟩ := hF.ex
  refine ee_meth (ee_var hi ⟨x, dx, _, rfl, e _ _ f1, fF_no h1 h2, q⟩)
theorem content_call (hF : FileAt K A F x las st) (e : Ex F G) (hb : las.length + st.length ≤ 1000000) (q : ∀ p, G p = none → Q (.ref p) (upd G p (.lst ((aft las st).map V.int)))) : S_File_content K A [.ref x] G Q E := ⟨x, las, st, rfl, hF.up e, hb, q⟩
theorem pending_call (hF : FileAt K A F x las st) (e : Ex F G) (q : Q (.int st.length) G) : S_File_pending K A [.ref x] G Q E := ⟨x, las, st, rfl, hF.up e, q⟩
theorem ints3 (G : Hp) (p : Addr) (n : Int) : Dp K (upd G p (.lst [.int n, .int (n + 1), .int (n + 2)])) (.ref p) (.list ([n, n + 1, n + 2].map PyData.int)) := .lst (SqL.of upd_same) (dps_ints [n, n + 1, n + 2])
end
section
variable {K : PySem.W.Frag} {A : Ad} {T F O S G : Hp} {a a0 l x y z pl ps : Addr} {ds las : List Int} {i : Int} {st : List Stp} {Q : V → Hp → Prop} {c7 c8 : Option V} {D : Ek}
/-- between two turns -/
def Tn (K : PySem.W.Frag) (A : Ad) (a0 a l x z : Addr) (ds : List Int) (n : Nat) (σ : L2.St) (G' : Hp) : Prop := ∃ (T F O S : Hp) (pl ps y : Addr) (i : Int) (las : List Int) (st : List Stp) (c7 c8 : Option V),
  σ = [some (.ref a0), some (.ref a), some (.ref x), some (.ref pl), some (.ref ps), some (.ref y), some (.ref z), c7, c8] ∧ LawD K T a l ds i pl ps las st ∧ FileAt K A F x las st ∧ FileAt K A O y [] [] ∧ FileAt K A S z [1, 2] [(true, 3)] ∧ Ap [T, F, O, S] G' ∧ las.length + st.length ≤ 100 * n
/-- two contents and the like -/
theorem same_content {Q : V → Hp → Prop} {E : XK} (h : LawD K T a l ds i pl ps las st) (hF : FileAt K A F x las st) (eT : Ex T G) (eF : Ex F G) (hb : las.length + st.length ≤ 900000) (q : ∀ G', Ex G G' → Q (.bl true) G') :
    Ee (tMeth A.cFile (Str.ofString "content") (up (S_File_content K A)) [] E0 (tVar 2) tNil)
      [some (.ref a0), some (.ref a), some (.ref x), some (.ref pl), some (.ref ps), some (.ref y), some (.ref z), c7, c8] G fun v1 G1 =>
      Ea (tCons (tCall (up (S__law_after K A)) [] E0 (tCons (tVar 3) (tCons (tVar 4) tNil))) tNil) [some (.ref a0), some (.ref a), some (.ref x), some (.ref pl), some (.ref ps), some (.ref y), some (.ref z), c7, c8] G1 fun vs G2 =>
      S__law_same K A (v1 :: vs ++ []) G2 Q E := by
  refine ee_file hF eF rfl (by decide +kernel) (by decide +kernel) ?_
  k_extra "e"
  refine content_call hF eF (by omega) fun p hp => ?_
  k_extra "e"
  obtain ⟨xs, hs1, hs2⟩ := h.hs
  have e1 := eT.trans (Ex.new (o := .lst ((aft las st).map V.int)) hp)
  refine ⟨pl, ps, las, st, xs, rfl, SqL.of (e1 _ _ h.hl), SqL.of (e1 _ _ hs1), e1.tx.ims hs2, hF.nn, by omega, fun p2 hp2 => ?_⟩
  k_extra "e"
  refine same_call (d := .list ((aft las st).map PyData.int)) (.lst (SqL.of (get_new upd_same hp2)) (dps_ints _)) (.lst (SqL.of upd_same) (dps_ints _)) (ints_depth _) ?_
  exact q _ ((Ex.new hp).trans (Ex.new hp2))
/-- the deed and what is asked behind it -/
theorem turn2 {n : Nat} (h : LawD K T a l ds i pl ps las st) (hF : FileAt K A F x las st) (hO : FileAt K A O y [] []) (hS : FileAt K A S z [1, 2] [(true, 3)]) (ap : Ap [T, F, O, S] G) (hb : las.length + st.length ≤ 100 * n) (hn : n ≤ 40)
    (hD : ∀ σ G, Tn K A a0 a l x z ds (n + 1) σ G → D.nx σ G) : Es (t_law_7 K A) D [some (.ref a0), some (.ref a), some (.ref x), some (.ref pl), some (.ref ps), some (.ref y), some (.ref z), c7, c8] G := by
  k_extra "e"
  refine ⟨a, x, pl, ps, l, ds, las, i, st, T, F, [O, S], rfl, h, hF, ap, by omega, fun G2 T2 F2 r pl2 ps2 i2 las2 st2 hr h2 hF2 hb2 ap2 => ?_⟩
  have eT := ap2.ex T2 (by simp)
  have eF := ap2.ex F2 (by simp)
  refine eg_lst (SqL.of (eT _ _ hr)) rfl ?_
  k_extra "e"
  clear hr ap h hF
  k_extra "e"
  refine same_content h2 hF2 eT eF (by omega) fun G3 e3 => ?_
  k_extra "e"
  refine Es.weak e3 ?_
  k_extra "e"
  refine ee_file hF2 eF rfl (by decide +kernel) (by decide +kernel) ?_
  k_extra "e"
  refine pending_call hF2 eF ?_
  obtain ⟨xs, hs1, hs2⟩ := h2.hs
  have hxl := ims_len hs2
  rw [List.length_map] at hxl
  k_extra "e"
  refine ec_lenL (SqL.of (eT _ _ hs1)) fun _ => ?_
  rw [hxl]
  k_extra "e"
  refine same_int ?_
  k_extra "e"
  k_extra "e"
  refine ee_bm ?_
  refine ee_file hF2 eF rfl (by decide +kernel) (by decide +kernel) ?_
  k_extra "e"
  refine content_call hF2 eF (by omega) fun p hp => ?_
  refine ⟨ty_lst upd_same, ?_⟩
  k_extra "e"
  have hl := aft_len las2 st2
  refine em_append upd_same (by rw [List.length_map]; exact szlt (by omega)) ?_
  rw [upd_upd]
  refine Es.weak (Ex.new hp) ?_
  k_extra "e"
  refine nxL h2 ap2 (by decide) fun m i3 hm0 hm1 h3 ap3 => ?_
  k_extra "e"
  refine ifd (fun _ => ?_) (fun _ => ?_)
  · k_extra "e"
    refine same_content h3 hF2 (ap3.ex _ (by simp)) (ap3.ex _ (by simp)) (by omega) fun G4 e4 => ?_
    k_extra "e"
    exact hD _ _ ⟨_, F2, O, S, pl2, ps2, y, i3, las2, st2, _, _, rfl, h3, hF2, hO, hS, ap3.junk e4, by omega⟩
  · refine iteF ?_
    refine es_next ?_
    exact hD _ _ ⟨_, F2, O, S, pl2, ps2, y, i3, las2, st2, _, _, rfl, h3, hF2, hO, hS, ap3, by omega⟩
theorem LimN.none : LimN Option.none := fun _ h => by cases h
/-- the other file in between -/
theorem turn1 {n : Nat} {k : Int} (h : LawD K T a l ds i pl ps las st) (hF : FileAt K A F x las st) (hO : FileAt K A O y [] []) (hS : FileAt K A S z [1, 2] [(true, 3)]) (ap : Ap [T, F, O, S] G) (hb : las.length + st.length ≤ 100 * n) (hn : n ≤ 40) (hk : 0 ≤ k)
    (hD : ∀ σ G, Tn K A a0 a l x z ds (n + 1) σ G → D.nx σ G) : Es (t_law_8 K A) D [some (.ref a0), some (.ref a), some (.ref x), some (.ref pl), some (.ref ps), some (.ref y), some (.ref z), some (.int k), c8] G := by
  k_extra "e"
  refine nxL h ap (by decide) fun m i1 hm0 hm1 h1 ap1 => ?_
  clear h ap
  k_extra "e"
  refine ifd (fun _ => ?_) (fun _ => ?_)
  · k_extra "e"
    have eO := ap1.ex O (by simp)
    refine ee_file hO eO rfl (by decide +kernel) (by decide +kernel) ?_
    k_extra "e"
    refine ⟨sz1000 (by simp), fun p hp => ?_⟩
    k_extra "e"
    have ap2 := ap1.junk (Ex.new (o := .lst [.int k, .int (k + 1), .int (k + 2)]) hp)
    refine ⟨y, p, [], [k, k + 1, k + 2], [], none, O, rfl, hO, ap2.ex O (by simp), SqL.of upd_same, LimN.none, by simp, fun b hb => ?_, fun G3 O3 hO3 e3 fr3 => ?_⟩
    · simp at hb; omega
    have ap3 := Ap.fr (L1 := [upd T a (.lst [.ref l, .int i1]), F]) ap2 fr3 e3
    clear ap2 ap1
    have eO := ap3.ex O3 (by simp)
    have hO4 : FileAt K A O3 y [] [(true, k), (true, k + 1), (true, k + 2)] := hO3
    k_extra "e"
    refine ee_file hO4 eO rfl (by decide +kernel) (by decide +kernel) ?_
    k_extra "e"
    refine content_call hO4 eO (by simp) fun p hp => ?_
    k_extra "e"
    refine ⟨sz1000 (by simp), fun p2 hp2 => ?_⟩
    k_extra "e"
    refine same_call (d := .list ([k, k + 1, k + 2].map PyData.int)) (.lst (SqL.of (get_new upd_same hp2)) (dps_ints _)) (ints3 _ _ _) (ints_depth _) ?_
    k_extra "e"
    refine Ee.weak ((Ex.new hp).trans (Ex.new hp2)) ?_
    refine ee_file hO4 eO rfl (by decide +kernel) (by decide +kernel) ?_
    k_extra "e"
    refine pending_call hO4 eO ?_
    k_extra "e"
    refine same_int ?_
    k_extra "e"
    -- other = File()
    k_extra "e"
    refine ee_make ?_
    k_extra "e"
    intro y2 dy hy hd hn2
    refine init_call (L := [upd T a (.lst [.ref l, .int i1]), F, S]) ((ap3.perm (List.perm_middle (l₁ := [upd T a (.lst [.ref l, .int i1]), F])).symm).drop1) hy hd hn2 fun G5 O5 hO5 ap5 => ⟨rfl, ?_⟩
    have ap5 := ap5.perm (List.perm_middle (l₁ := [upd T a (.lst [.ref l, .int i1]), F]) (a := O5) (l₂ := [S]))
    have eO := ap5.ex O5 (by simp)
    k_extra "e"
    k_extra "e"
    refine ee_file hO5 eO rfl (by decide +kernel) (by decide +kernel) ?_
    k_extra "e"
    refine content_call hO5 eO (by decide) fun p hp => ?_
    k_extra "e"
    refine ⟨Nat.zero_le _, fun p2 hp2 => ?_⟩
    refine er_neD (d := .list (([] : List Int).map PyData.int)) (d' := .list (([] : List Int).map PyData.int)) (.lst (SqL.of (get_new upd_same hp2)) .nil) (.lst (SqL.of upd_same) .nil) (sh_ints []) (sh_ints []) ?_
    rw [eqv_ints []]
    k_extra "e"
    refine Ee.weak ((Ex.new hp).trans (Ex.new hp2)) ?_
    refine ee_file hO5 eO rfl (by decide +kernel) (by decide +kernel) ?_
    k_extra "e"
    refine pending_call hO5 eO ?_
    k_extra "e"
    refine same_int ?_
    k_extra "e"
    exact turn2 h1 hF hO5 hS ap5 hb hn hD
  · refine es_next ?_
    exact turn2 h1 hF hO hS ap1 hb hn hD
end
theorem ok_law {K : PySem.W.Frag} {A : Ad} : ∀ vs G Q E, S_law K A vs G Q E → Es (t_law K A) { nx := fun _ G' => Q .non G', rt := Q } (L2.start ["script", "state", "file", "lasting", "steps", "other", "still", "k", "right"] vs) G := by
  rintro vs G Q E ⟨a0, ns, rfl, hS, hn, q⟩
  change Es _ _ (_ :: _ :: _ :: _ :: _ :: _ :: _ :: _ :: _ :: []) _
  k_extra "e"
  refine ⟨a0, ns, rfl, hS, fun l ds hl hds => ?_⟩
  k_extra "e"
  refine ⟨sz1000 (by simp), fun a ha => ?_⟩
  have hla : l ≠ a := ne_new upd_same ha
  have hs : StT (upd (upd (fun _ => none) l (.lst (ds.map V.int))) a (.lst [.ref l, .int 20])) a l ds 20 := ⟨upd_same, get_ne upd_same hla, hla, hds, by decide⟩
  have ap : Ap [upd (upd (fun _ => none) l (.lst (ds.map V.int))) a (.lst [.ref l, .int 20])] (upd (upd G l (.lst (ds.map V.int))) a (.lst [.ref l, .int 20])) :=
    ⟨fun F hF => by
      rw [List.mem_singleton] at hF; subst hF
      exact (show Ex (fun _ => none) G from fun _ _ z => by cases z).put.put, List.pairwise_singleton _ _⟩
  generalize upd (upd (fun _ => none) l (.lst (ds.map V.int))) a (.lst [.ref l, .int 20]) = T at hs ap
  generalize upd (upd G l (.lst (ds.map V.int))) a (.lst [.ref l, .int 20]) = G1 at ap ⊢
  -- file = File()
  k_extra "e"
  k_extra "e"
  refine ee_make ?_
  k_extra "e"
  intro x dx hx hd hnx
  refine init_call ap hx hd hnx fun G2 F hF ap2 => ⟨rfl, ?_⟩
  have ap2 := ap2.perm (List.perm_middle (l₁ := [T]) (a := F) (l₂ := []))
  clear ap hx hd
  k_extra "e"
  k_extra "e"
  refine ⟨Nat.zero_le _, fun pl hpl => ?_⟩
  have ap3 := ap2.new1 (o := .lst []) hpl
  have hplT := (ap2.ex T (by simp)).nul hpl
  have hs3 := hs.up (Ex.new (o := .lst []) hplT)
  k_extra "e"
  k_extra "e"
  refine ⟨Nat.zero_le _, fun ps hps => ?_⟩
  have ap4 := ap3.new1 (o := .lst []) hps
  have hpsT := (ap3.ex _ List.mem_cons_self).nul hps
  have h4 : LawD K (upd (upd T pl (.lst [])) ps (.lst [])) a l ds 20 pl ps [] [] := ⟨hs3.up (Ex.new hpsT), get_new upd_same hpsT, ⟨[], upd_same, .nil⟩, new_ne hs.at_ hplT, new_ne hs3.at_ hpsT⟩
  generalize upd (upd T pl (.lst [])) ps (.lst []) = T4 at ap4 h4
  generalize upd (upd G2 pl (.lst [])) ps (.lst []) = G4 at ap4 ⊢
  clear ap3 ap2 hs3 hs
  -- other = File()
  k_extra "e"
  k_extra "e"
  refine ee_make ?_
  k_extra "e"
  intro y dy hy hd hny
  refine init_call ap4 hy hd hny fun G5 O hO ap5 => ⟨rfl, ?_⟩
  clear ap4 hy hd
  -- still = File()
  k_extra "e"
  k_extra "e"
  refine ee_make ?_
  k_extra "e"
  intro z dz hz hd hnz
  refine init_call ap5 hz hd hnz fun G6 S hS6 ap6 => ⟨rfl, ?_⟩
  clear ap5 hz hd
  have ap7 : Ap [T4, F, O, S] G6 := ap6.perm (by
    refine (List.perm_middle (l₁ := [T4, F, O]) (a := S) (l₂ := [])).trans (List.Perm.cons S ?_)
    exact List.perm_middle (l₁ := [T4, F]) (a := O) (l₂ := []))
  clear ap6
  k_extra "e"
  -- still.write([1, 2], None)
  k_extra "e"
  refine ee_file hS6 (ap7.ex S (by simp)) rfl (by decide +kernel) (by decide +kernel) ?_
  k_extra "e"
  refine ⟨sz1000 (by simp), fun p hp => ?_⟩
  k_extra "e"
  have ap8 := ap7.junk (Ex.new (o := .lst [.int 1, .int 2]) hp)
  refine ⟨z, p, [], [1, 2], [], none, S, rfl, hS6, ap8.ex S (by simp), SqL.of upd_same, LimN.none, by decide, fun b hb => ?_, fun G9 S9 hS9 e9 fr9 => ?_⟩
  · simp at hb; omega
  have ap9 := Ap.fr (L1 := [T4, F, O]) ap8 fr9 e9
  clear ap7 ap8
  -- still.flush(None)
  k_extra "e"
  refine ee_file hS9 (ap9.ex S9 (by simp)) rfl (by decide +kernel) (by decide +kernel) ?_
  k_extra "e"
  refine ⟨z, _, _, none, S9, rfl, hS9, ap9.ex S9 (by simp), by decide, (fun h => by cases h), fun _ G10 S10 hS10 e10 fr10 => ?_⟩
  have ap10 := Ap.fr (L1 := [T4, F, O]) ap9 fr10 e10
  clear ap9
  -- still.write([3], None)
  k_extra "e"
  refine ee_file hS10 (ap10.ex S10 (by simp)) rfl (by decide +kernel) (by decide +kernel) ?_
  k_extra "e"
  refine ⟨sz1000 (by simp), fun p hp => ?_⟩
  k_extra "e"
  have ap11 := ap10.junk (Ex.new (o := .lst [.int 3]) hp)
  refine ⟨z, p, _, [3], [], none, S10, rfl, hS10, ap11.ex S10 (by simp), SqL.of upd_same, LimN.none, by decide, fun b hb => ?_, fun G12 S12 hS12 e12 fr12 => ?_⟩
  · simp at hb; omega
  have ap12 := Ap.fr (L1 := [T4, F, O]) ap11 fr12 e12
  have hS13 : FileAt K A S12 z [1, 2] [(true, 3)] := hS12
  clear ap10 ap11
  k_extra "e"
  refine es_forR1 ?_
  k_extra "e"
  refine nxL h4 ap12 (by decide) fun n i13 hn0 hn1 h13 ap13 => ?_
  k_extra "e"
  refine ⟨by omega, fun i σ G' => i ≤ n.toNat ∧ Tn K A a0 a l x z ds i σ G', ⟨Nat.zero_le _, _, F, O, S12, pl, ps, y, i13, [], [], _, _, rfl, h13, hF, hO, hS13, ap13, by simp⟩, ?_, ?_⟩
  · rintro i σ G' hi ⟨_, T, F, O, S, pl, ps, y, j, las, st, c7, c8, rfl, h1, h2, h3, h4, h5, h6⟩
    exact turn1 h1 h2 h3 h4 h5 h6 (by omega) (by omega) fun σ G h => ⟨by omega, h⟩
  · rintro σ G' ⟨_, T, F, O, S, pl, ps, y, j, las, st, c7, c8, rfl, h1, h2, h3, h4, h5, h6⟩
    -- file.lose(0)
    k_extra "e"
    refine ee_file h2 (h5.ex F (by simp)) rfl (by decide +kernel) (by decide +kernel) ?_
    k_extra "e"
    refine ⟨x, las, st, 0, F, rfl, h2, h5.ex F (by simp), by decide, by omega, fun G14 F14 hF14 e14 fr14 => ?_⟩
    have ap14 := Ap.fr (L1 := [T]) h5 fr14 e14
    have hF15 : FileAt K A F14 x las [] := hF14
    have eS := ap14.ex S (by simp)
    have eF := ap14.ex F14 (by simp)
    k_extra "e"
    refine ee_file h4 eS rfl (by decide +kernel) (by decide +kernel) ?_
    k_extra "e"
    refine content_call h4 eS (by decide) fun p hp => ?_
    k_extra "e"
    refine ⟨sz1000 (by simp), fun p2 hp2 => ?_⟩
    k_extra "e"
    refine same_call (d := .list ([1, 2, 3].map PyData.int)) (.lst (SqL.of (get_new upd_same hp2)) (dps_ints [1, 2, 3])) (.lst (SqL.of upd_same) (dps_ints [1, 2, 3])) (ints_depth _) ?_
    k_extra "e"
    refine Ee.weak ((Ex.new hp).trans (Ex.new hp2)) ?_
    refine ee_file h4 eS rfl (by decide +kernel) (by decide +kernel) ?_
    k_extra "e"
    refine pending_call h4 eS ?_
    k_extra "e"
    refine same_int ?_
    k_extra "e"
    k_extra "e"
    refine ee_file hF15 eF rfl (by decide +kernel) (by decide +kernel) ?_
    k_extra "e"
    refine content_call hF15 eF (by rw [List.length_nil]; omega) fun p hp => ?_
    k_extra "e"
    have eT := ap14.ex T (by simp)
    refine same_call (d := .list (las.map PyData.int)) (.lst (SqL.of upd_same) (dps_ints las)) (.lst (SqL.of ((eT.trans (Ex.new hp)) _ _ h1.hl)) (dps_ints las)) (ints_depth _) ?_
    k_extra "e"
    refine ee_file hF15 (eF.trans (Ex.new hp)) rfl (by decide +kernel) (by decide +kernel) ?_
    k_extra "e"
    refine pending_call hF15 (eF.trans (Ex.new hp)) ?_
    k_extra "e"
    refine same_int ?_
    exact q _
end Lw

namespace Lw
open PySem PySem.Spec PyProof.Rows L2
local macro_rules | `(tactic| k_extra "x1") => `(tactic| first
  | with_reducible refine es_seq ?_
  | with_reducible refine es_asg ?_
  | with_reducible refine es_if ?_
  | with_reducible refine es_ret ?_
  | with_reducible refine es_drop ?_
  | with_reducible refine es_next ?_
  | with_reducible refine es_augS ?_
  | with_reducible refine es_fld ?_
  | ((with_reducible show Ee (tVar _) _ _ _); refine ee_var rfl ?_)
  | with_reducible refine ee_c ?_
  | with_reducible refine ee_op ?_
  | with_reducible refine ee_un ?_
  | with_reducible refine eu_neg ?_
  | with_reducible refine ee_cb ?_
  | with_reducible refine ee_call ?_
  | with_reducible refine ea_nil ?_
  | with_reducible refine ea_cons ?_
  | with_reducible refine ee_sl ?_
  | with_reducible refine eo_no ?_
  | with_reducible refine eo_part ?_
  | with_reducible refine ee_tup ?_
  | with_reducible refine ee_lst ?_
  | with_reducible refine et_test ?_
  | with_reducible refine et_tB ?_
  | with_reducible refine et_tru ?_
  | with_reducible refine et_and ?_
  | with_reducible refine et_or ?_
  | with_reducible refine et_not ?_
  | with_reducible refine ee_and ?_
  | with_reducible refine ee_or ?_
  | with_reducible refine ee_not ?_
  | with_reducible refine ee_if ?_
  | with_reducible refine ee_chain ?_
  | with_reducible refine er_addI ?_
  | with_reducible refine er_subI ?_
  | with_reducible refine er_eqI ?_
  | with_reducible refine er_neI ?_
  | with_reducible refine er_eqNI ?_
  | with_reducible refine er_eqS ?_
  | with_reducible refine er_neS ?_
  | with_reducible refine er_eqB ?_
  | with_reducible refine er_neB ?_
  | with_reducible refine er_lt ?_
  | with_reducible refine er_le ?_
  | with_reducible refine er_gt ?_
  | with_reducible refine er_ge ?_
  | with_reducible refine er_isN_non ?_
  | with_reducible refine er_isN_bl ?_
  | with_reducible refine er_isN_int ?_
  | with_reducible refine er_isN_str ?_
  | with_reducible refine er_isN_ref ?_
  | with_reducible refine er_notN_non ?_
  | with_reducible refine er_notN_bl ?_
  | with_reducible refine er_notN_int ?_
  | with_reducible refine er_notN_str ?_
  | with_reducible refine er_notN_ref ?_
  | with_reducible refine er_isN ?_
  | with_reducible refine er_notN ?_
  | with_reducible refine ec_int ?_
  | with_reducible refine ec_intB ?_
  | with_reducible refine ec_max2 ?_
  | with_reducible refine ec_min2 ?_
  | with_reducible refine ip_I ?_
  | ((with_reducible refine eg_name ?_); (try dsimp only [L2.wipe, List.set_cons_zero, List.set_cons_succ]))
  | with_reducible refine eg_sub ?_
  | with_reducible refine egs_cons ?_
  | with_reducible refine egs_nil ?_
  | with_reducible refine tru_bl ?_
  | with_reducible refine tru_int ?_
  | with_reducible refine tru_non ?_
  | with_reducible refine iteT ?_
  | with_reducible refine iteF ?_
  | with_reducible refine ite_nt ?_
  | with_reducible refine ite_nf ?_
  | with_reducible refine ⟨_, rfl, ?_⟩)
local macro_rules | `(tactic| k_extra "s") => `(tactic| ((first | k_extra "x1" | ((with_reducible refine es_unf ?_); refine es_seq ?_)); (repeat k_extra "x1")))
local macro_rules | `(tactic| k_extra "x") => `(tactic| (repeat first | k_extra "x1" | ((with_reducible refine es_unf ?_); refine es_seq ?_)))
local macro_rules | `(tactic| k_extra "start") => `(tactic| dsimp only [L2.start, List.map_cons, List.map_nil, List.length_cons, List.length_nil, Nat.reduceAdd, Nat.reduceSub, List.replicate, List.cons_append, List.nil_append, Nat.zero_add])
local macro_rules | `(tactic| k_extra "e1") => `(tactic| first
  | with_reducible refine es_next ?_
  | ((with_reducible show Ee (tVar _) _ _ _); refine ee_var rfl ?_)
  | with_reducible refine ee_c ?_
  | with_reducible refine ee_op ?_
  | with_reducible refine ee_un ?_
  | with_reducible refine eu_neg ?_
  | with_reducible refine ee_cb ?_
  | with_reducible refine ee_call ?_
  | with_reducible refine ea_nil ?_
  | with_reducible refine ea_cons ?_
  | with_reducible refine ee_sl ?_
  | with_reducible refine eo_no ?_
  | with_reducible refine eo_part ?_
  | with_reducible refine ee_tup ?_
  | with_reducible refine ee_lst ?_
  | with_reducible refine et_test ?_
  | with_reducible refine et_tB ?_
  | with_reducible refine et_tru ?_
  | with_reducible refine et_and ?_
  | with_reducible refine et_or ?_
  | with_reducible refine et_not ?_
  | with_reducible refine ee_and ?_
  | with_reducible refine ee_or ?_
  | with_reducible refine ee_not ?_
  | with_reducible refine ee_if ?_
  | with_reducible refine ee_chain ?_
  | with_reducible refine er_addI ?_
  | with_reducible refine er_subI ?_
  | with_reducible refine er_eqI ?_
  | with_reducible refine er_neI ?_
  | with_reducible refine er_eqNI ?_
  | with_reducible refine er_eqS ?_
  | with_reducible refine er_neS ?_
  | with_reducible refine er_eqB ?_
  | with_reducible refine er_neB ?_
  | with_reducible refine er_lt ?_
  | with_reducible refine er_le ?_
  | with_reducible refine er_gt ?_
  | with_reducible refine er_ge ?_
  | with_reducible refine er_isN_non ?_
  | with_reducible refine er_isN_bl ?_
  | with_reducible refine er_isN_int ?_
  | with_reducible refine er_isN_str ?_
  | with_reducible refine er_isN_ref ?_
  | with_reducible refine er_notN_non ?_
  | with_reducible refine er_notN_bl ?_
  | with_reducible refine er_notN_int ?_
  | with_reducible refine er_notN_str ?_
  | with_reducible refine er_notN_ref ?_
  | with_reducible refine er_isN ?_
  | with_reducible refine er_notN ?_
  | with_reducible refine ec_int ?_
  | with_reducible refine ec_intB ?_
  | with_reducible refine ec_max2 ?_
  | with_reducible refine ec_min2 ?_
  | with_reducible refine ip_I ?_
  | ((with_reducible refine eg_name ?_); (try dsimp only [L2.wipe, List.set_cons_zero, List.set_cons_succ]))
  | with_reducible refine eg_sub ?_
  | with_reducible refine egs_cons ?_
  | with_reducible refine egs_nil ?_
  | with_reducible refine tru_bl ?_
  | with_reducible refine tru_int ?_
  | with_reducible refine tru_non ?_
  | with_reducible refine iteT ?_
  | with_reducible refine iteF ?_
  | with_reducible refine ite_nt ?_
  | with_reducible refine ite_nf ?_
  | with_reducible refine ex_bl ?_
  | with_reducible refine ex_int ?_
  | with_reducible refine ex_str ?_
  | with_reducible refine ex_strx ?_
  | with_reducible refine ex_ints1 ?_
  | with_reducible refine ex_ints2 ?_)
local macro_rules | `(tactic| k_extra "t1") => `(tactic| first
  | with_reducible refine es_asg ?_
  | with_reducible refine es_if ?_
  | with_reducible refine es_ret ?_
  | with_reducible refine es_drop ?_
  | with_reducible refine es_augS ?_
  | with_reducible refine es_fld ?_)
local macro_rules | `(tactic| k_extra "e") => `(tactic| first
  | ((with_reducible refine es_seq ?_); (try k_extra "t1"); (repeat k_extra "e1"))
  | (k_extra "t1"; (repeat k_extra "e1"))
  | (k_extra "e1"; (repeat k_extra "e1"))
  | ((with_reducible refine es_unf ?_); (refine es_seq ?_); (try k_extra "t1"); (repeat k_extra "e1")))
def topS (i : Nat) : Stmt := PySem.Challenge.pw_samemeant_k10_files_keep_a_beginning.main.body.getD i (.Pass ⟨0, 0, 0, 0⟩)
abbrev s__applied : Stmt := topS 1
theorem sc__applied : FnScope ["data", "steps", "result", "name", "number"] ["data", "steps"] (defScope s__applied) := ⟨rfl, rfl, rfl, by decide +kernel, rfl, by decide +kernel, by decide +kernel⟩
abbrev s_File_init : Stmt := inClass (topS 2) 0
theorem sc_File_init : FnScope ["self"] ["self"] (defScope s_File_init) := ⟨rfl, rfl, rfl, by decide +kernel, rfl, by decide +kernel, by decide +kernel⟩
abbrev s_File_write : Stmt := inClass (topS 2) 1
theorem sc_File_write : FnScope ["self", "data", "steps", "count", "byte"] ["self", "data", "steps"] (defScope s_File_write) := ⟨rfl, rfl, rfl, by decide +kernel, rfl, by decide +kernel, by decide +kernel⟩
abbrev s_File_shorten : Stmt := inClass (topS 2) 2
theorem sc_File_shorten : FnScope ["self", "size", "steps"] ["self", "size", "steps"] (defScope s_File_shorten) := ⟨rfl, rfl, rfl, by decide +kernel, rfl, by decide +kernel, by decide +kernel⟩
abbrev s_File_lose : Stmt := inClass (topS 2) 6
theorem sc_File_lose : FnScope ["self", "steps"] ["self", "steps"] (defScope s_File_lose) := ⟨rfl, rfl, rfl, by decide +kernel, rfl, by decide +kernel, by decide +kernel⟩
abbrev s_File_flush : Stmt := inClass (topS 2) 3
theorem sc_File_flush : FnScope ["self", "steps"] ["self", "steps"] (defScope s_File_flush) := ⟨rfl, rfl, rfl, by decide +kernel, rfl, by decide +kernel, by decide +kernel⟩
abbrev s_File_content : Stmt := inClass (topS 2) 4
theorem sc_File_content : FnScope ["self"] ["self"] (defScope s_File_content) := ⟨rfl, rfl, rfl, by decide +kernel, rfl, by decide +kernel, by decide +kernel⟩
abbrev s_File_pending : Stmt := inClass (topS 2) 5
theorem sc_File_pending : FnScope ["self"] ["self"] (defScope s_File_pending) := ⟨rfl, rfl, rfl, by decide +kernel, rfl, by decide +kernel, by decide +kernel⟩
abbrev s__law_mix : Stmt := topS 4
theorem sc__law_mix : FnScope ["cell", "k", "value"] ["cell", "k"] (defScope s__law_mix) := ⟨rfl, rfl, rfl, by decide +kernel, rfl, by decide +kernel, by decide +kernel⟩
abbrev s__law_draws : Stmt := topS 5
theorem sc__law_draws : FnScope ["script", "draws", "k", "cell", "place"] ["script"] (defScope s__law_draws) := ⟨rfl, rfl, rfl, by decide +kernel, rfl, by decide +kernel, by decide +kernel⟩
abbrev s__law_at : Stmt := topS 6
theorem sc__law_at : FnScope ["draws", "index"] ["draws", "index"] (defScope s__law_at) := ⟨rfl, rfl, rfl, by decide +kernel, rfl, by decide +kernel, by decide +kernel⟩
abbrev s__law_is_integer : Stmt := topS 7
theorem sc__law_is_integer : FnScope ["actual"] ["actual"] (defScope s__law_is_integer) := ⟨rfl, rfl, rfl, by decide +kernel, rfl, by decide +kernel, by decide +kernel⟩
abbrev s__law_same : Stmt := topS 8
theorem sc__law_same : FnScope ["actual", "expected", "k"] ["actual", "expected"] (defScope s__law_same) := ⟨rfl, rfl, rfl, by decide +kernel, rfl, by decide +kernel, by decide +kernel⟩
abbrev s__law_next : Stmt := topS 9
theorem sc__law_next : FnScope ["state", "limit"] ["state", "limit"] (defScope s__law_next) := ⟨rfl, rfl, rfl, by decide +kernel, rfl, by decide +kernel, by decide +kernel⟩
abbrev s__law_after : Stmt := topS 10
theorem sc__law_after : FnScope ["data", "steps", "kind", "number"] ["data", "steps"] (defScope s__law_after) := ⟨rfl, rfl, rfl, by decide +kernel, rfl, by decide +kernel, by decide +kernel⟩
abbrev s__law_deed : Stmt := topS 11
theorem sc__law_deed : FnScope ["state", "file", "lasting", "steps", "pick", "limit", "data", "count", "passed", "done", "size", "k", "byte"] ["state", "file", "lasting", "steps"] (defScope s__law_deed) := ⟨rfl, rfl, rfl, by decide +kernel, rfl, by decide +kernel, by decide +kernel⟩
abbrev s_law : Stmt := topS 12
theorem sc_law : FnScope ["script", "state", "file", "lasting", "steps", "other", "still", "k", "right"] ["script"] (defScope s_law) := ⟨rfl, rfl, rfl, by decide +kernel, rfl, by decide +kernel, by decide +kernel⟩
structure Facts (K : PySem.W.Frag) (mg : Str → Option Value) (A : Ad) : Prop where
  cf : Cf K A
  f__applied : Fnd K mg "_applied" s__applied
  f_File_init : FndI K A.cFile "File.__init__" s_File_init
  f_File_write : FndM K A.cFile "write" "File.write" s_File_write
  f_File_shorten : FndM K A.cFile "shorten" "File.shorten" s_File_shorten
  f_File_lose : FndM K A.cFile "lose" "File.lose" s_File_lose
  f_File_flush : FndM K A.cFile "flush" "File.flush" s_File_flush
  f_File_content : FndM K A.cFile "content" "File.content" s_File_content
  f_File_pending : FndM K A.cFile "pending" "File.pending" s_File_pending
  f__law_mix : Fnd K mg "_law_mix" s__law_mix
  f__law_draws : Fnd K mg "_law_draws" s__law_draws
  f__law_at : Fnd K mg "_law_at" s__law_at
  f__law_is_integer : Fnd K mg "_law_is_integer" s__law_is_integer
  f__law_same : Fnd K mg "_law_same" s__law_same
  f__law_next : Fnd K mg "_law_next" s__law_next
  f__law_after : Fnd K mg "_law_after" s__law_after
  f__law_deed : Fnd K mg "_law_deed" s__law_deed
  f_law : Fnd K mg "law" s_law
  b_bool : mg "bool" = none
  b_int : mg "int" = none
  b_isinstance : mg "isinstance" = none
  b_len : mg "len" = none
  b_list : mg "list" = none
  b_min : mg "min" = none
  b_range : mg "range" = none
  b_str : mg "str" = none
  b_tuple : mg "tuple" = none
  g_File : mg "File" = some (.ref A.cFile)
section
variable {P : Program} {w : World} {K : PySem.W.Frag} {mg : Str → Option Value} {base : Heap} {A : Ad}
theorem has__applied (Z : Facts K mg A) : Has P w K mg base CX0 1 "_applied" ["data", "steps"] (up (S__applied K A)) :=
  Has.mk0 (t := t__applied K A) Z.f__applied sc__applied (fun _ _ _ _ _ _ us hl => match us, hl with | [_, _], _ => rfl) len__applied
    (fun f cdv A0 outer s H E hr => (pss_cons (ps_set (i := 2) sc__applied.nd rfl (by first | exact Or.inl rfl | exact Or.inr rfl) (pe_callTy call_listU (by rfl) Z.b_list (by decide +kernel) (pa_cons (pv 0) pa_nil))) (pss_cons (ps_for PassesOwn.never rfl (pi_list (pv 1)) (pg_tup rfl (pgs_cons (pg_name (i := 3) sc__applied.nd rfl (by first | exact Or.inl rfl | exact Or.inr rfl)) (pgs_cons (pg_name (i := 4) sc__applied.nd rfl (by first | exact Or.inl rfl | exact Or.inr rfl)) pgs_nil))) (pss_one (ps_if (pt_cmpR (op_eqU (rm64 hr)) (pv 3) pe_str (nomark _)) (pss_one (ps_expr (pe_bm PySem.F.plainAttrs_list PySem.F.slot_list_append PySem.F.type_list_append mt_append (pv 2) (pa_cons (pv 4) pa_nil)))) (pss_one (ps_set (i := 2) sc__applied.nd rfl (by first | exact Or.inl rfl | exact Or.inr rfl) (pe_slice sl_U (pv 2) po_none (po_some (pv 4)))))))) (pss_one (ps_ret (pv 2))))))
    ok__applied
theorem has_File_init (Z : Facts K mg A) : HasI P w K mg base CX0 1 A.cFile ["self"] (up (S_File_init K A)) :=
  HasI.mk0 (t := t_File_init K A) Z.f_File_init sc_File_init (fun _ _ _ _ _ _ us hl => match us, hl with | [_], _ => rfl) len_File_init
    (fun f cdv A0 outer s H E hr => (pss_cons (ps_fld (pv 0) (pe_lst pa_nil) rfl) (pss_one (ps_fld (pv 0) (pe_lst pa_nil) rfl))))
    (ok_File_init Z.cf)
theorem has_File_write (Z : Facts K mg A) : HasM P w K mg base CX0 1 A.cFile "write" ["self", "data", "steps"] (up (S_File_write K A)) :=
  HasM.mk0 (t := t_File_write K A) Z.f_File_write sc_File_write (fun _ _ _ _ _ _ us hl => match us, hl with | [_, _, _], _ => rfl) len_File_write
    (fun f cdv A0 outer s H E hr => (pss_cons (ps_set (i := 3) sc_File_write.nd rfl (by first | exact Or.inl rfl | exact Or.inr rfl) (pe_ifExp (pt_cmpR op_isN1 (pv 2) pe_non (nomark _)) (pe_callB call_lenU (by rfl) Z.b_len (by decide +kernel) (pa_cons (pv 1) pa_nil)) (pe_callB (call_min2U rfl) (by rfl) Z.b_min (by decide +kernel) (pa_cons (pv 2) (pa_cons (pe_callB call_lenU (by rfl) Z.b_len (by decide +kernel) (pa_cons (pv 1) pa_nil)) pa_nil))))) (pss_cons (ps_expr (pe_bm PySem.F.plainAttrs_list PySem.F.slot_list_extend PySem.F.type_list_extend mt_extend (pe_fld (pv 0) rfl) (pa_cons (pe_lc (own := [("byte", 4)]) (g := (gName 4)) (by rfl) sc_File_write.nd (pi_list (pe_slice sl_U (pv 1) po_none (po_some (pv 3)))) (blkOk_by (own := [("byte", 4)]) (N := ["self", "data", "steps", "count", "byte"]) (sc := defScope s_File_write) (by decide +kernel)) (fun _ _ _ _ _ => (pg_name (i := 4) sc_File_write.nd rfl (by first | exact Or.inl rfl | exact Or.inr rfl))) (fun _ _ _ _ _ => pts_nil) (fun _ _ _ _ _ => (pe_tup (pa_cons pe_str (pa_cons (pv 4) pa_nil))))) pa_nil))) (pss_one (ps_ret (pv 3))))))
    (ok_File_write Z.cf)
theorem has_File_shorten (Z : Facts K mg A) : HasM P w K mg base CX0 1 A.cFile "shorten" ["self", "size", "steps"] (up (S_File_shorten K A)) :=
  HasM.mk0 (t := t_File_shorten K A) Z.f_File_shorten sc_File_shorten (fun _ _ _ _ _ _ us hl => match us, hl with | [_, _, _], _ => rfl) len_File_shorten
    (fun f cdv A0 outer s H E hr => (pss_cons (ps_if (pt_cmpR (op_eqU (rm64 hr)) (pv 2) pe_int (nomark _)) (pss_one (ps_ret pe_int)) pss_nil) (pss_cons (ps_expr (pe_bm PySem.F.plainAttrs_list PySem.F.slot_list_append PySem.F.type_list_append mt_append (pe_fld (pv 0) rfl) (pa_cons (pe_tup (pa_cons pe_str (pa_cons (pv 1) pa_nil))) pa_nil))) (pss_one (ps_ret pe_int)))))
    (ok_File_shorten Z.cf)
theorem has_File_lose (Z : Facts K mg A) : HasM P w K mg base CX0 2 A.cFile "lose" ["self", "steps"] (up (S_File_lose K A)) :=
  HasM.mk0 (t := t_File_lose K A) Z.f_File_lose sc_File_lose (fun _ _ _ _ _ _ us hl => match us, hl with | [_, _], _ => rfl) len_File_lose
    (fun f cdv A0 outer s H E hr => (pss_cons (ps_fld (pv 0) (pe_callH (has__applied Z) (hr.mono (by decide)) (by rfl) pass0 (pa_cons (pe_fld (pv 0) rfl) (pa_cons (pe_slice sl_U (pe_fld (pv 0) rfl) po_none (po_some (pv 1))) pa_nil))) rfl) (pss_one (ps_fld (pv 0) (pe_lst pa_nil) rfl))))
    (ok_File_lose Z.cf)
theorem has_File_flush (Z : Facts K mg A) : HasM P w K mg base CX0 3 A.cFile "flush" ["self", "steps"] (up (S_File_flush K A)) :=
  HasM.mk0 (t := t_File_flush K A) Z.f_File_flush sc_File_flush (fun _ _ _ _ _ _ us hl => match us, hl with | [_, _], _ => rfl) len_File_flush
    (fun f cdv A0 outer s H E hr => (pss_cons (ps_if (pt_cmpR (op_eqU (rm64 hr)) (pv 1) pe_int (nomark _)) (pss_one (ps_ret pe_int)) pss_nil) (pss_cons (ps_expr (pe_methH (pv 0) Z.cf.cl (has_File_lose Z) (hr.mono (by decide)) pass0 (pa_cons (pe_callB call_lenU (by rfl) Z.b_len (by decide +kernel) (pa_cons (pe_fld (pv 0) rfl) pa_nil)) pa_nil))) (pss_one (ps_ret pe_int)))))
    (ok_File_flush Z.cf)
theorem has_File_content (Z : Facts K mg A) : HasM P w K mg base CX0 2 A.cFile "content" ["self"] (up (S_File_content K A)) :=
  HasM.mk0 (t := t_File_content K A) Z.f_File_content sc_File_content (fun _ _ _ _ _ _ us hl => match us, hl with | [_], _ => rfl) len_File_content
    (fun f cdv A0 outer s H E hr => (pss_one (ps_ret (pe_callH (has__applied Z) (hr.mono (by decide)) (by rfl) pass0 (pa_cons (pe_fld (pv 0) rfl) (pa_cons (pe_fld (pv 0) rfl) pa_nil))))))
    (ok_File_content Z.cf)
theorem has_File_pending (Z : Facts K mg A) : HasM P w K mg base CX0 1 A.cFile "pending" ["self"] (up (S_File_pending K A)) :=
  HasM.mk0 (t := t_File_pending K A) Z.f_File_pending sc_File_pending (fun _ _ _ _ _ _ us hl => match us, hl with | [_], _ => rfl) len_File_pending
    (fun f cdv A0 outer s H E hr => (pss_one (ps_ret (pe_callB call_lenU (by rfl) Z.b_len (by decide +kernel) (pa_cons (pe_fld (pv 0) rfl) pa_nil)))))
    (ok_File_pending Z.cf)
theorem has__law_mix (Z : Facts K mg A) : Has P w K mg base CX0 1 "_law_mix" ["cell", "k"] (up (S__law_mix K A)) :=
  Has.mk0 (t := t__law_mix K A) Z.f__law_mix sc__law_mix (fun _ _ _ _ _ _ us hl => match us, hl with | [_, _], _ => rfl) len__law_mix
    (fun f cdv A0 outer s H E hr => (pss_cons (ps_set (i := 2) sc__law_mix.nd rfl (by first | exact Or.inl rfl | exact Or.inr rfl) (pe_op op_modU (pe_callTy call_intU (by rfl) Z.b_int (by decide +kernel) (pa_cons (pe_op op_addU (pe_op op_addU (pe_op op_mulU (pe_callTy call_intU (by rfl) Z.b_int (by decide +kernel) (pa_cons (pv 0) pa_nil)) pe_int) (pe_op op_mulU (pv 1) pe_int)) pe_int) pa_nil)) pe_int)) (pss_cons (ps_set (i := 2) sc__law_mix.nd rfl (by first | exact Or.inl rfl | exact Or.inr rfl) (pe_op op_modU (pe_callTy call_intU (by rfl) Z.b_int (by decide +kernel) (pa_cons (pe_op op_addU (pe_op op_addU (pe_op op_mulU (pv 2) (pv 2)) (pe_op op_mulU (pv 1) pe_int)) pe_int) pa_nil)) pe_int)) (pss_one (ps_ret (pe_op op_modU (pe_op op_divU (pv 2) pe_int) pe_int))))))
    ok__law_mix
theorem has__law_draws (Z : Facts K mg A) : Has P w K mg base CX0 2 "_law_draws" ["script"] (up (S__law_draws K A)) :=
  Has.mk0 (t := t__law_draws K A) Z.f__law_draws sc__law_draws (fun _ _ _ _ _ _ us hl => match us, hl with | [_], _ => rfl) len__law_draws
    (fun f cdv A0 outer s H E hr => (pss_cons (ps_set (i := 1) sc__law_draws.nd rfl (by first | exact Or.inl rfl | exact Or.inr rfl) (pe_lst pa_nil)) (pss_cons (ps_for PassesOwn.never rfl (pi_range1 (by rfl) Z.b_range (pa_cons (pe_callB (call_min2U rfl) (by rfl) Z.b_min (by decide +kernel) (pa_cons pe_int (pa_cons (pe_callB call_lenU (by rfl) Z.b_len (by decide +kernel) (pa_cons (pv 0) pa_nil)) pa_nil))) pa_nil)) (pg_name (i := 2) sc__law_draws.nd rfl (by first | exact Or.inl rfl | exact Or.inr rfl)) (pss_cons (ps_set (i := 3) sc__law_draws.nd rfl (by first | exact Or.inl rfl | exact Or.inr rfl) (pe_callTy call_intU (by rfl) Z.b_int (by decide +kernel) (pa_cons (pe_ix ix_seq (pv 0) (pv 2) (fun _ _ => rfl)) pa_nil))) (pss_one (ps_if (pt_cmpR (op_ltU (rm0 hr)) (pv 3) (pe_op op_powU pe_int pe_int) (nomark _)) (pss_one (ps_expr (pe_bm PySem.F.plainAttrs_list PySem.F.slot_list_append PySem.F.type_list_append mt_append (pv 1) (pa_cons (pe_callH (has__law_mix Z) (hr.mono (by decide)) (by rfl) pass0 (pa_cons (pv 3) (pa_cons (pv 2) pa_nil))) pa_nil)))) (pss_one (ps_for PassesOwn.never rfl (pi_range1 (by rfl) Z.b_range (pa_cons pe_int pa_nil)) (pg_name (i := 4) sc__law_draws.nd rfl (by first | exact Or.inl rfl | exact Or.inr rfl)) (pss_one (ps_if (pt_cmpR op_gtU (pv 3) pe_int (nomark _)) (pss_cons (ps_expr (pe_bm PySem.F.plainAttrs_list PySem.F.slot_list_append PySem.F.type_list_append mt_append (pv 1) (pa_cons (pe_op op_modU (pe_callTy call_intU (by rfl) Z.b_int (by decide +kernel) (pa_cons (pv 3) pa_nil)) pe_int) pa_nil))) (pss_one (ps_set (i := 3) sc__law_draws.nd rfl (by first | exact Or.inl rfl | exact Or.inr rfl) (pe_op op_divU (pv 3) pe_int)))) pss_nil)))))))) (pss_one (ps_ret (pv 1))))))
    ok__law_draws
theorem has__law_at (Z : Facts K mg A) : Has P w K mg base CX0 2 "_law_at" ["draws", "index"] (up (S__law_at K A)) :=
  Has.mk0 (t := t__law_at K A) Z.f__law_at sc__law_at (fun _ _ _ _ _ _ us hl => match us, hl with | [_, _], _ => rfl) len__law_at
    (fun f cdv A0 outer s H E hr => (pss_cons (ps_if (pt_cmpR (op_ltU (rm0 hr)) (pv 1) (pe_callB call_lenU (by rfl) Z.b_len (by decide +kernel) (pa_cons (pv 0) pa_nil)) (nomark _)) (pss_one (ps_ret (pe_ix ix_seq (pv 0) (pv 1) (fun _ _ => rfl)))) pss_nil) (pss_cons (ps_if (pt_cmpR (op_eqU (rm64 hr)) (pe_callB call_lenU (by rfl) Z.b_len (by decide +kernel) (pa_cons (pv 0) pa_nil)) pe_int (nomark _)) (pss_one (ps_ret (pe_callH (has__law_mix Z) (hr.mono (by decide)) (by rfl) pass0 (pa_cons (pv 1) (pa_cons pe_int pa_nil))))) pss_nil) (pss_one (ps_ret (pe_callH (has__law_mix Z) (hr.mono (by decide)) (by rfl) pass0 (pa_cons (pe_op op_addU (pe_ix ix_seq (pv 0) (pe_op op_modU (pe_callTy call_intU (by rfl) Z.b_int (by decide +kernel) (pa_cons (pv 1) pa_nil)) (pe_callB call_lenU (by rfl) Z.b_len (by decide +kernel) (pa_cons (pv 0) pa_nil))) (fun _ _ => rfl)) (pe_op op_mulU (pv 1) pe_int)) (pa_cons (pv 1) pa_nil))))))))
    ok__law_at
theorem has__law_is_integer (Z : Facts K mg A) : Has P w K mg base CX0 1 "_law_is_integer" ["actual"] (up (S__law_is_integer K A)) :=
  Has.mk0 (t := t__law_is_integer K A) Z.f__law_is_integer sc__law_is_integer (fun _ _ _ _ _ _ us hl => match us, hl with | [_], _ => rfl) len__law_is_integer
    (fun f cdv A0 outer s H E hr => (pss_one (ps_ret (pe_and (pe_callB call_isiU (by rfl) Z.b_isinstance (by decide +kernel) (pa_cons (pv 0) (pa_cons (pe_bltn (v := .ty "int") (by rfl) Z.b_int (by decide +kernel) rfl) pa_nil))) (pe_one (pe_not (pe_callB call_isiU (by rfl) Z.b_isinstance (by decide +kernel) (pa_cons (pv 0) (pa_cons (pe_bltn (v := .ty "bool") (by rfl) Z.b_bool (by decide +kernel) rfl) pa_nil)))))))))
    ok__law_is_integer
theorem has__law_same_n (Z : Facts K mg A) : ∀ n : Nat, Has P w K mg base CX0 (n + 1) "_law_same" ["actual", "expected"] (up (Sn__law_same K A n))
  | 0 => Has.never (ps := ["actual", "expected"]) Z.f__law_same (fun _ _ _ _ _ _ us hl => match us, hl with | [_, _], _ => rfl) no__law_same
  | n + 1 => by
    have h_rec := has__law_same_n Z n
    exact Has.mk0 (t := t__law_same K A (Sn__law_same K A n)) Z.f__law_same sc__law_same (fun _ _ _ _ _ _ us hl => match us, hl with | [_, _], _ => rfl) (len__law_same (n + 1))
      (fun f cdv A0 outer s H E hr => (pss_cons (ps_if (pt_tru (pe_callB call_isiU (by rfl) Z.b_isinstance (by decide +kernel) (pa_cons (pv 1) (pa_cons (pe_tup (pa_cons (pe_bltn (v := .ty "list") (by rfl) Z.b_list (by decide +kernel) rfl) (pa_cons (pe_bltn (v := .ty "tuple") (by rfl) Z.b_tuple (by decide +kernel) rfl) pa_nil))) pa_nil)))) (pss_cons (ps_if (PW.pt (pw_or (pt_cmpR (op_neU (rm64 hr)) (pe_callB call_isiU (by rfl) Z.b_isinstance (by decide +kernel) (pa_cons (pv 1) (pa_cons (pe_bltn (v := .ty "list") (by rfl) Z.b_list (by decide +kernel) rfl) pa_nil))) (pe_callB call_isiU (by rfl) Z.b_isinstance (by decide +kernel) (pa_cons (pv 0) (pa_cons (pe_bltn (v := .ty "list") (by rfl) Z.b_list (by decide +kernel) rfl) pa_nil))) (nomark _)) (pw_or1 (pt_cmpR (op_neU (rm64 hr)) (pe_callB call_isiU (by rfl) Z.b_isinstance (by decide +kernel) (pa_cons (pv 1) (pa_cons (pe_bltn (v := .ty "tuple") (by rfl) Z.b_tuple (by decide +kernel) rfl) pa_nil))) (pe_callB call_isiU (by rfl) Z.b_isinstance (by decide +kernel) (pa_cons (pv 0) (pa_cons (pe_bltn (v := .ty "tuple") (by rfl) Z.b_tuple (by decide +kernel) rfl) pa_nil))) (nomark _))))) (pss_one (ps_ret pe_bl)) pss_nil) (pss_cons (ps_if (pt_cmpR (op_neU (rm64 hr)) (pe_callB call_lenU (by rfl) Z.b_len (by decide +kernel) (pa_cons (pv 0) pa_nil)) (pe_callB call_lenU (by rfl) Z.b_len (by decide +kernel) (pa_cons (pv 1) pa_nil)) (nomark _)) (pss_one (ps_ret pe_bl)) pss_nil) (pss_cons (ps_for PassesOwn.never rfl (pi_range1 (by rfl) Z.b_range (pa_cons (pe_callB call_lenU (by rfl) Z.b_len (by decide +kernel) (pa_cons (pv 1) pa_nil)) pa_nil)) (pg_name (i := 2) sc__law_same.nd rfl (by first | exact Or.inl rfl | exact Or.inr rfl)) (pss_one (ps_if (pt_not (pt_tru (pe_callH h_rec hr (by rfl) pass0 (pa_cons (pe_ix ix_seq (pv 0) (pv 2) (fun _ _ => rfl)) (pa_cons (pe_ix ix_seq (pv 1) (pv 2) (fun _ _ => rfl)) pa_nil))))) (pss_one (ps_ret pe_bl)) pss_nil))) (pss_one (ps_ret pe_bl))))) pss_nil) (pss_cons (ps_if (pt_cmpR op_isN1 (pv 1) pe_non (nomark _)) (pss_one (ps_ret (pe_cmpR op_isN1 (pv 0) pe_non (nomark _)))) pss_nil) (pss_cons (ps_if (pt_tru (pe_callB call_isiU (by rfl) Z.b_isinstance (by decide +kernel) (pa_cons (pv 1) (pa_cons (pe_bltn (v := .ty "bool") (by rfl) Z.b_bool (by decide +kernel) rfl) pa_nil)))) (pss_one (ps_ret (pe_and (pe_callB call_isiU (by rfl) Z.b_isinstance (by decide +kernel) (pa_cons (pv 0) (pa_cons (pe_bltn (v := .ty "bool") (by rfl) Z.b_bool (by decide +kernel) rfl) pa_nil))) (pe_one (pe_cmpR (op_eqU (rm64 hr)) (pv 0) (pv 1) (nomark _)))))) pss_nil) (pss_cons (ps_if (pt_tru (pe_callB call_isiU (by rfl) Z.b_isinstance (by decide +kernel) (pa_cons (pv 1) (pa_cons (pe_bltn (v := .ty "int") (by rfl) Z.b_int (by decide +kernel) rfl) pa_nil)))) (pss_one (ps_ret (pe_and (pe_callH (has__law_is_integer Z) (hr.mono (Nat.le_add_left _ _)) (by rfl) pass0 (pa_cons (pv 0) pa_nil)) (pe_one (pe_cmpR (op_eqU (rm64 hr)) (pv 0) (pv 1) (nomark _)))))) pss_nil) (pss_one (ps_ret (pe_and (pe_callB call_isiU (by rfl) Z.b_isinstance (by decide +kernel) (pa_cons (pv 0) (pa_cons (pe_bltn (v := .ty "str") (by rfl) Z.b_str (by decide +kernel) rfl) pa_nil))) (pe_one (pe_cmpR (op_eqU (rm64 hr)) (pv 0) (pv 1) (nomark _)))))))))))
      (ok__law_same n)
theorem has__law_same (Z : Facts K mg A) : Has P w K mg base CX0 9 "_law_same" ["actual", "expected"] (up (S__law_same K A)) := has__law_same_n Z 8
theorem has__law_next (Z : Facts K mg A) : Has P w K mg base CX0 3 "_law_next" ["state", "limit"] (up (S__law_next K A)) :=
  Has.mk0 (t := t__law_next K A) Z.f__law_next sc__law_next (fun _ _ _ _ _ _ us hl => match us, hl with | [_, _], _ => rfl) len__law_next
    (fun f cdv A0 outer s H E hr => (pss_cons (ps_augS (pv 0) pe_int pget_list pe_int ip_add set_list) (pss_one (ps_ret (pe_op op_modU (pe_callH (has__law_at Z) (hr.mono (by decide)) (by rfl) pass0 (pa_cons (pe_ix ix_seq (pv 0) pe_int (fun _ _ => rfl)) (pa_cons (pe_ix ix_seq (pv 0) pe_int (fun _ _ => rfl)) pa_nil))) (pv 1))))))
    ok__law_next
theorem has__law_after (Z : Facts K mg A) : Has P w K mg base CX0 1 "_law_after" ["data", "steps"] (up (S__law_after K A)) :=
  Has.mk0 (t := t__law_after K A) Z.f__law_after sc__law_after (fun _ _ _ _ _ _ us hl => match us, hl with | [_, _], _ => rfl) len__law_after
    (fun f cdv A0 outer s H E hr => (pss_cons (ps_set (i := 0) sc__law_after.nd rfl (by first | exact Or.inl rfl | exact Or.inr rfl) (pe_callTy call_listU (by rfl) Z.b_list (by decide +kernel) (pa_cons (pv 0) pa_nil))) (pss_cons (ps_for PassesOwn.never rfl (pi_list (pv 1)) (pg_tup rfl (pgs_cons (pg_name (i := 2) sc__law_after.nd rfl (by first | exact Or.inl rfl | exact Or.inr rfl)) (pgs_cons (pg_name (i := 3) sc__law_after.nd rfl (by first | exact Or.inl rfl | exact Or.inr rfl)) pgs_nil))) (pss_one (ps_if (pt_cmpR (op_eqU (rm64 hr)) (pv 2) pe_int (nomark _)) (pss_one (ps_expr (pe_bm PySem.F.plainAttrs_list PySem.F.slot_list_append PySem.F.type_list_append mt_append (pv 0) (pa_cons (pv 3) pa_nil)))) (pss_one (ps_set (i := 0) sc__law_after.nd rfl (by first | exact Or.inl rfl | exact Or.inr rfl) (pe_slice sl_U (pv 0) po_none (po_some (pv 3)))))))) (pss_one (ps_ret (pv 0))))))
    ok__law_after
theorem has__law_deed (Z : Facts K mg A) : Has P w K mg base CX0 10 "_law_deed" ["state", "file", "lasting", "steps"] (up (S__law_deed K A)) :=
  Has.mk0 (t := t__law_deed K A) Z.f__law_deed sc__law_deed (fun _ _ _ _ _ _ us hl => match us, hl with | [_, _, _, _], _ => rfl) len__law_deed
    (fun f cdv A0 outer s H E hr => (pss_cons (ps_set (i := 4) sc__law_deed.nd rfl (by first | exact Or.inl rfl | exact Or.inr rfl) (pe_callH (has__law_next Z) (hr.mono (by decide)) (by rfl) pass0 (pa_cons (pv 0) (pa_cons pe_int pa_nil)))) (pss_cons (ps_set (i := 5) sc__law_deed.nd rfl (by first | exact Or.inl rfl | exact Or.inr rfl) pe_non) (pss_cons (ps_if (pt_cmpR (op_eqU (rm64 hr)) (pe_callH (has__law_next Z) (hr.mono (by decide)) (by rfl) pass0 (pa_cons (pv 0) (pa_cons pe_int pa_nil))) pe_int (nomark _)) (pss_one (ps_set (i := 5) sc__law_deed.nd rfl (by first | exact Or.inl rfl | exact Or.inr rfl) (pe_ix ix_seq (pe_lst (pa_cons (pe_callH (has__law_next Z) (hr.mono (by decide)) (by rfl) pass0 (pa_cons (pv 0) (pa_cons pe_int pa_nil))) (pa_cons (pe_callH (has__law_next Z) (hr.mono (by decide)) (by rfl) pass0 (pa_cons (pv 0) (pa_cons pe_int pa_nil))) pa_nil))) (pe_callH (has__law_next Z) (hr.mono (by decide)) (by rfl) pass0 (pa_cons (pv 0) (pa_cons pe_int pa_nil))) (fun _ _ => rfl)))) pss_nil) (pss_cons (ps_if (pt_cmpR (op_ltU (rm0 hr)) (pv 4) pe_int (nomark _)) (pss_cons (ps_setLc (i := 6) (own := [("k", 11)]) (g := (gName 11)) (by rfl) sc__law_deed.nd rfl rfl (sw_true rfl rfl rfl (by decide +kernel)) (pi_range1 (by rfl) Z.b_range (pa_cons (pe_op op_addU (pe_callH (has__law_next Z) (hr.mono (by decide)) (by rfl) pass0 (pa_cons (pv 0) (pa_cons pe_int pa_nil))) (pe_op op_mulU pe_int (pe_callTy call_intU (by rfl) Z.b_int (by decide +kernel) (pa_cons (pe_cmpR (op_eqU (rm64 hr)) (pe_callH (has__law_next Z) (hr.mono (by decide)) (by rfl) pass0 (pa_cons (pv 0) (pa_cons pe_int pa_nil))) pe_int (nomark _)) pa_nil)))) pa_nil)) (blkOk_by (own := [("k", 11)]) (N := ["state", "file", "lasting", "steps", "pick", "limit", "data", "count", "passed", "done", "size", "k", "byte"]) (sc := defScope s__law_deed) (by decide +kernel)) (fun _ _ _ _ _ => (pg_name (i := 11) sc__law_deed.nd rfl (by first | exact Or.inl rfl | exact Or.inr rfl))) (fun _ _ _ _ _ => pts_nil) (fun _ _ _ _ _ => (pe_callH (has__law_next Z) (hr.mono (by decide)) (by rfl) pass0 (pa_cons (pv 0) (pa_cons pe_int pa_nil))))) (pss_cons (ps_set (i := 7) sc__law_deed.nd rfl (by first | exact Or.inl rfl | exact Or.inr rfl) (pe_callB call_lenU (by rfl) Z.b_len (by decide +kernel) (pa_cons (pv 6) pa_nil))) (pss_cons (ps_if (pt_cmpR op_notN1 (pv 5) pe_non (nomark _)) (pss_one (ps_set (i := 7) sc__law_deed.nd rfl (by first | exact Or.inl rfl | exact Or.inr rfl) (pe_callB (call_min2U rfl) (by rfl) Z.b_min (by decide +kernel) (pa_cons (pv 7) (pa_cons (pv 5) pa_nil))))) pss_nil) (pss_cons (ps_set (i := 8) sc__law_deed.nd rfl (by first | exact Or.inl rfl | exact Or.inr rfl) (pe_callTy call_listU (by rfl) Z.b_list (by decide +kernel) (pa_cons (pv 6) pa_nil))) (pss_cons (ps_set (i := 9) sc__law_deed.nd rfl (by first | exact Or.inl rfl | exact Or.inr rfl) (pe_methH (pv 1) Z.cf.cl (has_File_write Z) (hr.mono (by decide)) pass0 (pa_cons (pv 8) (pa_cons (pv 5) pa_nil)))) (pss_cons (ps_if (pt_cmpR (op_neU (rm64 hr)) (pv 8) (pv 6) (nomark _)) (pss_one (ps_ret (pe_lst (pa_cons pe_bl (pa_cons (pv 2) (pa_cons (pv 3) pa_nil)))))) pss_nil) (pss_cons (ps_expr (pe_bm PySem.F.plainAttrs_list PySem.F.slot_list_insert PySem.F.type_list_insert mt_insertU (pv 8) (pa_cons pe_int (pa_cons pe_int pa_nil)))) (pss_cons (ps_expr (pe_bm PySem.F.plainAttrs_list PySem.F.slot_list_append PySem.F.type_list_append mt_append (pv 8) (pa_cons pe_int pa_nil))) (pss_one (ps_ret (pe_lst (pa_cons (pe_callH (has__law_same Z) (hr.mono (by decide)) (by rfl) pass0 (pa_cons (pv 9) (pa_cons (pv 7) pa_nil))) (pa_cons (pv 2) (pa_cons (pe_op op_addU (pv 3) (pe_lc (own := [("byte", 12)]) (g := (gName 12)) (by rfl) sc__law_deed.nd (pi_list (pe_slice sl_U (pv 6) po_none (po_some (pv 7)))) (blkOk_by (own := [("byte", 12)]) (N := ["state", "file", "lasting", "steps", "pick", "limit", "data", "count", "passed", "done", "size", "k", "byte"]) (sc := defScope s__law_deed) (by decide +kernel)) (fun _ _ _ _ _ => (pg_name (i := 12) sc__law_deed.nd rfl (by first | exact Or.inl rfl | exact Or.inr rfl))) (fun _ _ _ _ _ => pts_nil) (fun _ _ _ _ _ => (pe_tup (pa_cons pe_int (pa_cons (pv 12) pa_nil)))))) pa_nil)))))))))))))) pss_nil) (pss_cons (ps_if (pt_cmpR (op_ltU (rm0 hr)) (pv 4) pe_int (nomark _)) (pss_cons (ps_set (i := 10) sc__law_deed.nd rfl (by first | exact Or.inl rfl | exact Or.inr rfl) (pe_callH (has__law_next Z) (hr.mono (by decide)) (by rfl) pass0 (pa_cons (pv 0) (pa_cons (pe_op op_addU (pe_callB call_lenU (by rfl) Z.b_len (by decide +kernel) (pa_cons (pe_callH (has__law_after Z) (hr.mono (by decide)) (by rfl) pass0 (pa_cons (pv 2) (pa_cons (pv 3) pa_nil))) pa_nil)) pe_int) pa_nil)))) (pss_cons (ps_set (i := 9) sc__law_deed.nd rfl (by first | exact Or.inl rfl | exact Or.inr rfl) (pe_methH (pv 1) Z.cf.cl (has_File_shorten Z) (hr.mono (by decide)) pass0 (pa_cons (pv 10) (pa_cons (pv 5) pa_nil)))) (pss_cons (ps_if (pt_cmpR (op_eqU (rm64 hr)) (pv 5) pe_int (nomark _)) (pss_one (ps_ret (pe_lst (pa_cons (pe_callH (has__law_same Z) (hr.mono (by decide)) (by rfl) pass0 (pa_cons (pv 9) (pa_cons pe_int pa_nil))) (pa_cons (pv 2) (pa_cons (pv 3) pa_nil)))))) pss_nil) (pss_one (ps_ret (pe_lst (pa_cons (pe_callH (has__law_same Z) (hr.mono (by decide)) (by rfl) pass0 (pa_cons (pv 9) (pa_cons pe_int pa_nil))) (pa_cons (pv 2) (pa_cons (pe_op op_addU (pv 3) (pe_lst (pa_cons (pe_tup (pa_cons pe_int (pa_cons (pv 10) pa_nil))) pa_nil))) pa_nil))))))))) pss_nil) (pss_cons (ps_if (pt_cmpR (op_ltU (rm0 hr)) (pv 4) pe_int (nomark _)) (pss_cons (ps_set (i := 9) sc__law_deed.nd rfl (by first | exact Or.inl rfl | exact Or.inr rfl) (pe_methH (pv 1) Z.cf.cl (has_File_flush Z) (hr.mono (by decide)) pass0 (pa_cons (pv 5) pa_nil))) (pss_cons (ps_if (pt_cmpR (op_eqU (rm64 hr)) (pv 5) pe_int (nomark _)) (pss_one (ps_ret (pe_lst (pa_cons (pe_callH (has__law_same Z) (hr.mono (by decide)) (by rfl) pass0 (pa_cons (pv 9) (pa_cons pe_int pa_nil))) (pa_cons (pv 2) (pa_cons (pv 3) pa_nil)))))) pss_nil) (pss_one (ps_ret (pe_lst (pa_cons (pe_callH (has__law_same Z) (hr.mono (by decide)) (by rfl) pass0 (pa_cons (pv 9) (pa_cons pe_int pa_nil))) (pa_cons (pe_callH (has__law_after Z) (hr.mono (by decide)) (by rfl) pass0 (pa_cons (pv 2) (pa_cons (pv 3) pa_nil))) (pa_cons (pe_lst pa_nil) pa_nil)))))))) pss_nil) (pss_cons (ps_set (i := 7) sc__law_deed.nd rfl (by first | exact Or.inl rfl | exact Or.inr rfl) (pe_callH (has__law_next Z) (hr.mono (by decide)) (by rfl) pass0 (pa_cons (pv 0) (pa_cons (pe_op op_addU (pe_callB call_lenU (by rfl) Z.b_len (by decide +kernel) (pa_cons (pv 3) pa_nil)) pe_int) pa_nil)))) (pss_cons (ps_expr (pe_methH (pv 1) Z.cf.cl (has_File_lose Z) (hr.mono (by decide)) pass0 (pa_cons (pv 7) pa_nil))) (pss_one (ps_ret (pe_lst (pa_cons pe_bl (pa_cons (pe_callH (has__law_after Z) (hr.mono (by decide)) (by rfl) pass0 (pa_cons (pv 2) (pa_cons (pe_slice sl_U (pv 3) po_none (po_some (pv 7))) pa_nil))) (pa_cons (pe_lst pa_nil) pa_nil)))))))))))))))
    ok__law_deed
theorem has_law (Z : Facts K mg A) : Has P w K mg base CX0 11 "law" ["script"] (up (S_law K A)) :=
  Has.mk0 (t := t_law K A) Z.f_law sc_law (fun _ _ _ _ _ _ us hl => match us, hl with | [_], _ => rfl) len_law
    (fun f cdv A0 outer s H E hr => (pss_cons (ps_set (i := 1) sc_law.nd rfl (by first | exact Or.inl rfl | exact Or.inr rfl) (pe_lst (pa_cons (pe_callH (has__law_draws Z) (hr.mono (by decide)) (by rfl) pass0 (pa_cons (pv 0) pa_nil)) (pa_cons pe_int pa_nil)))) (pss_cons (ps_set (i := 2) sc_law.nd rfl (by first | exact Or.inl rfl | exact Or.inr rfl) (pe_makeH0 (has_File_init Z) (hr.mono (by decide)) (by rfl) Z.g_File pass0)) (pss_cons (ps_set (i := 3) sc_law.nd rfl (by first | exact Or.inl rfl | exact Or.inr rfl) (pe_lst pa_nil)) (pss_cons (ps_set (i := 4) sc_law.nd rfl (by first | exact Or.inl rfl | exact Or.inr rfl) (pe_lst pa_nil)) (pss_cons (ps_set (i := 5) sc_law.nd rfl (by first | exact Or.inl rfl | exact Or.inr rfl) (pe_makeH0 (has_File_init Z) (hr.mono (by decide)) (by rfl) Z.g_File pass0)) (pss_cons (ps_set (i := 6) sc_law.nd rfl (by first | exact Or.inl rfl | exact Or.inr rfl) (pe_makeH0 (has_File_init Z) (hr.mono (by decide)) (by rfl) Z.g_File pass0)) (pss_cons (ps_expr (pe_methH (pv 6) Z.cf.cl (has_File_write Z) (hr.mono (by decide)) pass0 (pa_cons (pe_lst (pa_cons pe_int (pa_cons pe_int pa_nil))) (pa_cons pe_non pa_nil)))) (pss_cons (ps_expr (pe_methH (pv 6) Z.cf.cl (has_File_flush Z) (hr.mono (by decide)) pass0 (pa_cons pe_non pa_nil))) (pss_cons (ps_expr (pe_methH (pv 6) Z.cf.cl (has_File_write Z) (hr.mono (by decide)) pass0 (pa_cons (pe_lst (pa_cons pe_int pa_nil)) (pa_cons pe_non pa_nil)))) (pss_cons (ps_for PassesOwn.never rfl (pi_range1 (by rfl) Z.b_range (pa_cons (pe_callH (has__law_next Z) (hr.mono (by decide)) (by rfl) pass0 (pa_cons (pv 1) (pa_cons pe_int pa_nil))) pa_nil)) (pg_name (i := 7) sc_law.nd rfl (by first | exact Or.inl rfl | exact Or.inr rfl)) (pss_cons (ps_if (pt_cmpR (op_eqU (rm64 hr)) (pe_callH (has__law_next Z) (hr.mono (by decide)) (by rfl) pass0 (pa_cons (pv 1) (pa_cons pe_int pa_nil))) pe_int (nomark _)) (pss_cons (ps_expr (pe_methH (pv 5) Z.cf.cl (has_File_write Z) (hr.mono (by decide)) pass0 (pa_cons (pe_lst (pa_cons (pv 7) (pa_cons (pe_op op_addU (pv 7) pe_int) (pa_cons (pe_op op_addU (pv 7) pe_int) pa_nil)))) (pa_cons pe_non pa_nil)))) (pss_cons (ps_if (PW.pt (pw_or (pt_not (pt_tru (pe_callH (has__law_same Z) (hr.mono (by decide)) (by rfl) pass0 (pa_cons (pe_methH0 (pv 5) Z.cf.cl (has_File_content Z) (hr.mono (by decide)) pass0) (pa_cons (pe_lst (pa_cons (pv 7) (pa_cons (pe_op op_addU (pv 7) pe_int) (pa_cons (pe_op op_addU (pv 7) pe_int) pa_nil)))) pa_nil))))) (pw_or1 (pt_not (pt_tru (pe_callH (has__law_same Z) (hr.mono (by decide)) (by rfl) pass0 (pa_cons (pe_methH0 (pv 5) Z.cf.cl (has_File_pending Z) (hr.mono (by decide)) pass0) (pa_cons pe_int pa_nil)))))))) (pss_one (ps_ret pe_bl)) pss_nil) (pss_cons (ps_set (i := 5) sc_law.nd rfl (by first | exact Or.inl rfl | exact Or.inr rfl) (pe_makeH0 (has_File_init Z) (hr.mono (by decide)) (by rfl) Z.g_File pass0)) (pss_one (ps_if (PW.pt (pw_or (pt_cmpR (op_neU (rm64 hr)) (pe_methH0 (pv 5) Z.cf.cl (has_File_content Z) (hr.mono (by decide)) pass0) (pe_lst pa_nil) (nomark _)) (pw_or1 (pt_not (pt_tru (pe_callH (has__law_same Z) (hr.mono (by decide)) (by rfl) pass0 (pa_cons (pe_methH0 (pv 5) Z.cf.cl (has_File_pending Z) (hr.mono (by decide)) pass0) (pa_cons pe_int pa_nil)))))))) (pss_one (ps_ret pe_bl)) pss_nil))))) pss_nil) (pss_cons (ps_asg (pe_callH (has__law_deed Z) (hr.mono (by decide)) (by rfl) pass0 (pa_cons (pv 1) (pa_cons (pv 2) (pa_cons (pv 3) (pa_cons (pv 4) pa_nil))))) (pg_lst rfl (pgs_cons (pg_name (i := 8) sc_law.nd rfl (by first | exact Or.inl rfl | exact Or.inr rfl)) (pgs_cons (pg_name (i := 3) sc_law.nd rfl (by first | exact Or.inl rfl | exact Or.inr rfl)) (pgs_cons (pg_name (i := 4) sc_law.nd rfl (by first | exact Or.inl rfl | exact Or.inr rfl)) pgs_nil))))) (pss_cons (ps_if (PW.pt (pw_or (pt_not (pt_tru (pv 8))) (pw_or1 (pt_not (pt_tru (pe_callH (has__law_same Z) (hr.mono (by decide)) (by rfl) pass0 (pa_cons (pe_methH0 (pv 2) Z.cf.cl (has_File_content Z) (hr.mono (by decide)) pass0) (pa_cons (pe_callH (has__law_after Z) (hr.mono (by decide)) (by rfl) pass0 (pa_cons (pv 3) (pa_cons (pv 4) pa_nil))) pa_nil)))))))) (pss_one (ps_ret pe_bl)) pss_nil) (pss_cons (ps_if (pt_not (pt_tru (pe_callH (has__law_same Z) (hr.mono (by decide)) (by rfl) pass0 (pa_cons (pe_methH0 (pv 2) Z.cf.cl (has_File_pending Z) (hr.mono (by decide)) pass0) (pa_cons (pe_callB call_lenU (by rfl) Z.b_len (by decide +kernel) (pa_cons (pv 4) pa_nil)) pa_nil))))) (pss_one (ps_ret pe_bl)) pss_nil) (pss_cons (ps_expr (pe_bm PySem.F.plainAttrs_list PySem.F.slot_list_append PySem.F.type_list_append mt_append (pe_methH0 (pv 2) Z.cf.cl (has_File_content Z) (hr.mono (by decide)) pass0) (pa_cons pe_int pa_nil))) (pss_one (ps_if (PW.pt (pw_and (pt_cmpR (op_eqU (rm64 hr)) (pe_callH (has__law_next Z) (hr.mono (by decide)) (by rfl) pass0 (pa_cons (pv 1) (pa_cons pe_int pa_nil))) pe_int (nomark _)) (pw_and1 (pt_not (pt_tru (pe_callH (has__law_same Z) (hr.mono (by decide)) (by rfl) pass0 (pa_cons (pe_methH0 (pv 2) Z.cf.cl (has_File_content Z) (hr.mono (by decide)) pass0) (pa_cons (pe_callH (has__law_after Z) (hr.mono (by decide)) (by rfl) pass0 (pa_cons (pv 3) (pa_cons (pv 4) pa_nil))) pa_nil)))))))) (pss_one (ps_ret pe_bl)) pss_nil)))))))) (pss_cons (ps_expr (pe_methH (pv 2) Z.cf.cl (has_File_lose Z) (hr.mono (by decide)) pass0 (pa_cons pe_int pa_nil))) (pss_cons (ps_if (PW.pt (pw_or (pt_not (pt_tru (pe_callH (has__law_same Z) (hr.mono (by decide)) (by rfl) pass0 (pa_cons (pe_methH0 (pv 6) Z.cf.cl (has_File_content Z) (hr.mono (by decide)) pass0) (pa_cons (pe_lst (pa_cons pe_int (pa_cons pe_int (pa_cons pe_int pa_nil)))) pa_nil))))) (pw_or1 (pt_not (pt_tru (pe_callH (has__law_same Z) (hr.mono (by decide)) (by rfl) pass0 (pa_cons (pe_methH0 (pv 6) Z.cf.cl (has_File_pending Z) (hr.mono (by decide)) pass0) (pa_cons pe_int pa_nil)))))))) (pss_one (ps_ret pe_bl)) pss_nil) (pss_one (ps_ret (pe_and (pe_callH (has__law_same Z) (hr.mono (by decide)) (by rfl) pass0 (pa_cons (pe_methH0 (pv 2) Z.cf.cl (has_File_content Z) (hr.mono (by decide)) pass0) (pa_cons (pv 3) pa_nil))) (pe_one (pe_callH (has__law_same Z) (hr.mono (by decide)) (by rfl) pass0 (pa_cons (pe_methH0 (pv 2) Z.cf.cl (has_File_pending Z) (hr.mono (by decide)) pass0) (pa_cons pe_int pa_nil))))))))))))))))))))
    ok_law
end
def Ad0 : Ad := ⟨(0 : Nat)⟩
theorem law_sp {K : PySem.W.Frag} {A : Ad} {H : Hp} {a : Addr} {ns : List Int} (hl : ns.length ≤ 63) (hS : SqL K H a (ns.map V.int)) : up (S_law K A) [.ref a] H (fun v _ => v = .bl true) (fun _ _ _ => False) :=
  ⟨H, fun v _ => v = .bl true, fun _ _ _ => False, Ex.refl _, ⟨a, ns, rfl, hS, hl, fun _ => rfl⟩, fun _ _ _ _ q => q, fun _ _ _ _ _ z => z⟩
theorem all_mk {l : PySem.W.OpenLaw} {w : World} {K : PySem.W.Frag} {h : Heap} {mg : Str → Option Value} {fa : Addr} (X : K.In h) (G : h.Ns mainGlobals mg) (hfa : mg "law" = some (.ref fa))
    {C_File : Addr}
    {f0 : Addr} {od0 an0 : Option Addr} {sl0 : Array (Option Value)} {oc0 kV0 dc0 pm0 cd0 ct0 : Value}
    {f1 : Addr} {od1 an1 : Option Addr} {sl1 : Array (Option Value)} {oc1 kV1 dc1 pm1 cd1 ct1 : Value}
    {f2 : Addr} {od2 an2 : Option Addr} {sl2 : Array (Option Value)} {oc2 kV2 dc2 pm2 cd2 ct2 : Value}
    {f3 : Addr} {od3 an3 : Option Addr} {sl3 : Array (Option Value)} {oc3 kV3 dc3 pm3 cd3 ct3 : Value}
    {f4 : Addr} {od4 an4 : Option Addr} {sl4 : Array (Option Value)} {oc4 kV4 dc4 pm4 cd4 ct4 : Value}
    {f5 : Addr} {od5 an5 : Option Addr} {sl5 : Array (Option Value)} {oc5 kV5 dc5 pm5 cd5 ct5 : Value}
    {f6 : Addr} {od6 an6 : Option Addr} {sl6 : Array (Option Value)} {oc6 kV6 dc6 pm6 cd6 ct6 : Value}
    {f7 : Addr} {od7 an7 : Option Addr} {sl7 : Array (Option Value)} {oc7 kV7 dc7 pm7 cd7 ct7 : Value}
    {f8 : Addr} {od8 an8 : Option Addr} {sl8 : Array (Option Value)} {oc8 kV8 dc8 pm8 cd8 ct8 : Value}
    {f9 : Addr} {od9 an9 : Option Addr} {sl9 : Array (Option Value)} {oc9 kV9 dc9 pm9 cd9 ct9 : Value}
    {f10 : Addr} {od10 an10 : Option Addr} {sl10 : Array (Option Value)} {oc10 kV10 dc10 pm10 cd10 ct10 : Value}
    {f11 : Addr} {od11 an11 : Option Addr} {sl11 : Array (Option Value)} {oc11 kV11 dc11 pm11 cd11 ct11 : Value}
    {f12 : Addr} {od12 an12 : Option Addr} {sl12 : Array (Option Value)} {oc12 kV12 dc12 pm12 cd12 ct12 : Value}
    {f13 : Addr} {od13 an13 : Option Addr} {sl13 : Array (Option Value)} {oc13 kV13 dc13 pm13 cd13 ct13 : Value}
    {f14 : Addr} {od14 an14 : Option Addr} {sl14 : Array (Option Value)} {oc14 kV14 dc14 pm14 cd14 ct14 : Value}
    {f15 : Addr} {od15 an15 : Option Addr} {sl15 : Array (Option Value)} {oc15 kV15 dc15 pm15 cd15 ct15 : Value}
    {f16 : Addr} {od16 an16 : Option Addr} {sl16 : Array (Option Value)} {oc16 kV16 dc16 pm16 cd16 ct16 : Value}
    (gC_File : PySem.W.nsIn K mainGlobals "File" = some (some (.ref C_File)))
    (pg_File : PySem.W.plainGet K C_File Str.empty = true)
    (hd_File : PySem.W.hasDictIn K C_File = true)
    (po_File : PySem.W.plainOver K C_File = true)
    (sa_File : PySem.W.findIn K (.ref C_File) "__setattr__" = some (some (.builtin "object.__setattr__")))
    (mk_File : PySem.W.makesIn K C_File = true)
    (kc_File : PySem.W.keepIn K (.ref C_File) = true)
    (n0_File : PySem.W.findIn K (.ref C_File) "_lasting" = some none)
    (n1_File : PySem.W.findIn K (.ref C_File) "_steps" = some none)
    (a0 : PySem.W.nsIn K mainGlobals "_applied" = some (some (.ref f0)))
    (l0 : K.lookup f0 = some ⟨oc0, od0, .func (PySem.W.fnOf "_applied" "_applied" (defArgs s__applied) (defBody s__applied) (defScope s__applied) .none kV0 dc0 pm0 an0 cd0 ct0), sl0⟩)
    (c0 : PySem.W.codeIn K cd0 "_applied" = true)
    (k0 : PySem.W.keepIn K (.ref f0) = true)
    (a1 : PySem.W.findIn K (.ref C_File) "__init__" = some (some (.ref f1)))
    (i1 : PySem.W.isFn K (.ref f1) = true)
    (l1 : K.lookup f1 = some ⟨oc1, od1, .func (PySem.W.fnOf "__init__" "File.__init__" (defArgs s_File_init) (defBody s_File_init) (defScope s_File_init) .none kV1 dc1 pm1 an1 cd1 ct1), sl1⟩)
    (c1 : PySem.W.codeIn K cd1 "File.__init__" = true)
    (k1 : PySem.W.keepIn K (.ref f1) = true)
    (a2 : PySem.W.findIn K (.ref C_File) "write" = some (some (.ref f2)))
    (i2 : PySem.W.isFn K (.ref f2) = true)
    (l2 : K.lookup f2 = some ⟨oc2, od2, .func (PySem.W.fnOf "write" "File.write" (defArgs s_File_write) (defBody s_File_write) (defScope s_File_write) .none kV2 dc2 pm2 an2 cd2 ct2), sl2⟩)
    (c2 : PySem.W.codeIn K cd2 "File.write" = true)
    (k2 : PySem.W.keepIn K (.ref f2) = true)
    (a3 : PySem.W.findIn K (.ref C_File) "shorten" = some (some (.ref f3)))
    (i3 : PySem.W.isFn K (.ref f3) = true)
    (l3 : K.lookup f3 = some ⟨oc3, od3, .func (PySem.W.fnOf "shorten" "File.shorten" (defArgs s_File_shorten) (defBody s_File_shorten) (defScope s_File_shorten) .none kV3 dc3 pm3 an3 cd3 ct3), sl3⟩)
    (c3 : PySem.W.codeIn K cd3 "File.shorten" = true)
    (k3 : PySem.W.keepIn K (.ref f3) = true)
    (a4 : PySem.W.findIn K (.ref C_File) "lose" = some (some (.ref f4)))
    (i4 : PySem.W.isFn K (.ref f4) = true)
    (l4 : K.lookup f4 = some ⟨oc4, od4, .func (PySem.W.fnOf "lose" "File.lose" (defArgs s_File_lose) (defBody s_File_lose) (defScope s_File_lose) .none kV4 dc4 pm4 an4 cd4 ct4), sl4⟩)
    (c4 : PySem.W.codeIn K cd4 "File.lose" = true)
    (k4 : PySem.W.keepIn K (.ref f4) = true)
    (a5 : PySem.W.findIn K (.ref C_File) "flush" = some (some (.ref f5)))
    (i5 : PySem.W.isFn K (.ref f5) = true)
    (l5 : K.lookup f5 = some ⟨oc5, od5, .func (PySem.W.fnOf "flush" "File.flush" (defArgs s_File_flush) (defBody s_File_flush) (defScope s_File_flush) .none kV5 dc5 pm5 an5 cd5 ct5), sl5⟩)
    (c5 : PySem.W.codeIn K cd5 "File.flush" = true)
    (k5 : PySem.W.keepIn K (.ref f5) = true)
    (a6 : PySem.W.findIn K (.ref C_File) "content" = some (some (.ref f6)))
    (i6 : PySem.W.isFn K (.ref f6) = true)
    (l6 : K.lookup f6 = some ⟨oc6, od6, .func (PySem.W.fnOf "content" "File.content" (defArgs s_File_content) (defBody s_File_content) (defScope s_File_content) .none kV6 dc6 pm6 an6 cd6 ct6), sl6⟩)
    (c6 : PySem.W.codeIn K cd6 "File.content" = true)
    (k6 : PySem.W.keepIn K (.ref f6) = true)
    (a7 : PySem.W.findIn K (.ref C_File) "pending" = some (some (.ref f7)))
    (i7 : PySem.W.isFn K (.ref f7) = true)
    (l7 : K.lookup f7 = some ⟨oc7, od7, .func (PySem.W.fnOf "pending" "File.pending" (defArgs s_File_pending) (defBody s_File_pending) (defScope s_File_pending) .none kV7 dc7 pm7 an7 cd7 ct7), sl7⟩)
    (c7 : PySem.W.codeIn K cd7 "File.pending" = true)
    (k7 : PySem.W.keepIn K (.ref f7) = true)
    (a8 : PySem.W.nsIn K mainGlobals "_law_mix" = some (some (.ref f8)))
    (l8 : K.lookup f8 = some ⟨oc8, od8, .func (PySem.W.fnOf "_law_mix" "_law_mix" (defArgs s__law_mix) (defBody s__law_mix) (defScope s__law_mix) .none kV8 dc8 pm8 an8 cd8 ct8), sl8⟩)
    (c8 : PySem.W.codeIn K cd8 "_law_mix" = true)
    (k8 : PySem.W.keepIn K (.ref f8) = true)
    (a9 : PySem.W.nsIn K mainGlobals "_law_draws" = some (some (.ref f9)))
    (l9 : K.lookup f9 = some ⟨oc9, od9, .func (PySem.W.fnOf "_law_draws" "_law_draws" (defArgs s__law_draws) (defBody s__law_draws) (defScope s__law_draws) .none kV9 dc9 pm9 an9 cd9 ct9), sl9⟩)
    (c9 : PySem.W.codeIn K cd9 "_law_draws" = true)
    (k9 : PySem.W.keepIn K (.ref f9) = true)
    (a10 : PySem.W.nsIn K mainGlobals "_law_at" = some (some (.ref f10)))
    (l10 : K.lookup f10 = some ⟨oc10, od10, .func (PySem.W.fnOf "_law_at" "_law_at" (defArgs s__law_at) (defBody s__law_at) (defScope s__law_at) .none kV10 dc10 pm10 an10 cd10 ct10), sl10⟩)
    (c10 : PySem.W.codeIn K cd10 "_law_at" = true)
    (k10 : PySem.W.keepIn K (.ref f10) = true)
    (a11 : PySem.W.nsIn K mainGlobals "_law_is_integer" = some (some (.ref f11)))
    (l11 : K.lookup f11 = some ⟨oc11, od11, .func (PySem.W.fnOf "_law_is_integer" "_law_is_integer" (defArgs s__law_is_integer) (defBody s__law_is_integer) (defScope s__law_is_integer) .none kV11 dc11 pm11 an11 cd11 ct11), sl11⟩)
    (c11 : PySem.W.codeIn K cd11 "_law_is_integer" = true)
    (k11 : PySem.W.keepIn K (.ref f11) = true)
    (a12 : PySem.W.nsIn K mainGlobals "_law_same" = some (some (.ref f12)))
    (l12 : K.lookup f12 = some ⟨oc12, od12, .func (PySem.W.fnOf "_law_same" "_law_same" (defArgs s__law_same) (defBody s__law_same) (defScope s__law_same) .none kV12 dc12 pm12 an12 cd12 ct12), sl12⟩)
    (c12 : PySem.W.codeIn K cd12 "_law_same" = true)
    (k12 : PySem.W.keepIn K (.ref f12) = true)
    (a13 : PySem.W.nsIn K mainGlobals "_law_next" = some (some (.ref f13)))
    (l13 : K.lookup f13 = some ⟨oc13, od13, .func (PySem.W.fnOf "_law_next" "_law_next" (defArgs s__law_next) (defBody s__law_next) (defScope s__law_next) .none kV13 dc13 pm13 an13 cd13 ct13), sl13⟩)
    (c13 : PySem.W.codeIn K cd13 "_law_next" = true)
    (k13 : PySem.W.keepIn K (.ref f13) = true)
    (a14 : PySem.W.nsIn K mainGlobals "_law_after" = some (some (.ref f14)))
    (l14 : K.lookup f14 = some ⟨oc14, od14, .func (PySem.W.fnOf "_law_after" "_law_after" (defArgs s__law_after) (defBody s__law_after) (defScope s__law_after) .none kV14 dc14 pm14 an14 cd14 ct14), sl14⟩)
    (c14 : PySem.W.codeIn K cd14 "_law_after" = true)
    (k14 : PySem.W.keepIn K (.ref f14) = true)
    (a15 : PySem.W.nsIn K mainGlobals "_law_deed" = some (some (.ref f15)))
    (l15 : K.lookup f15 = some ⟨oc15, od15, .func (PySem.W.fnOf "_law_deed" "_law_deed" (defArgs s__law_deed) (defBody s__law_deed) (defScope s__law_deed) .none kV15 dc15 pm15 an15 cd15 ct15), sl15⟩)
    (c15 : PySem.W.codeIn K cd15 "_law_deed" = true)
    (k15 : PySem.W.keepIn K (.ref f15) = true)
    (a16 : PySem.W.nsIn K mainGlobals "law" = some (some (.ref f16)))
    (l16 : K.lookup f16 = some ⟨oc16, od16, .func (PySem.W.fnOf "law" "law" (defArgs s_law) (defBody s_law) (defScope s_law) .none kV16 dc16 pm16 an16 cd16 ct16), sl16⟩)
    (c16 : PySem.W.codeIn K cd16 "law" = true)
    (k16 : PySem.W.keepIn K (.ref f16) = true)
    (z_bool : PySem.W.nsIn K mainGlobals "bool" = some none)
    (z_int : PySem.W.nsIn K mainGlobals "int" = some none)
    (z_isinstance : PySem.W.nsIn K mainGlobals "isinstance" = some none)
    (z_len : PySem.W.nsIn K mainGlobals "len" = some none)
    (z_list : PySem.W.nsIn K mainGlobals "list" = some none)
    (z_min : PySem.W.nsIn K mainGlobals "min" = some none)
    (z_range : PySem.W.nsIn K mainGlobals "range" = some none)
    (z_str : PySem.W.nsIn K mainGlobals "str" = some none)
    (z_tuple : PySem.W.nsIn K mainGlobals "tuple" = some none) :
    ∃ fd : FuncData, (∀ (s : Shared) (v : Value), BindsTo s fd ⟨[v], []⟩ [("script", v)]) ∧ ∀ base : Heap, K.In base → base.Ns mainGlobals mg → FnOk l.prog w K mg base CX0 11 fa fd ["script"] (up (S_law K Ad0)) := by
  have e := hfa.symm.trans (PySem.W.mg_of X G a16)
  cases e
  have Z : Facts K mg ⟨C_File⟩ := ⟨⟨⟨pg_File, hd_File, po_File, sa_File⟩, n0_File, n1_File⟩,
    ⟨⟨_, _, PySem.W.mg_of X G a0, fun_mk (st := s__applied) l0 c0 k0⟩⟩,
    ⟨⟨_, _, ⟨mk_File, a1, i1, kc_File⟩, fun_mk (st := s_File_init) l1 c1 k1⟩⟩,
    ⟨⟨_, _, ⟨a2, i2, k2⟩, fun_mk (st := s_File_write) l2 c2 k2⟩⟩,
    ⟨⟨_, _, ⟨a3, i3, k3⟩, fun_mk (st := s_File_shorten) l3 c3 k3⟩⟩,
    ⟨⟨_, _, ⟨a4, i4, k4⟩, fun_mk (st := s_File_lose) l4 c4 k4⟩⟩,
    ⟨⟨_, _, ⟨a5, i5, k5⟩, fun_mk (st := s_File_flush) l5 c5 k5⟩⟩,
    ⟨⟨_, _, ⟨a6, i6, k6⟩, fun_mk (st := s_File_content) l6 c6 k6⟩⟩,
    ⟨⟨_, _, ⟨a7, i7, k7⟩, fun_mk (st := s_File_pending) l7 c7 k7⟩⟩,
    ⟨⟨_, _, PySem.W.mg_of X G a8, fun_mk (st := s__law_mix) l8 c8 k8⟩⟩,
    ⟨⟨_, _, PySem.W.mg_of X G a9, fun_mk (st := s__law_draws) l9 c9 k9⟩⟩,
    ⟨⟨_, _, PySem.W.mg_of X G a10, fun_mk (st := s__law_at) l10 c10 k10⟩⟩,
    ⟨⟨_, _, PySem.W.mg_of X G a11, fun_mk (st := s__law_is_integer) l11 c11 k11⟩⟩,
    ⟨⟨_, _, PySem.W.mg_of X G a12, fun_mk (st := s__law_same) l12 c12 k12⟩⟩,
    ⟨⟨_, _, PySem.W.mg_of X G a13, fun_mk (st := s__law_next) l13 c13 k13⟩⟩,
    ⟨⟨_, _, PySem.W.mg_of X G a14, fun_mk (st := s__law_after) l14 c14 k14⟩⟩,
    ⟨⟨_, _, PySem.W.mg_of X G a15, fun_mk (st := s__law_deed) l15 c15 k15⟩⟩,
    ⟨⟨_, _, PySem.W.mg_of X G a16, fun_mk (st := s_law) l16 c16 k16⟩⟩,
    PySem.W.mg_none_of X G z_bool,
    PySem.W.mg_none_of X G z_int,
    PySem.W.mg_none_of X G z_isinstance,
    PySem.W.mg_none_of X G z_len,
    PySem.W.mg_none_of X G z_list,
    PySem.W.mg_none_of X G z_min,
    PySem.W.mg_none_of X G z_range,
    PySem.W.mg_none_of X G z_str,
    PySem.W.mg_none_of X G z_tuple,
    PySem.W.mg_of X G gC_File⟩
  refine ⟨PySem.W.fnOf "law" "law" (defArgs s_law) (defBody s_law) (defScope s_law) .none kV16 dc16 pm16 an16 cd16 ct16, fun s v => .of_eq rfl, fun base _ _ => ?_⟩
  obtain ⟨f, fd, hm, F⟩ := Z.f_law.ex
  have e := hm.symm.trans (PySem.W.mg_of X G a16)
  cases e
  exact fnok0 (S := S_law K ⟨C_File⟩) (t := t_law K ⟨C_File⟩) (fun_mk (st := s_law) l16 c16 k16) sc_law len_law (fun f cdv A0 outer s H E hr => (pss_cons (ps_set (i := 1) sc_law.nd rfl (by first | exact Or.inl rfl | exact Or.inr rfl) (pe_lst (pa_cons (pe_callH (has__law_draws Z) (hr.mono (by decide)) (by rfl) pass0 (pa_cons (pv 0) pa_nil)) (pa_cons pe_int pa_nil)))) (pss_cons (ps_set (i := 2) sc_law.nd rfl (by first | exact Or.inl rfl | exact Or.inr rfl) (pe_makeH0 (has_File_init Z) (hr.mono (by decide)) (by rfl) Z.g_File pass0)) (pss_cons (ps_set (i := 3) sc_law.nd rfl (by first | exact Or.inl rfl | exact Or.inr rfl) (pe_lst pa_nil)) (pss_cons (ps_set (i := 4) sc_law.nd rfl (by first | exact Or.inl rfl | exact Or.inr rfl) (pe_lst pa_nil)) (pss_cons (ps_set (i := 5) sc_law.nd rfl (by first | exact Or.inl rfl | exact Or.inr rfl) (pe_makeH0 (has_File_init Z) (hr.mono (by decide)) (by rfl) Z.g_File pass0)) (pss_cons (ps_set (i := 6) sc_law.nd rfl (by first | exact Or.inl rfl | exact Or.inr rfl) (pe_makeH0 (has_File_init Z) (hr.mono (by decide)) (by rfl) Z.g_File pass0)) (pss_cons (ps_expr (pe_methH (pv 6) Z.cf.cl (has_File_write Z) (hr.mono (by decide)) pass0 (pa_cons (pe_lst (pa_cons pe_int (pa_cons pe_int pa_nil))) (pa_cons pe_non pa_nil)))) (pss_cons (ps_expr (pe_methH (pv 6) Z.cf.cl (has_File_flush Z) (hr.mono (by decide)) pass0 (pa_cons pe_non pa_nil))) (pss_cons (ps_expr (pe_methH (pv 6) Z.cf.cl (has_File_write Z) (hr.mono (by decide)) pass0 (pa_cons (pe_lst (pa_cons pe_int pa_nil)) (pa_cons pe_non pa_nil)))) (pss_cons (ps_for PassesOwn.never rfl (pi_range1 (by rfl) Z.b_range (pa_cons (pe_callH (has__law_next Z) (hr.mono (by decide)) (by rfl) pass0 (pa_cons (pv 1) (pa_cons pe_int pa_nil))) pa_nil)) (pg_name (i := 7) sc_law.nd rfl (by first | exact Or.inl rfl | exact Or.inr rfl)) (pss_cons (ps_if (pt_cmpR (op_eqU (rm64 hr)) (pe_callH (has__law_next Z) (hr.mono (by decide)) (by rfl) pass0 (pa_cons (pv 1) (pa_cons pe_int pa_nil))) pe_int (nomark _)) (pss_cons (ps_expr (pe_methH (pv 5) Z.cf.cl (has_File_write Z) (hr.mono (by decide)) pass0 (pa_cons (pe_lst (pa_cons (pv 7) (pa_cons (pe_op op_addU (pv 7) pe_int) (pa_cons (pe_op op_addU (pv 7) pe_int) pa_nil)))) (pa_cons pe_non pa_nil)))) (pss_cons (ps_if (PW.pt (pw_or (pt_not (pt_tru (pe_callH (has__law_same Z) (hr.mono (by decide)) (by rfl) pass0 (pa_cons (pe_methH0 (pv 5) Z.cf.cl (has_File_content Z) (hr.mono (by decide)) pass0) (pa_cons (pe_lst (pa_cons (pv 7) (pa_cons (pe_op op_addU (pv 7) pe_int) (pa_cons (pe_op op_addU (pv 7) pe_int) pa_nil)))) pa_nil))))) (pw_or1 (pt_not (pt_tru (pe_callH (has__law_same Z) (hr.mono (by decide)) (by rfl) pass0 (pa_cons (pe_methH0 (pv 5) Z.cf.cl (has_File_pending Z) (hr.mono (by decide)) pass0) (pa_cons pe_int pa_nil)))))))) (pss_one (ps_ret pe_bl)) pss_nil) (pss_cons (ps_set (i := 5) sc_law.nd rfl (by first | exact Or.inl rfl | exact Or.inr rfl) (pe_makeH0 (has_File_init Z) (hr.mono (by decide)) (by rfl) Z.g_File pass0)) (pss_one (ps_if (PW.pt (pw_or (pt_cmpR (op_neU (rm64 hr)) (pe_methH0 (pv 5) Z.cf.cl (has_File_content Z) (hr.mono (by decide)) pass0) (pe_lst pa_nil) (nomark _)) (pw_or1 (pt_not (pt_tru (pe_callH (has__law_same Z) (hr.mono (by decide)) (by rfl) pass0 (pa_cons (pe_methH0 (pv 5) Z.cf.cl (has_File_pending Z) (hr.mono (by decide)) pass0) (pa_cons pe_int pa_nil)))))))) (pss_one (ps_ret pe_bl)) pss_nil))))) pss_nil) (pss_cons (ps_asg (pe_callH (has__law_deed Z) (hr.mono (by decide)) (by rfl) pass0 (pa_cons (pv 1) (pa_cons (pv 2) (pa_cons (pv 3) (pa_cons (pv 4) pa_nil))))) (pg_lst rfl (pgs_cons (pg_name (i := 8) sc_law.nd rfl (by first | exact Or.inl rfl | exact Or.inr rfl)) (pgs_cons (pg_name (i := 3) sc_law.nd rfl (by first | exact Or.inl rfl | exact Or.inr rfl)) (pgs_cons (pg_name (i := 4) sc_law.nd rfl (by first | exact Or.inl rfl | exact Or.inr rfl)) pgs_nil))))) (pss_cons (ps_if (PW.pt (pw_or (pt_not (pt_tru (pv 8))) (pw_or1 (pt_not (pt_tru (pe_callH (has__law_same Z) (hr.mono (by decide)) (by rfl) pass0 (pa_cons (pe_methH0 (pv 2) Z.cf.cl (has_File_content Z) (hr.mono (by decide)) pass0) (pa_cons (pe_callH (has__law_after Z) (hr.mono (by decide)) (by rfl) pass0 (pa_cons (pv 3) (pa_cons (pv 4) pa_nil))) pa_nil)))))))) (pss_one (ps_ret pe_bl)) pss_nil) (pss_cons (ps_if (pt_not (pt_tru (pe_callH (has__law_same Z) (hr.mono (by decide)) (by rfl) pass0 (pa_cons (pe_methH0 (pv 2) Z.cf.cl (has_File_pending Z) (hr.mono (by decide)) pass0) (pa_cons (pe_callB call_lenU (by rfl) Z.b_len (by decide +kernel) (pa_cons (pv 4) pa_nil)) pa_nil))))) (pss_one (ps_ret pe_bl)) pss_nil) (pss_cons (ps_expr (pe_bm PySem.F.plainAttrs_list PySem.F.slot_list_append PySem.F.type_list_append mt_append (pe_methH0 (pv 2) Z.cf.cl (has_File_content Z) (hr.mono (by decide)) pass0) (pa_cons pe_int pa_nil))) (pss_one (ps_if (PW.pt (pw_and (pt_cmpR (op_eqU (rm64 hr)) (pe_callH (has__law_next Z) (hr.mono (by decide)) (by rfl) pass0 (pa_cons (pv 1) (pa_cons pe_int pa_nil))) pe_int (nomark _)) (pw_and1 (pt_not (pt_tru (pe_callH (has__law_same Z) (hr.mono (by decide)) (by rfl) pass0 (pa_cons (pe_methH0 (pv 2) Z.cf.cl (has_File_content Z) (hr.mono (by decide)) pass0) (pa_cons (pe_callH (has__law_after Z) (hr.mono (by decide)) (by rfl) pass0 (pa_cons (pv 3) (pa_cons (pv 4) pa_nil))) pa_nil)))))))) (pss_one (ps_ret pe_bl)) pss_nil)))))))) (pss_cons (ps_expr (pe_methH (pv 2) Z.cf.cl (has_File_lose Z) (hr.mono (by decide)) pass0 (pa_cons pe_int pa_nil))) (pss_cons (ps_if (PW.pt (pw_or (pt_not (pt_tru (pe_callH (has__law_same Z) (hr.mono (by decide)) (by rfl) pass0 (pa_cons (pe_methH0 (pv 6) Z.cf.cl (has_File_content Z) (hr.mono (by decide)) pass0) (pa_cons (pe_lst (pa_cons pe_int (pa_cons pe_int (pa_cons pe_int pa_nil)))) pa_nil))))) (pw_or1 (pt_not (pt_tru (pe_callH (has__law_same Z) (hr.mono (by decide)) (by rfl) pass0 (pa_cons (pe_methH0 (pv 6) Z.cf.cl (has_File_pending Z) (hr.mono (by decide)) pass0) (pa_cons pe_int pa_nil)))))))) (pss_one (ps_ret pe_bl)) pss_nil) (pss_one (ps_ret (pe_and (pe_callH (has__law_same Z) (hr.mono (by decide)) (by rfl) pass0 (pa_cons (pe_methH0 (pv 2) Z.cf.cl (has_File_content Z) (hr.mono (by decide)) pass0) (pa_cons (pv 3) pa_nil))) (pe_one (pe_callH (has__law_same Z) (hr.mono (by decide)) (by rfl) pass0 (pa_cons (pe_methH0 (pv 2) Z.cf.cl (has_File_pending Z) (hr.mono (by decide)) pass0) (pa_cons pe_int pa_nil)))))))))))))))))))) ok_law
end Lw
open PySem PySem.W PyProof.Rows
set_option maxRecDepth 100000 in
set_option maxHeartbeats 0 in
theorem PySem.Challenge.cw_samemeant_k10_files_keep_a_beginning_holds : PySem.Challenge.rw_samemeant_k10_files_keep_a_beginning.Holds := by
  w_on; o_law; k_head; (case hw => w_witness2)
  k_fill
  refine L2.walk_of (l := PySem.Challenge.rw_samemeant_k10_files_keep_a_beginning) (n := 63) (k := 11) (x := "script") (CX := fun _ => L2.CX0) (sp := fun w => Lw.up (Lw.S_law _ Lw.Ad0)) rfl (by decide) rfl ⟨rfl, by decide, by decide⟩ (fun w h Y => PySem.W.kIn_of Y) ?F (fun _ H a ns hl _ hS => Lw.law_sp hl hS) (fun _ _ _ _ _ h => h)
  case F =>
    intro w mg fa h KX G hmg
    refine' Lw.all_mk KX G hmg ?gC_File ?pg_File ?hd_File ?po_File ?sa_File ?mk_File ?kc_File ?n0_File ?n1_File ?a0 ?l0 ?c0 ?k0 ?a1 ?i1 ?l1 ?c1 ?k1 ?a2 ?i2 ?l2 ?c2 ?k2 ?a3 ?i3 ?l3 ?c3 ?k3 ?a4 ?i4 ?l4 ?c4 ?k4 ?a5 ?i5 ?l5 ?c5 ?k5 ?a6 ?i6 ?l6 ?c6 ?k6 ?a7 ?i7 ?l7 ?c7 ?k7 ?a8 ?l8 ?c8 ?k8 ?a9 ?l9 ?c9 ?k9 ?a10 ?l10 ?c10 ?k10 ?a11 ?l11 ?c11 ?k11 ?a12 ?l12 ?c12 ?k12 ?a13 ?l13 ?c13 ?k13 ?a14 ?l14 ?c14 ?k14 ?a15 ?l15 ?c15 ?k15 ?a16 ?l16 ?c16 ?k16 ?z_bool ?z_int ?z_isinstance ?z_len ?z_list ?z_min ?z_range ?z_str ?z_tuple
    (case gC_File => k_is)
    (case pg_File => k_is)
    (case hd_File => k_is)
    (case po_File => k_is)
    (case sa_File => k_is)
    (case mk_File => k_is)
    (case kc_File => k_is)
    (case n0_File => k_is)
    (case n1_File => k_is)
    (case a0 => k_is)
    (case l0 => k_is)
    (case c0 => k_is)
    (case k0 => k_is)
    (case a1 => k_is)
    (case i1 => k_is)
    (case l1 => k_is)
    (case c1 => k_is)
    (case k1 => k_is)
    (case a2 => k_is)
    (case i2 => k_is)
    (case l2 => k_is)
    (case c2 => k_is)
    (case k2 => k_is)
    (case a3 => k_is)
    (case i3 => k_is)
    (case l3 => k_is)
    (case c3 => k_is)
    (case k3 => k_is)
    (case a4 => k_is)
    (case i4 => k_is)
    (case l4 => k_is)
    (case c4 => k_is)
    (case k4 => k_is)
    (case a5 => k_is)
    (case i5 => k_is)
    (case l5 => k_is)
    (case c5 => k_is)
    (case k5 => k_is)
    (case a6 => k_is)
    (case i6 => k_is)
    (case l6 => k_is)
    (case c6 => k_is)
    (case k6 => k_is)
    (case a7 => k_is)
    (case i7 => k_is)
    (case l7 => k_is)
    (case c7 => k_is)
    (case k7 => k_is)
    (case a8 => k_is)
    (case l8 => k_is)
    (case c8 => k_is)
    (case k8 => k_is)
    (case a9 => k_is)
    (case l9 => k_is)
    (case c9 => k_is)
    (case k9 => k_is)
    (case a10 => k_is)
    (case l10 => k_is)
    (case c10 => k_is)
    (case k10 => k_is)
    (case a11 => k_is)
    (case l11 => k_is)
    (case c11 => k_is)
    (case k11 => k_is)
    (case a12 => k_is)
    (case l12 => k_is)
    (case c12 => k_is)
    (case k12 => k_is)
    (case a13 => k_is)
    (case l13 => k_is)
    (case c13 => k_is)
    (case k13 => k_is)
    (case a14 => k_is)
    (case l14 => k_is)
    (case c14 => k_is)
    (case k14 => k_is)
    (case a15 => k_is)
    (case l15 => k_is)
    (case c15 => k_is)
    (case k15 => k_is)
    (case a16 => k_is)
    (case l16 => k_is)
    (case c16 => k_is)
    (case k16 => k_is)
    (case z_bool => k_is)
    (case z_int => k_is)
    (case z_isinstance => k_is)
    (case z_len => k_is)
    (case z_list => k_is)
    (case z_min => k_is)
    (case z_range => k_is)
    (case z_str => k_is)
    (case z_tuple => k_is)
