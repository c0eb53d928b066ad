import PyProof.Rows.All
import Wide.All
import OpenK.AllK
import Wide.FinOn
import HandS.ForMost
import HandS.ForExc
import HandS.Walk
import HandS.Steps
import HandS.Deep
import HandS.IsInst
import HandS.Wide
import HandS.SortKw
import HandS.Lambda
import HandS.More
import HandS.ExcOwn
import HandS.TryOnly
import HandS.WordsExc
import PySem.Challenge.RW_samemeant_k11_records
set_option Elab.async false
set_option linter.all false
set_option maxRecDepth 100000
set_option maxHeartbeats 1000000
namespace Lw
open PySem PySem.Spec PyProof.Rows L2

/-! ## known heaps: G is what is known of the heap H -/
def Ex (G H : Hp) : Prop := ∀ a o, G a = some o → H a = some o
theorem Ex.refl (H : Hp) : Ex H H := fun _ _ h => h
theorem Ex.trans {G H I : Hp} (a : Ex G H) (b : Ex H I) : Ex G I := fun x o h => b x o (a x o h)
theorem Ex.get {G H : Hp} {a : Addr} {o : HO} (e : Ex G H) (h : G a = some o) : H a = some o := e a o h
theorem Ex.nul {G H : Hp} {a : Addr} (e : Ex G H) (h : H a = none) : G a = none := by
  cases q : G a with
  | none => rfl
  | some o => rw [e a o q] at h; cases h
theorem Ex.new {H : Hp} {p : Addr} {o : HO} (h : H p = none) : Ex H (upd H p o) := fun a u e => by
  rw [upd_ne (ne_of_none e h)]; exact e
theorem Ex.mut {G H : Hp} {p : Addr} {o : HO} (e : Ex G H) (h : G p = none) : Ex G (upd H p o) := fun a u ha => by
  rw [upd_ne (ne_of_none ha h)]; exact e a u ha
theorem Ex.put {G H : Hp} {p : Addr} {o : HO} (e : Ex G H) : Ex (upd G p o) (upd H p o) := fun a u ha => by
  by_cases q : a = p
  · subst q; rw [upd_same] at ha ⊢; exact ha
  · rw [upd_ne q] at ha ⊢; exact e a u ha
theorem Ex.putL {G H : Hp} {p : Addr} {o : HO} (e : Ex G H) (h : H p = some o) : Ex (upd G p o) H := fun a u ha => by
  by_cases q : a = p
  · subst q; rw [upd_same] at ha; cases ha; exact h
  · rw [upd_ne q] at ha; exact e a u ha
theorem Ex.rd {G H : Hp} {a : Addr} {u : HO} (e : Ex G H) (h : Rd G a u) : Rd H a u := by
  rcases h with h | ⟨o, h⟩
  · exact .inl (e a _ h)
  · exact .inr ⟨o, e a _ h⟩
theorem Ex.sl {K : PySem.W.Frag} {G H : Hp} {a : Addr} {xs : List V} (e : Ex G H) (h : SqL K G a xs) : SqL K H a xs := by
  rcases h with h | h
  · exact .inl (e.rd h)
  · exact .inr h
theorem Ex.st {K : PySem.W.Frag} {G H : Hp} {a : Addr} {xs : List V} (e : Ex G H) (h : SqT K G a xs) : SqT K H a xs := by
  rcases h with h | h
  · exact .inl (e.rd h)
  · exact .inr h
mutual
theorem Ex.dp {K : PySem.W.Frag} {G H : Hp} (e : Ex G H) : ∀ {v : V} {d : PyData}, Dp K G v d → Dp K H v d
  | _, _, .non => .non
  | _, _, .bl b => .bl b
  | _, _, .int i => .int i
  | _, _, .str x => .str x
  | _, _, .lst s h => .lst (e.sl s) (e.dps h)
  | _, _, .tup s h => .tup (e.st s) (e.dps h)
theorem Ex.dps {K : PySem.W.Frag} {G H : Hp} (e : Ex G H) : ∀ {v : List V} {d : List PyData}, DpAll K G v d → DpAll K H v d
  | _, _, .nil => .nil
  | _, _, .cons h t => .cons (e.dp h) (e.dps t)
end

/-! ## the judgements over known heaps -/
def Ee (te : TE) (σ : L2.St) (G : Hp) (Q : V → Hp → Prop) : Prop := ∀ (H : Hp) (Q' : VK), Ex G H → (∀ v G' H', Ex G' H' → Q v G' → Q' v H') → te σ H Q'
def Et (t : TT) (σ : L2.St) (G : Hp) (Q : Bool → Hp → Prop) : Prop := ∀ (H : Hp) (Q' : Bool → Hp → Prop), Ex G H → (∀ v G' H', Ex G' H' → Q v G' → Q' v H') → t σ H Q'
def Ea (t : TA) (σ : L2.St) (G : Hp) (Q : List V → Hp → Prop) : Prop := ∀ (H : Hp) (Q' : List V → Hp → Prop), Ex G H → (∀ v G' H', Ex G' H' → Q v G' → Q' v H') → t σ H Q'
def Eo (t : TO) (σ : L2.St) (G : Hp) (Q : Option Int → Hp → Prop) : Prop := ∀ (H : Hp) (Q' : Option Int → Hp → Prop), Ex G H → (∀ v G' H', Ex G' H' → Q v G' → Q' v H') → t σ H Q'
def Er (r : R2) (x y : V) (G : Hp) (Q : V → Hp → Prop) : Prop := ∀ (H : Hp) (Q' : VK), Ex G H → (∀ v G' H', Ex G' H' → Q v G' → Q' v H') → r x y H Q'
def Eu (r : V → Hp → VK → Prop) (x : V) (G : Hp) (Q : V → Hp → Prop) : Prop := ∀ (H : Hp) (Q' : VK), Ex G H → (∀ v G' H', Ex G' H' → Q v G' → Q' v H') → r x H Q'
def Ec (r : List V → Hp → VK → Prop) (x : List V) (G : Hp) (Q : V → Hp → Prop) : Prop := ∀ (H : Hp) (Q' : VK), Ex G H → (∀ v G' H', Ex G' H' → Q v G' → Q' v H') → r x H Q'
def Em (r : V → List V → Hp → VK → Prop) (x : V) (xs : List V) (G : Hp) (Q : V → Hp → Prop) : Prop := ∀ (H : Hp) (Q' : VK), Ex G H → (∀ v G' H', Ex G' H' → Q v G' → Q' v H') → r x xs H Q'
def Ew (r : V → Option Int → Option Int → Hp → VK → Prop) (x : V) (lo hi : Option Int) (G : Hp) (Q : V → Hp → Prop) : Prop := ∀ (H : Hp) (Q' : VK), Ex G H → (∀ v G' H', Ex G' H' → Q v G' → Q' v H') → r x lo hi H Q'
def Eg (g : TG) (v : V) (σ : L2.St) (G : Hp) (Q : L2.St → Hp → Prop) : Prop := ∀ (H : Hp) (Q' : L2.St → Hp → Prop), Ex G H → (∀ σ' G' H', Ex G' H' → Q σ' G' → Q' σ' H') → g v σ H Q'
def Egs (g : TGs) (v : List V) (σ : L2.St) (G : Hp) (Q : L2.St → Hp → Prop) : Prop := ∀ (H : Hp) (Q' : L2.St → Hp → Prop), Ex G H → (∀ σ' G' H', Ex G' H' → Q σ' G' → Q' σ' H') → g v σ H Q'
def Ez (t : TSet) (o i v : V) (G : Hp) (Q : Hp → Prop) : Prop := ∀ (H : Hp) (Q' : Hp → Prop), Ex G H → (∀ G' H', Ex G' H' → Q G' → Q' H') → t o i v H Q'
def Eip (t : TIp) (x y : V) (G : Hp) (Q : V → Hp → Prop) : Prop := ∀ (H : Hp) (Q' : VK), Ex G H → (∀ v G' H', Ex G' H' → Q v G' → Q' v H') → t x y H Q'
/-- what is wanted behind a statement, over known heaps -/
structure Ek where
  nx : L2.St → Hp → Prop
  rt : V → Hp → Prop
  bk : L2.St → Hp → Prop := fun _ _ => False
  ct : L2.St → Hp → Prop := fun _ _ => False
structure Lf (D : Ek) (D' : Ends) : Prop where
  nx : ∀ σ G H, Ex G H → D.nx σ G → D'.nx σ H
  rt : ∀ v G H, Ex G H → D.rt v G → D'.rt v H
  bk : ∀ σ G H, Ex G H → D.bk σ G → D'.bk σ H
  ct : ∀ σ G H, Ex G H → D.ct σ G → D'.ct σ H
def Es (t : TS) (D : Ek) (σ : L2.St) (G : Hp) : Prop := ∀ (H : Hp) (D' : Ends), Ex G H → Lf D D' → t D' σ H

section
variable {σ : L2.St} {G G' : Hp} {Q : V → Hp → Prop} {D : Ek}
theorem Es.weak {t : TS} (e : Ex G G') (h : Es t D σ G) : Es t D σ G' := fun H D' x l => h H D' (e.trans x) l
theorem Ea.weak {t : TA} {Q : List V → Hp → Prop} (e : Ex G G') (h : Ea t σ G Q) : Ea t σ G' Q := fun H D' x l => h H D' (e.trans x) l
theorem Ee.weak {t : TE} (e : Ex G G') (h : Ee t σ G Q) : Ee t σ G' Q := fun H D' x l => h H D' (e.trans x) l
theorem Ee.mono {t : TE} {Q2 : V → Hp → Prop} (h : Ee t σ G Q) (q : ∀ v G, Q v G → Q2 v G) : Ee t σ G Q2 := fun H D' x l => h H D' x fun v G' H' e z => l v G' H' e (q v G' z)

/-! ### names, constants, arguments -/
theorem ee_var {i : Nat} {v : V} (h : σ[i]? = some (some v)) (q : Q v G) : Ee (tVar i) σ G Q := fun H Q' e l => ⟨v, h, l v G H e q⟩
theorem ee_c {v : V} (q : Q v G) : Ee (tC v) σ G Q := fun H Q' e l => l v G H e q
theorem ea_nil {Q : List V → Hp → Prop} (q : Q [] G) : Ea tNil σ G Q := fun H Q' e l => l [] G H e q
theorem ea_cons {ta : TE} {tr : TA} {Q : List V → Hp → Prop} (h : Ee ta σ G fun x G1 => Ea tr σ G1 fun xs G2 => Q (x :: xs) G2) : Ea (tCons ta tr) σ G Q := fun H Q' e l =>
  h H _ e fun x G1 H1 e1 h1 => h1 H1 _ e1 fun xs G2 H2 e2 h2 => l (x :: xs) G2 H2 e2 h2
/-! ### operators -/
theorem ee_op {r : R2} {ta tb : TE} (h : Ee ta σ G fun x G1 => Ee tb σ G1 fun y G2 => Er r x y G2 Q) : Ee (tOp r ta tb) σ G Q := fun H Q' e l =>
  h H _ e fun x G1 H1 e1 h1 => h1 H1 _ e1 fun y G2 H2 e2 h2 => h2 H2 Q' e2 l
theorem ee_un {r : V → Hp → VK → Prop} {ta : TE} (h : Ee ta σ G fun x G1 => Eu r x G1 Q) : Ee (tUn r ta) σ G Q := fun H Q' e l =>
  h H _ e fun x G1 H1 e1 h1 => h1 H1 Q' e1 l
theorem eu_neg {i : Int} (q : Q (.int (-i)) G) : Eu (rU fun i => .int (-i)) (.int i) G Q := fun H Q' e l => ⟨i, rfl, l _ G H e q⟩
theorem er_I0 {g : Int → Int → V} {i j : Int} (q : Q (g i j) G) : Er (rI0 g) (.int i) (.int j) G Q := fun H Q' e l => ⟨i, j, rfl, rfl, l _ G H e q⟩
theorem er_I {C : Int → Int → Prop} {g : Int → Int → V} {i j : Int} (c : C i j) (q : Q (g i j) G) : Er (rI C g) (.int i) (.int j) G Q := fun H Q' e l => ⟨i, j, rfl, rfl, c, l _ G H e q⟩
/-- by cases -/
def rOr (r r' : R2) : R2 := fun x y H Q => r x y H Q ∨ r' x y H Q
theorem er_orL {r r' : R2} {x y : V} (h : Er r x y G Q) : Er (rOr r r') x y G Q := fun H Q' e l => .inl (h H Q' e l)
theorem er_orR {r r' : R2} {x y : V} (h : Er r' x y G Q) : Er (rOr r r') x y G Q := fun H Q' e l => .inr (h H Q' e l)
theorem opr_or {X : Cx} {f : Value → Value → Sem Value} {r r' : R2} (h : OpR X f r) (h' : OpR X f r') : OpR X f (rOr r r') := h.or h'
/-! plus -/
def rIAdd : R2 := rI0 fun i j => .int (i + j)
def rSAdd : R2 := fun x y H Q => ∃ i j, x = .str i ∧ y = .str j ∧ i.length + j.length ≤ sizeLine ∧ Q (.str (i ++ j)) H
def rAddU (K : PySem.W.Frag) : R2 := rOr rIAdd (rOr rSAdd (rOr rCat (rCatT K)))
theorem op_addU {X : Cx} : OpR X (binaryOp .Add) (rAddU X.K) := opr_or op_add (opr_or op_add_str (opr_or op_cat op_catT))
theorem er_addI {K : PySem.W.Frag} {i j : Int} (q : Q (.int (i + j)) G) : Er (rAddU K) (.int i) (.int j) G Q := er_orL (er_I0 (g := fun i j => .int (i + j)) q)
theorem er_addS {K : PySem.W.Frag} {i j : Str} (hz : i.length + j.length ≤ sizeLine) (q : Q (.str (i ++ j)) G) : Er (rAddU K) (.str i) (.str j) G Q :=
  er_orR (er_orL fun H Q' e l => ⟨i, j, rfl, rfl, hz, l _ G H e q⟩)
theorem er_addL {K : PySem.W.Frag} {a b : Addr} {xs ys : List V} (ha : G a = some (.lst xs)) (hb : G b = some (.lst ys)) (hz : xs.length + ys.length ≤ sizeLine) (q : ∀ p, G p = none → Q (.ref p) (upd G p (.lst (xs ++ ys)))) :
    Er (rAddU K) (.ref a) (.ref b) G Q :=
  er_orR (er_orR (er_orL fun H Q' e l => ⟨a, b, xs, ys, rfl, rfl, e _ _ ha, e _ _ hb, hz, fun p hp => l _ _ _ e.put (q p (e.nul hp))⟩))
theorem er_addT {K : PySem.W.Frag} {a b : Addr} {xs ys : List V} (ha : SqT K G a xs) (hb : SqT K G b ys) (hx : xs ≠ []) (hy : ys ≠ []) (hz : xs.length + ys.length ≤ sizeLine) (q : ∀ p, G p = none → Q (.ref p) (upd G p (.tup (xs ++ ys)))) :
    Er (rAddU K) (.ref a) (.ref b) G Q :=
  er_orR (er_orR (er_orR fun H Q' e l => ⟨a, b, xs, ys, rfl, rfl, e.st ha, e.st hb, hx, hz, fun h => absurd h hy, fun _ p hp => l _ _ _ e.put (q p (e.nul hp))⟩))
/-! minus, times, floor, rest, power -/
def rSubI : R2 := rI0 fun i j => .int (i - j)
theorem op_subI {X : Cx} : OpR X (binaryOp .Sub) rSubI := op_sub
theorem er_subI {i j : Int} (q : Q (.int (i - j)) G) : Er rSubI (.int i) (.int j) G Q := er_I0 (g := fun i j => .int (i - j)) q
def rMulI : R2 := rOr (rI CMul fun i j => .int (i * j)) (rI CMulW fun i j => .int (i * j))
def rMulU : R2 := rOr rMulI rRep
theorem op_mulU {X : Cx} : OpR X (binaryOp .Mult) rMulU := opr_or (opr_or op_mul op_mulW) op_rep
theorem er_mulL {i j : Int} (h : -(2 ^ 64) < i ∧ i < 2 ^ 64) (q : Q (.int (i * j)) G) : Er rMulU (.int i) (.int j) G Q := er_orL (er_orL (er_I (C := CMul) (g := fun i j => .int (i * j)) (.inl h) q))
theorem er_mulR {i j : Int} (h : -(2 ^ 64) < j ∧ j < 2 ^ 64) (q : Q (.int (i * j)) G) : Er rMulU (.int i) (.int j) G Q := er_orL (er_orL (er_I (C := CMul) (g := fun i j => .int (i * j)) (.inr h) q))
theorem er_mulW {i j : Int} (h : CMulW i j) (q : Q (.int (i * j)) G) : Er rMulU (.int i) (.int j) G Q := er_orL (er_orR (er_I (C := CMulW) (g := fun i j => .int (i * j)) h q))
theorem er_rep {a : Addr} {k : Int} {xs : List V} (ha : G a = some (.lst xs)) (h1 : -(2 ^ 63) ≤ k) (h2 : k < 2 ^ 63) (hz : xs.length * k.toNat ≤ sizeLine) (q : ∀ p, G p = none → Q (.ref p) (upd G p (.lst (List.replicate k.toNat xs).flatten))) :
    Er rMulU (.ref a) (.int k) G Q := er_orR fun H Q' e l => ⟨a, k, xs, rfl, rfl, e _ _ ha, h1, h2, hz, fun p hp => l _ _ _ e.put (q p (e.nul hp))⟩
def rDivU : R2 := rOr (rI CDiv fun i j => .int (i / j)) (rI CDivW fun i j => .int (i / j))
theorem op_divU {X : Cx} : OpR X (binaryOp .FloorDiv) rDivU := opr_or op_fdiv op_fdivW
theorem er_div {i j : Int} (h : 0 < j ∧ j < 1073741824) (q : Q (.int (i / j)) G) : Er rDivU (.int i) (.int j) G Q := er_orL (er_I (C := CDiv) (g := fun i j => .int (i / j)) h q)
theorem er_divW {i j : Int} (h : CDivW i j) (q : Q (.int (i / j)) G) : Er rDivU (.int i) (.int j) G Q := er_orR (er_I (C := CDivW) (g := fun i j => .int (i / j)) h q)
def rModU : R2 := rI (fun _ j => 0 < j) fun i j => .int (i % j)
theorem op_modU {X : Cx} : OpR X (binaryOp .Mod) rModU := op_mod
theorem er_mod {i j : Int} (h : 0 < j) (q : Q (.int (i % j)) G) : Er rModU (.int i) (.int j) G Q := er_I (C := fun _ j => 0 < j) (g := fun i j => .int (i % j)) h q
def rPowU : R2 := rI CPow fun i j => .int (i ^ j.toNat)
theorem op_powU {X : Cx} : OpR X (binaryOp .Pow) rPowU := op_pow
theorem er_pow {i j : Int} (h : 0 ≤ j ∧ j ≤ 1000000 ∧ i.natAbs < 2 ^ 64) (q : Q (.int (i ^ j.toNat)) G) : Er rPowU (.int i) (.int j) G Q := er_I (C := CPow) (g := fun i j => .int (i ^ j.toNat)) h q
/-! comparisons -/
def rEqU (K : PySem.W.Frag) : R2 := rOr rEq (rEqD K)
def rNeU (K : PySem.W.Frag) : R2 := rOr rNe (rNeD K)
theorem op_eqU {X : Cx} (hu : X.A.units + 64 < cLine) : OpR X (compareOp .Eq) (rEqU X.K) := opr_or op_eq (op_eqD hu)
theorem op_neU {X : Cx} (hu : X.A.units + 64 < cLine) : OpR X (compareOp .NotEq) (rNeU X.K) := opr_or op_ne (op_neD hu)
theorem er_eqI {K : PySem.W.Frag} {i j : Int} (q : Q (.bl (decide (i = j))) G) : Er (rEqU K) (.int i) (.int j) G Q := er_orL fun H Q' e l => ⟨rfl, l _ G H e (by
  rw [show decide (V.int i = V.int j) = decide (i = j) by rw [dec_int]; exact Bool.beq_eq_decide_eq i j]; exact q)⟩
theorem er_neI {K : PySem.W.Frag} {i j : Int} (q : Q (.bl (!decide (i = j))) G) : Er (rNeU K) (.int i) (.int j) G Q := er_orL fun H Q' e l => ⟨rfl, l _ G H e (by
  rw [show decide (V.int i = V.int j) = decide (i = j) by rw [dec_int]; exact Bool.beq_eq_decide_eq i j]; exact q)⟩
theorem er_eqS {K : PySem.W.Frag} {i j : Str} (q : Q (.bl (decide (i = j))) G) : Er (rEqU K) (.str i) (.str j) G Q := er_orL fun H Q' e l => ⟨rfl, l _ G H e (by
  rw [show decide (V.str i = V.str j) = decide (i = j) by by_cases h : i = j <;> simp [h]]; exact q)⟩
theorem er_neS {K : PySem.W.Frag} {i j : Str} (q : Q (.bl (!decide (i = j))) G) : Er (rNeU K) (.str i) (.str j) G Q := er_orL fun H Q' e l => ⟨rfl, l _ G H e (by
  rw [show decide (V.str i = V.str j) = decide (i = j) by by_cases h : i = j <;> simp [h]]; exact q)⟩
theorem er_eqB {K : PySem.W.Frag} {i j : Bool} (q : Q (.bl (decide (i = j))) G) : Er (rEqU K) (.bl i) (.bl j) G Q := er_orL fun H Q' e l => ⟨rfl, l _ G H e (by
  rw [show decide (V.bl i = V.bl j) = decide (i = j) by by_cases h : i = j <;> simp [h]]; exact q)⟩
theorem er_neB {K : PySem.W.Frag} {i j : Bool} (q : Q (.bl (!decide (i = j))) G) : Er (rNeU K) (.bl i) (.bl j) G Q := er_orL fun H Q' e l => ⟨rfl, l _ G H e (by
  rw [show decide (V.bl i = V.bl j) = decide (i = j) by by_cases h : i = j <;> simp [h]]; exact q)⟩
theorem er_eqD {K : PySem.W.Frag} {x y : V} {d d' : PyData} (h : Dp K G x d) (h' : Dp K G y d') (s : SeqAt.shaped d = true) (s' : SeqAt.shaped d' = true) (q : Q (.bl (PyData.eqv d d')) G) : Er (rEqU K) x y G Q :=
  er_orR fun H Q' e l => ⟨d, d', e.dp h, e.dp h', s, s', l _ G H e q⟩
theorem er_neD {K : PySem.W.Frag} {x y : V} {d d' : PyData} (h : Dp K G x d) (h' : Dp K G y d') (s : SeqAt.shaped d = true) (s' : SeqAt.shaped d' = true) (q : Q (.bl (!PyData.eqv d d')) G) : Er (rNeU K) x y G Q :=
  er_orR fun H Q' e l => ⟨d, d', e.dp h, e.dp h', s, s', l _ G H e q⟩
def rLtI : R2 := rI0 fun i j => .bl (decide (i < j))
def rLeI : R2 := rI0 fun i j => .bl (decide (i ≤ j))
def rGtI : R2 := rI0 fun i j => .bl (decide (j < i))
def rGeI : R2 := rI0 fun i j => .bl (decide (j ≤ i))
def rLtU (K : PySem.W.Frag) : R2 := rOr rLtI (rLtT K)
theorem op_ltU {X : Cx} (hu : X.A.units < cLine) : OpR X (compareOp .Lt) (rLtU X.K) := opr_or op_lt (op_ltT hu)
theorem op_leU {X : Cx} : OpR X (compareOp .LtE) rLeI := op_le
theorem op_gtU {X : Cx} : OpR X (compareOp .Gt) rGtI := op_gt
theorem op_geU {X : Cx} : OpR X (compareOp .GtE) rGeI := op_ge
theorem er_lt {K : PySem.W.Frag} {i j : Int} (q : Q (.bl (decide (i < j))) G) : Er (rLtU K) (.int i) (.int j) G Q := er_orL (er_I0 (g := fun i j => .bl (decide (i < j))) q)
theorem er_le {i j : Int} (q : Q (.bl (decide (i ≤ j))) G) : Er rLeI (.int i) (.int j) G Q := er_I0 (g := fun i j => .bl (decide (i ≤ j))) q
theorem er_gt {i j : Int} (q : Q (.bl (decide (j < i))) G) : Er rGtI (.int i) (.int j) G Q := er_I0 (g := fun i j => .bl (decide (j < i))) q
theorem er_ge {i j : Int} (q : Q (.bl (decide (j ≤ i))) G) : Er rGeI (.int i) (.int j) G Q := er_I0 (g := fun i j => .bl (decide (j ≤ i))) q
theorem er_isN {x : V} (q : Q (.bl (decide (x = .non))) G) : Er rIsN x .non G Q := fun H Q' e l => ⟨rfl, l _ G H e q⟩
theorem er_notN {x : V} (q : Q (.bl (!decide (x = .non))) G) : Er rNotN x .non G Q := fun H Q' e l => ⟨rfl, l _ G H e q⟩
def rInU (K : PySem.W.Frag) : R2 := rOr (rIn K false) (rInD K)
def rNotInU (K : PySem.W.Frag) : R2 := rOr (rIn K true) (rNotInD K)
theorem op_inU {X : Cx} (hu : X.A.units + 65 < cLine) : OpR X (compareOp .In) (rInU X.K) := opr_or op_in_seq (op_inD hu)
theorem op_notInU {X : Cx} (hu : X.A.units + 65 < cLine) : OpR X (compareOp .NotIn) (rNotInU X.K) := opr_or op_notIn_seq (op_notInD hu)
theorem er_in {K : PySem.W.Frag} {x : V} {p : Addr} {xs : List V} (h : SqL K G p xs ∨ SqT K G p xs) (fx : flatV x = true) (fs : xs.all flatV = true) (q : Q (.bl (inV x xs)) G) : Er (rInU K) x (.ref p) G Q :=
  er_orL fun H Q' e l => ⟨p, xs, rfl, h.elim (fun z => .inl (e.sl z)) (fun z => .inr (e.st z)), fx, fs, l _ G H e q⟩
theorem er_notIn {K : PySem.W.Frag} {x : V} {p : Addr} {xs : List V} (h : SqL K G p xs ∨ SqT K G p xs) (fx : flatV x = true) (fs : xs.all flatV = true) (q : Q (.bl (!inV x xs)) G) : Er (rNotInU K) x (.ref p) G Q :=
  er_orL fun H Q' e l => ⟨p, xs, rfl, h.elim (fun z => .inl (e.sl z)) (fun z => .inr (e.st z)), fx, fs, l _ G H e q⟩
theorem er_inD {K : PySem.W.Frag} {x y : V} {d : PyData} {ds : List PyData} (h : Dp K G x d) (h' : Dp K G y (.list ds)) (s : SeqAt.shaped d = true) (s' : SeqAt.shaped (.list ds) = true) (q : Q (.bl (ds.any fun z => PyData.eqv z d)) G) : Er (rInU K) x y G Q :=
  er_orR fun H Q' e l => ⟨d, ds, e.dp h, e.dp h', s, s', l _ G H e q⟩
theorem er_notInD {K : PySem.W.Frag} {x y : V} {d : PyData} {ds : List PyData} (h : Dp K G x d) (h' : Dp K G y (.list ds)) (s : SeqAt.shaped d = true) (s' : SeqAt.shaped (.list ds) = true) (q : Q (.bl (!ds.any fun z => PyData.eqv z d)) G) : Er (rNotInU K) x y G Q :=
  er_orR fun H Q' e l => ⟨d, ds, e.dp h, e.dp h', s, s', l _ G H e q⟩
/-! subscripts -/
theorem er_ixL {K : PySem.W.Frag} {p : Addr} {i : Int} {xs : List V} {v : V} (h : SqL K G p xs) (a : atI xs i = some v) (q : Q v G) : Er (rIx K) (.ref p) (.int i) G Q :=
  fun H Q' e l => .inl ⟨p, xs, i, v, rfl, rfl, e.sl h, a, l _ G H e q⟩
theorem er_ixT {K : PySem.W.Frag} {p : Addr} {i : Int} {xs : List V} {v : V} (h : SqT K G p xs) (a : atI xs i = some v) (q : Q v G) : Er (rIx K) (.ref p) (.int i) G Q :=
  fun H Q' e l => .inr (.inl ⟨p, xs, i, v, rfl, rfl, e.st h, a, l _ G H e q⟩)
theorem er_ixS {K : PySem.W.Frag} {z : Str} {i : Int} {c : Nat} (h : z.length ≤ sizeLine) (a : atI z.cps.toList i = some c) (q : Q (.str ⟨#[c]⟩) G) : Er (rIx K) (.str z) (.int i) G Q :=
  fun H Q' e l => .inr (.inr ⟨z, i, c, rfl, rfl, h, a, l _ G H e q⟩)
/-! slices -/
def rwOr (r r' : V → Option Int → Option Int → Hp → VK → Prop) : V → Option Int → Option Int → Hp → VK → Prop := fun x lo hi H Q => r x lo hi H Q ∨ r' x lo hi H Q
def rSlU (K : PySem.W.Frag) := rwOr (rSlL K) rSlS
theorem sl_U {X : Cx} : SlR X (rSlU X.K) := sl_list.or sl_str
theorem ee_sl {r : V → Option Int → Option Int → Hp → VK → Prop} {te : TE} {tl th : TO} (h : Ee te σ G fun x G1 => Eo tl σ G1 fun lo G2 => Eo th σ G2 fun hi G3 => Ew r x lo hi G3 Q) : Ee (tSl r te tl th) σ G Q := fun H Q' e l =>
  h H _ e fun x G1 H1 e1 h1 => h1 H1 _ e1 fun lo G2 H2 e2 h2 => h2 H2 _ e2 fun hi G3 H3 e3 h3 => h3 H3 Q' e3 l
theorem eo_no {Q : Option Int → Hp → Prop} (q : Q none G) : Eo tNoPart σ G Q := fun H Q' e l => l none G H e q
theorem eo_part {t : TE} {Q : Option Int → Hp → Prop} (h : Ee t σ G fun x G1 => ∃ i, x = .int i ∧ Q (some i) G1) : Eo (tPart t) σ G Q := fun H Q' e l =>
  h H _ e fun x G1 H1 e1 ⟨i, hx, q⟩ => ⟨i, hx, l (some i) G1 H1 e1 q⟩
theorem ew_L {K : PySem.W.Frag} {a : Addr} {xs : List V} {lo hi : Option Int} (h : SqL K G a xs) (q : ∀ p, G p = none → Q (.ref p) (upd G p (.lst (cutV xs lo hi)))) : Ew (rSlU K) (.ref a) lo hi G Q :=
  fun H Q' e l => .inl ⟨a, xs, rfl, e.sl h, fun p hp => l _ _ _ e.put (q p (e.nul hp))⟩
theorem ew_S {K : PySem.W.Frag} {z : Str} {lo hi : Option Int} (h : z.length ≤ sizeLine) (q : Q (.str (cutS z lo hi)) G) : Ew (rSlU K) (.str z) lo hi G Q :=
  fun H Q' e l => .inr ⟨z, rfl, h, l _ G H e q⟩
/-! displays -/
theorem ee_tup {t : TA} (h : Ea t σ G fun xs G1 => xs.length ≤ sizeLine ∧ ∀ p, G1 p = none → Q (.ref p) (upd G1 p (.tup xs))) : Ee (tTup t) σ G Q := fun H Q' e l =>
  h H _ e fun xs G1 H1 e1 ⟨z, q⟩ => ⟨z, fun p hp => l _ _ _ e1.put (q p (e1.nul hp))⟩
theorem ee_lst {t : TA} (h : Ea t σ G fun xs G1 => xs.length ≤ sizeLine ∧ ∀ p, G1 p = none → Q (.ref p) (upd G1 p (.lst xs))) : Ee (tLst t) σ G Q := fun H Q' e l =>
  h H _ e fun xs G1 H1 e1 ⟨z, q⟩ => ⟨z, fun p hp => l _ _ _ e1.put (q p (e1.nul hp))⟩
/-! tests -/
theorem et_test {te : TE} {Q : Bool → Hp → Prop} (h : Ee te σ G fun v G1 => ∃ b, v = .bl b ∧ Q b G1) : Et (tTest te) σ G Q := fun H Q' e l =>
  h H _ e fun v G1 H1 e1 ⟨b, hb, q⟩ => ⟨b, hb, l b G1 H1 e1 q⟩
theorem et_tB {te : TE} {Q : Bool → Hp → Prop} (h : Ee te σ G fun v G1 => ∃ b, v = .bl b ∧ Q b G1) : Et (tB te) σ G Q := fun H Q' e l =>
  h H _ e fun v G1 H1 e1 ⟨b, hb, q⟩ => ⟨b, hb, l b G1 H1 e1 q⟩
theorem et_and {t u : TT} {Q : Bool → Hp → Prop} (h : Et t σ G fun b G1 => if b = true then Et u σ G1 Q else Q false G1) : Et (tAnd t u) σ G Q := fun H Q' e l =>
  h H _ e fun b G1 H1 e1 h1 => by
    cases b with
    | true => exact h1 H1 Q' e1 l
    | false => exact l false G1 H1 e1 h1
theorem et_or {t u : TT} {Q : Bool → Hp → Prop} (h : Et t σ G fun b G1 => if b = true then Q true G1 else Et u σ G1 Q) : Et (tOr t u) σ G Q := fun H Q' e l =>
  h H _ e fun b G1 H1 e1 h1 => by
    cases b with
    | true => exact l true G1 H1 e1 h1
    | false => exact h1 H1 Q' e1 l
theorem et_not {t : TT} {Q : Bool → Hp → Prop} (h : Et t σ G fun b G1 => Q (!b) G1) : Et (tNot t) σ G Q := fun H Q' e l =>
  h H _ e fun b G1 H1 e1 h1 => l (!b) G1 H1 e1 h1
theorem truv_up {K : PySem.W.Frag} {x : V} {G H : Hp} {k : Bool} (e : Ex G H) (h : TruV K x G k) : TruV K x H k := by
  cases x with
  | ref p =>
    rcases h with ⟨xs, s, q⟩ | ⟨xs, s, q⟩ | ⟨kvs, s, q⟩
    · exact .inl ⟨xs, e.sl s, q⟩
    · exact .inr (.inl ⟨xs, e.st s, q⟩)
    · exact .inr (.inr ⟨kvs, e _ _ s, q⟩)
  | _ => exact h
theorem et_tru {K : PySem.W.Frag} {ta : TE} {Q : Bool → Hp → Prop} (h : Ee ta σ G fun x G1 => ∃ k, TruV K x G1 k ∧ Q k G1) : Et (tTru K ta) σ G Q := fun H Q' e l =>
  h H _ e fun x G1 H1 e1 ⟨k, hk, q⟩ => ⟨k, truv_up e1 hk, l k G1 H1 e1 q⟩
theorem pt_tru {X : Cx} {a : Expr} {ta : TE} (ha : PE X a ta) (he : ∀ whole, isTrue a X.env whole = (do let v ← whole; standAt a.pos; holding [v] (truthy v)) := by intro _; rfl) : PT X a (tTru X.K ta) := pt_truth ha he
/-! values of and, or, not, if -/
theorem ee_and {ta tb : TE} (h : Ee ta σ G fun x G1 => ∃ b, x = .bl b ∧ if b = true then Ee tb σ G1 Q else Q (.bl false) G1) : Ee (tAndV ta tb) σ G Q := fun H Q' e l =>
  h H _ e fun x G1 H1 e1 ⟨b, hb, h1⟩ => ⟨b, hb, by
    cases b with
    | true => exact h1 H1 Q' e1 l
    | false => exact l _ G1 H1 e1 h1⟩
theorem ee_or {ta tb : TE} (h : Ee ta σ G fun x G1 => ∃ b, x = .bl b ∧ if b = true then Q (.bl true) G1 else Ee tb σ G1 Q) : Ee (tOrV ta tb) σ G Q := fun H Q' e l =>
  h H _ e fun x G1 H1 e1 ⟨b, hb, h1⟩ => ⟨b, hb, by
    cases b with
    | true => exact l _ G1 H1 e1 h1
    | false => exact h1 H1 Q' e1 l⟩
theorem ee_not {ta : TE} (h : Ee ta σ G fun x G1 => ∃ b, x = .bl b ∧ Q (.bl (!b)) G1) : Ee (tNotV ta) σ G Q := fun H Q' e l =>
  h H _ e fun x G1 H1 e1 ⟨b, hb, h1⟩ => ⟨b, hb, l _ G1 H1 e1 h1⟩
theorem ee_if {t : TT} {ta tb : TE} (h : Et t σ G fun b G1 => if b = true then Ee ta σ G1 Q else Ee tb σ G1 Q) : Ee (tIf t ta tb) σ G Q := fun H Q' e l =>
  h H _ e fun b G1 H1 e1 h1 => by
    cases b with
    | true => exact h1 H1 Q' e1 l
    | false => exact h1 H1 Q' e1 l
/-- two comparisons in a chain -/
theorem ee_chain {r r' : R2} {ta tb tc : TE} (h : Ee ta σ G fun x G1 => Ee tb σ G1 fun y G2 => Er r x y G2 fun z G3 => ∃ k, z = .bl k ∧ if k = true then Ee tc σ G3 fun w G4 => Er r' y w G4 Q else Q (.bl false) G3) : Ee (tChain r r' ta tb tc) σ G Q := fun H Q' e l =>
  h H _ e fun x G1 H1 e1 h1 => h1 H1 _ e1 fun y G2 H2 e2 h2 => h2 H2 _ e2 fun z G3 H3 e3 ⟨k, hk, h3⟩ => ⟨k, hk, by
    cases k with
    | true => exact h3 H3 _ e3 fun w G4 H4 e4 h4 => h4 H4 Q' e4 l
    | false => exact l _ G3 H3 e3 h3⟩
/-! calls of builtins, methods of builtins -/
theorem ee_cb {r : List V → Hp → VK → Prop} {t : TA} (h : Ea t σ G fun vs G1 => Ec r vs G1 Q) : Ee (tCB r t) σ G Q := fun H Q' e l =>
  h H _ e fun vs G1 H1 e1 h1 => h1 H1 Q' e1 l
def rcOr (r r' : List V → Hp → VK → Prop) : List V → Hp → VK → Prop := fun xs H Q => r xs H Q ∨ r' xs H Q
theorem ec_orL {r r' : List V → Hp → VK → Prop} {x : List V} (h : Ec r x G Q) : Ec (rcOr r r') x G Q := fun H Q' e l => .inl (h H Q' e l)
theorem ec_orR {r r' : List V → Hp → VK → Prop} {x : List V} (h : Ec r' x G Q) : Ec (rcOr r r') x G Q := fun H Q' e l => .inr (h H Q' e l)
def rLenU (K : PySem.W.Frag) : List V → Hp → VK → Prop := fun xs H Q => ∃ x n, xs = [x] ∧ LenV K x H n ∧ (n ≤ sizeLine → Q (.int n) H)
theorem call_lenU {X : Cx} : CallR X (.builtin "len") (rLenU X.K) := by
  intro pins s σ H xs us Q I r h
  obtain ⟨x, n, rfl, hL, q⟩ := h
  have hn : n ≤ sizeLine := by
    cases x with
    | str y => exact hL.2 ▸ hL.1
    | byt y => exact hL.2 ▸ hL.1
    | ref p =>
      rcases hL with ⟨xs, h, rfl⟩ | ⟨xs, h, rfl⟩
      · obtain ⟨_, _, _, z⟩ := I.list h; exact z
      · obtain ⟨_, _, _, z⟩ := I.tuple h; exact z
    | _ => exact hL.elim
  exact call_len pins s σ H _ us Q I r ⟨x, n, rfl, hL, q hn⟩
theorem ec_lenL {K : PySem.W.Frag} {p : Addr} {xs : List V} (h : SqL K G p xs) (q : xs.length ≤ sizeLine → Q (.int xs.length) G) : Ec (rLenU K) [.ref p] G Q := fun H Q' e l => ⟨_, _, rfl, .inl ⟨xs, e.sl h, rfl⟩, fun z => l _ G H e (q z)⟩
theorem ec_lenT {K : PySem.W.Frag} {p : Addr} {xs : List V} (h : SqT K G p xs) (q : xs.length ≤ sizeLine → Q (.int xs.length) G) : Ec (rLenU K) [.ref p] G Q := fun H Q' e l => ⟨_, _, rfl, .inr ⟨xs, e.st h, rfl⟩, fun z => l _ G H e (q z)⟩
theorem ec_lenS {K : PySem.W.Frag} {z : Str} (h : z.length ≤ sizeLine) (q : Q (.int z.length) G) : Ec (rLenU K) [.str z] G Q := fun H Q' e l => ⟨_, _, rfl, ⟨h, rfl⟩, fun _ => l _ G H e q⟩
def rInt1 : List V → Hp → VK → Prop := fun xs H Q => (∃ i, xs = [.int i] ∧ Q (.int i) H) ∨ ∃ k, xs = [.bl k] ∧ Q (.int (if k then 1 else 0)) H
theorem call_intU {X : Cx} : CallR X (.type "int") rInt1 := call_int1
theorem ec_int {i : Int} (q : Q (.int i) G) : Ec rInt1 [.int i] G Q := fun H Q' e l => .inl ⟨i, rfl, l _ G H e q⟩
theorem ec_intB {k : Bool} (q : Q (.int (if k then 1 else 0)) G) : Ec rInt1 [.bl k] G Q := fun H Q' e l => .inr ⟨k, rfl, l _ G H e q⟩
def rListU (K : PySem.W.Frag) : List V → Hp → VK → Prop := fun xs H Q => ∃ p ys, xs = [.ref p] ∧ (SqL K H p ys ∨ SqT K H p ys) ∧ ∀ l, H l = none → Q (.ref l) (upd H l (.lst ys))
theorem call_listU {X : Cx} : CallR X (.type "list") (rListU X.K) := call_list_of
theorem ec_list {K : PySem.W.Frag} {p : Addr} {ys : List V} (h : SqL K G p ys ∨ SqT K G p ys) (q : ∀ l, G l = none → Q (.ref l) (upd G l (.lst ys))) : Ec (rListU K) [.ref p] G Q := fun H Q' e l =>
  ⟨p, ys, rfl, h.elim (fun z => .inl (e.sl z)) (fun z => .inr (e.st z)), fun a ha => l _ _ _ e.put (q a (e.nul ha))⟩
def rTupU (K : PySem.W.Frag) : List V → Hp → VK → Prop := fun xs H Q => ∃ p ys, xs = [.ref p] ∧ ((SqL K H p ys ∧ ∀ l, H l = none → Q (.ref l) (upd H l (.tup ys))) ∨ (SqT K H p ys ∧ Q (.ref p) H))
theorem call_tupU {X : Cx} : CallR X (.type "tuple") (rTupU X.K) := call_tuple_of
theorem ec_tupL {K : PySem.W.Frag} {p : Addr} {ys : List V} (h : SqL K G p ys) (q : ∀ l, G l = none → Q (.ref l) (upd G l (.tup ys))) : Ec (rTupU K) [.ref p] G Q := fun H Q' e l =>
  ⟨p, ys, rfl, .inl ⟨e.sl h, fun a ha => l _ _ _ e.put (q a (e.nul ha))⟩⟩
theorem ec_tupT {K : PySem.W.Frag} {p : Addr} {ys : List V} (h : SqT K G p ys) (q : Q (.ref p) G) : Ec (rTupU K) [.ref p] G Q := fun H Q' e l => ⟨p, ys, rfl, .inr ⟨e.st h, l _ G H e q⟩⟩
def rMax2U : List V → Hp → VK → Prop := fun xs H Q => ∃ i j, xs = [.int i, .int j] ∧ Q (.int (if j > i then j else i)) H
def rMin2U : List V → Hp → VK → Prop := fun xs H Q => ∃ i j, xs = [.int i, .int j] ∧ Q (.int (if j < i then j else i)) H
theorem call_max2U {X : Cx} (hc : X.calm = true) : CallR X (.builtin "max") rMax2U := call_max2 hc
theorem call_min2U {X : Cx} (hc : X.calm = true) : CallR X (.builtin "min") rMin2U := call_min2 hc
theorem ec_max2 {i j : Int} (q : Q (.int (if j > i then j else i)) G) : Ec rMax2U [.int i, .int j] G Q := fun H Q' e l => ⟨i, j, rfl, l _ G H e q⟩
theorem ec_min2 {i j : Int} (q : Q (.int (if j < i then j else i)) G) : Ec rMin2U [.int i, .int j] G Q := fun H Q' e l => ⟨i, j, rfl, l _ G H e q⟩
def rOrdU : List V → Hp → VK → Prop := fun xs H Q => ∃ x : Str, xs = [.str x] ∧ x.length = 1 ∧ Q (.int (x.cps.getD 0 0 : Nat)) H
theorem call_ordU {X : Cx} : CallR X (.builtin "ord") rOrdU := call_ord
theorem ec_ord {x : Str} (h : x.length = 1) (q : Q (.int (x.cps.getD 0 0 : Nat)) G) : Ec rOrdU [.str x] G Q := fun H Q' e l => ⟨x, rfl, h, l _ G H e q⟩
/-! isinstance -/
def rIsiU (K : PySem.W.Frag) := rcOr (rIsi K) (rIsiT K)
theorem call_isiU {X : Cx} : CallR X (.builtin "isinstance") (rIsiU X.K) := CallR.or call_isi call_isiT
theorem tyof_up {K : PySem.W.Frag} {G H : Hp} {x : V} {t : Value} (e : Ex G H) (h : TyOf K G x t) : TyOf K H x t := by
  cases h with
  | non => exact .non
  | bl x => exact .bl x
  | int x => exact .int x
  | str x => exact .str x
  | flt x => exact .flt x
  | lst h => exact .lst (e _ _ h)
  | frz h => exact .frz (e _ _ h)
  | tup h => exact .tup (e _ _ h)
  | dK h => exact .dK (e _ _ h)
  | dT h => exact .dT (e _ _ h)
  | ins h a b c d e0 => exact .ins (e _ _ h) a b c d e0
theorem tyx_up {K : PySem.W.Frag} {G H : Hp} {x : V} {t : Value} (e : Ex G H) (h : TyX K G x t) : TyX K H x t := by
  cases h with
  | base h => exact .base (tyof_up e h)
  | byt b => exact .byt b
  | set h => exact .set (e _ _ h)
  | kList h c => exact .kList h c
  | kTuple h c => exact .kTuple h c
  | kDict h c => exact .kDict h c
  | fTuple h => exact .fTuple (e _ _ h)
  | fDict h => exact .fDict (e _ _ h)
theorem tyx_l {K : PySem.W.Frag} {p : Addr} {xs : List V} (h : SqL K G p xs) : TyX K G (.ref p) (.type "list") := by
  rcases h with (h | ⟨o, h⟩) | ⟨o, its, n, h, c, _⟩
  · exact .base (.lst h)
  · exact .base (.frz h)
  · exact .kList h c
theorem tyx_t {K : PySem.W.Frag} {p : Addr} {xs : List V} (h : SqT K G p xs) : TyX K G (.ref p) (.type "tuple") := by
  rcases h with (h | ⟨o, h⟩) | ⟨o, its, n, h, c, _⟩
  · exact .base (.tup h)
  · exact .fTuple h
  · exact .kTuple h c
theorem ec_isi {K : PySem.W.Frag} {x : V} {a b : String} {r : Bool} (h : TyX K G x (.type a)) (k : kitB a b = some r) (q : Q (.bl r) G) : Ec (rIsiU K) [x, .ty b] G Q :=
  ec_orL fun H Q' e l => ⟨x, .ty b, _, _, r, rfl, .ty b, tyx_up e h, kit_ty k, l _ G H e q⟩
theorem ec_isi2 {K : PySem.W.Frag} {x : V} {tp : Addr} {a b c : String} {r r' : Bool} (h : TyX K G x (.type a)) (ht : G tp = some (.tup [.ty b, .ty c])) (k : kitB a b = some r) (k' : kitB a c = some r') (q : Q (.bl (r || r')) G) : Ec (rIsiU K) [x, .ref tp] G Q :=
  ec_orR fun H Q' e l => ⟨x, tp, _, _, _, r || r', rfl, e _ _ ht, .cons (.ty b) (.cons (.ty c) .nil), tyx_up e h, by
    refine kitAny_cons (b := r) (kit_ty k) (fun h0 => ?_) (fun h1 => by rw [h1]; rfl)
    rw [h0]
    refine kitAny_cons (b := r') (kit_ty k') (fun h0 => ?_) (fun h1 => by rw [h1]; rfl)
    rw [h0]; rfl, l _ G H e q⟩
/-! own defs -/
/-- a promise over known heaps: arguments, known heap, what is wanted, what is wanted of an exception -/
abbrev Pm := List V → Hp → (V → Hp → Prop) → XK → Prop
def up (S : Pm) : Sp := fun vs H Q E => ∃ G Q0 E0, Ex G H ∧ S vs G Q0 E0 ∧ (∀ v G' H', Ex G' H' → Q0 v G' → Q v H') ∧ (∀ c d G' H', Ex G' H' → E0 c d G' → E c d H')
def dn (E : XK) : XK := fun c d G => ∀ H, Ex G H → E c d H
theorem ee_call {S : Pm} {dvs : List V} {E : XK} {t : TA} (h : Ea t σ G fun vs G1 => S (vs ++ dvs) G1 Q (dn E)) : Ee (tCall (up S) dvs E t) σ G Q := fun H Q' e l =>
  h H _ e fun vs G1 H1 e1 h1 => ⟨G1, Q, dn E, e1, h1, l, fun c d G' H' e' h' => h' H' e'⟩
theorem ee_meth {C : Addr} {m : Str} {S : Pm} {dvs : List V} {E : XK} {ta : TE} {t : TA}
    (h : Ee ta σ G fun x G1 => ∃ a dx fs, x = .ref a ∧ G1 a = some (.ins C dx fs) ∧ fs.lookup m = none ∧ Ea t σ G1 fun vs G2 => S (x :: (vs ++ dvs)) G2 Q (dn E)) : Ee (tMeth C m (up S) dvs E ta t) σ G Q := fun H Q' e l =>
  h H _ e fun x G1 H1 e1 ⟨a, dx, fs, h1, h2, h3, h4⟩ => ⟨a, dx, fs, h1, e1 _ _ h2, h3, h4 H1 _ e1 fun vs G2 H2 e2 h5 => ⟨G2, Q, dn E, e2, h5, l, fun c d G' H' e' h' => h' H' e'⟩⟩
theorem ee_make {C : Addr} {S : Pm} {dvs : List V} {E : XK} {t : TA}
    (h : Ea t σ G fun vs G1 => ∀ x dx, G1 x = none → G1 dx = none → dx ≠ x → S (.ref x :: (vs ++ dvs)) (upd (upd G1 dx (.own x)) x (.ins C dx [])) (fun v G2 => v = .non ∧ Q (.ref x) G2) (dn E)) : Ee (tMake C (up S) dvs E t) σ G Q := fun H Q' e l =>
  h H _ e fun vs G1 H1 e1 h1 x dx hx hd hn => ⟨_, _, dn E, e1.put.put, h1 x dx (e1.nul hx) (e1.nul hd) hn, fun v G' H' e' ⟨hv, q⟩ => ⟨hv, l _ G' H' e' q⟩, fun c d G' H' e' h' => h' H' e'⟩
/-! fields -/
theorem ee_fld {K : PySem.W.Frag} {ta : TE} {f : Str} (h : Ee ta σ G fun x G1 => ∃ a C dx fs v, x = .ref a ∧ G1 a = some (.ins C dx fs) ∧ Cls K C ∧ NoAttr K C f ∧ fs.lookup f = some v ∧ Q v G1) : Ee (tFld K ta f) σ G Q := fun H Q' e l =>
  h H _ e fun x G1 H1 e1 ⟨a, C, dx, fs, v, h1, h2, h3, h4, h5, q⟩ => ⟨a, C, dx, fs, v, h1, e1 _ _ h2, h3, h4, h5, l _ G1 H1 e1 q⟩
/-! methods of builtins -/
theorem tyv_up {K : PySem.W.Frag} {T : String} {x : V} {H : Hp} (e : Ex G H) (h : tyV K T x G) : tyV K T x H := by
  cases x with
  | ref p =>
    rcases h with ⟨a, xs, s⟩ | h | ⟨a, (⟨kvs, s⟩ | ⟨kvs, s⟩)⟩ | ⟨a, S, n, s⟩
    · exact .inl ⟨a, xs, e.sl s⟩
    · exact .inr (.inl h)
    · exact .inr (.inr (.inl ⟨a, .inl ⟨kvs, e _ _ s⟩⟩))
    · exact .inr (.inr (.inl ⟨a, .inr ⟨kvs, e _ _ s⟩⟩))
    · exact .inr (.inr (.inr ⟨a, S, n, e _ _ s⟩))
  | _ => exact h
theorem ee_bm {K : PySem.W.Frag} {T : String} {r : V → List V → Hp → VK → Prop} {to : TE} {t : TA} (h : Ee to σ G fun x G1 => tyV K T x G1 ∧ Ea t σ G1 fun xs G2 => Em r x xs G2 Q) : Ee (tBM K T r to t) σ G Q := fun H Q' e l =>
  h H _ e fun x G1 H1 e1 ⟨ty, h1⟩ => ⟨tyv_up e1 ty, h1 H1 _ e1 fun xs G2 H2 e2 h2 => h2 H2 Q' e2 l⟩
theorem ee_bm0 {K : PySem.W.Frag} {T : String} {r : V → List V → Hp → VK → Prop} {to : TE} (h : Ee to σ G fun x G1 => tyV K T x G1 ∧ Em r x [] G1 Q) : Ee (tBM0 K T r to) σ G Q := fun H Q' e l =>
  h H _ e fun x G1 H1 e1 ⟨ty, h1⟩ => ⟨tyv_up e1 ty, h1 H1 Q' e1 l⟩
theorem ty_list {K : PySem.W.Frag} {p : Addr} {xs : List V} (h : SqL K G p xs) : tyV K "list" (.ref p) G := .inl ⟨rfl, xs, h⟩
theorem ty_lst {K : PySem.W.Frag} {p : Addr} {xs : List V} (h : G p = some (.lst xs)) : tyV K "list" (.ref p) G := .inl ⟨rfl, xs, SqL.of h⟩
theorem em_append {p : Addr} {xs : List V} {y : V} (h : G p = some (.lst xs)) (hz : xs.length < sizeLine) (q : Q .non (upd G p (.lst (xs ++ [y])))) : Em rAppend (.ref p) [y] G Q := fun H Q' e l =>
  ⟨p, xs, y, rfl, rfl, e _ _ h, hz, l _ _ _ e.put q⟩
theorem em_extend {p b : Addr} {xs ys : List V} (h : G p = some (.lst xs)) (hb : G b = some (.lst ys)) (hz : xs.length + ys.length ≤ sizeLine) (q : Q .non (upd G p (.lst (xs ++ ys)))) : Em rExtend (.ref p) [.ref b] G Q := fun H Q' e l =>
  ⟨p, b, xs, ys, rfl, rfl, e _ _ h, e _ _ hb, hz, l _ _ _ e.put q⟩
/-- sep.join(list) -/
def rJoinU (K : PySem.W.Frag) : V → List V → Hp → VK → Prop := fun x xs H Q => ∃ a p, ∃ ys : List Str, x = .str a ∧ xs = [.ref p] ∧ (SqL K H p (ys.map V.str) ∨ SqT K H p (ys.map V.str)) ∧ (ys.map (·.length)).sum + ys.length * a.length ≤ 16777216 ∧ Q (.str (Txt.join a ys)) H
theorem mt_joinU {X : Cx} : MtR X "str.join" (rJoinU X.K) := mt_join
theorem ee_m1 {r : V → List V → Hp → VK → Prop} {to te : TE} (h : Ee to σ G fun x G1 => (∃ a, x = .str a) ∧ Ee te σ G1 fun y G2 => Em r x [y] G2 Q) : Ee (tM1 r to te) σ G Q := fun H Q' e l =>
  h H _ e fun x G1 H1 e1 ⟨a, h1⟩ => ⟨a, h1 H1 _ e1 fun y G2 H2 e2 h2 => h2 H2 Q' e2 l⟩
theorem em_join {K : PySem.W.Frag} {a : Str} {p : Addr} {ys : List Str} (h : SqL K G p (ys.map V.str)) (hz : (ys.map (·.length)).sum + ys.length * a.length ≤ 16777216) (q : Q (.str (Txt.join a ys)) G) : Em (rJoinU K) (.str a) [.ref p] G Q := fun H Q' e l =>
  ⟨a, p, ys, rfl, rfl, .inl (e.sl h), hz, l _ G H e q⟩
end

/-! ## statements -/
section
variable {σ : L2.St} {G G' : Hp} {D : Ek}
theorem lf_nx {D : Ek} {D' : Ends} {N : L2.St → Hp → Prop} {N' : L2.St → Hp → Prop} (l : Lf D D') (h : ∀ σ G H, Ex G H → N σ G → N' σ H) : Lf { D with nx := N } { D' with nx := N' } := ⟨h, l.rt, l.bk, l.ct⟩
theorem es_seq {t u : TS} (h : Es t { D with nx := fun σ' G' => Es u D σ' G' } σ G) : Es (tSeq t u) D σ G := fun H D' e l =>
  h H { D' with nx := u D' } e ⟨fun σ' G1 H1 e1 h1 => h1 H1 D' e1 l, l.rt, l.bk, l.ct⟩
theorem es_next (q : D.nx σ G) : Es tNext D σ G := fun H D' e l => l.nx _ _ _ e q
theorem es_brk (q : D.bk σ G) : Es tBreak D σ G := fun H D' e l => l.bk _ _ _ e q
theorem es_cont (q : D.ct σ G) : Es tCont D σ G := fun H D' e l => l.ct _ _ _ e q
theorem es_ret {te : TE} (h : Ee te σ G D.rt) : Es (tRet te) D σ G := fun H D' e l => h H _ e l.rt
theorem es_retN (q : D.rt .non G) : Es tRetN D σ G := fun H D' e l => l.rt _ _ _ e q
theorem es_drop {te : TE} (h : Ee te σ G fun _ G1 => D.nx σ G1) : Es (tDrop te) D σ G := fun H D' e l => h H _ e fun v G1 H1 e1 q => l.nx _ _ _ e1 q
theorem es_asg {te : TE} {g : TG} (h : Ee te σ G fun v G1 => Eg g v σ G1 D.nx) : Es (tAsg te g) D σ G := fun H D' e l =>
  h H _ e fun v G1 H1 e1 h1 => h1 H1 _ e1 l.nx
theorem es_if {c : TT} {t u : TS} (h : Et c σ G fun b G1 => if b = true then Es t D σ G1 else Es u D σ G1) : Es (tIfS c t u) D σ G := fun H D' e l =>
  h H _ e fun b G1 H1 e1 h1 => by
    cases b with
    | true => exact h1 H1 D' e1 l
    | false => exact h1 H1 D' e1 l
theorem es_aug {i : Nat} {te : TE} {ti : TIp} {v : V} (hv : σ[i]? = some (some v)) (h : Ee te σ G fun y G1 => Eip ti v y G1 fun z G2 => D.nx (σ.set i (some z)) G2) : Es (tAug i te ti) D σ G := fun H D' e l =>
  ⟨v, hv, h H _ e fun y G1 H1 e1 h1 => h1 H1 _ e1 fun z G2 H2 e2 q => l.nx _ _ _ e2 q⟩
theorem ip_I {f : Int → Int → Int} {i j : Int} {Q : V → Hp → Prop} (q : Q (.int (f i j)) G) : Eip (ipI f) (.int i) (.int j) G Q := fun H Q' e l => ⟨i, j, rfl, rfl, l _ G H e q⟩
/-! targets -/
theorem eg_name {i : Nat} {v : V} {Q : L2.St → Hp → Prop} (q : Q (σ.set i (some v)) G) : Eg (gName i) v σ G Q := fun H Q' e l => l _ G H e q
theorem eg_tup {K : PySem.W.Frag} {n : Nat} {t : TGs} {a : Addr} {xs : List V} {Q : L2.St → Hp → Prop} (h : SqT K G a xs) (hn : xs.length = n) (q : Egs t xs σ G Q) : Eg (gTup K n t) (.ref a) σ G Q := fun H Q' e l =>
  ⟨a, xs, rfl, e.st h, hn, q H Q' e l⟩
theorem egs_nil {Q : L2.St → Hp → Prop} (q : Q σ G) : Egs gNil [] σ G Q := fun H Q' e l => ⟨rfl, l _ G H e q⟩
theorem egs_cons {t : TG} {u : TGs} {v : V} {r : List V} {Q : L2.St → Hp → Prop} (h : Eg t v σ G fun σ' G' => Egs u r σ' G' Q) : Egs (gCons t u) (v :: r) σ G Q := fun H Q' e l =>
  ⟨v, r, rfl, h H _ e fun σ1 G1 H1 e1 h1 => h1 H1 Q' e1 l⟩
theorem eg_sub {to ti : TE} {t : TSet} {v : V} {Q : L2.St → Hp → Prop} (h : Ee to σ G fun o G1 => Ee ti σ G1 fun i G2 => Ez t o i v G2 fun G3 => Q σ G3) : Eg (gSub to ti t) v σ G Q := fun H Q' e l =>
  h H _ e fun o G1 H1 e1 h1 => h1 H1 _ e1 fun i G2 H2 e2 h2 => h2 H2 _ e2 fun G3 H3 e3 q => l _ G3 H3 e3 q
theorem ez_L {p : Addr} {k : Int} {j : Nat} {xs : List V} {v : V} {Q : Hp → Prop} (h : G p = some (.lst xs)) (hk : ixN xs.length k = some j) (q : Q (upd G p (.lst (xs.set j v)))) : Ez rSetL (.ref p) (.int k) v G Q := fun H Q' e l =>
  ⟨p, xs, k, j, rfl, rfl, e _ _ h, hk, l _ _ e.put q⟩
/-- xs[i] op= e -/
def rGetL (K : PySem.W.Frag) : V → V → Hp → VK → Prop := fun x y H Q => ∃ p xs i v, x = .ref p ∧ y = .int i ∧ SqL K H p xs ∧ 0 ≤ i ∧ xs[i.toNat]? = some v ∧ Q v H
theorem pget_list {X : Cx} : PGet X (rGetL X.K) := by
  intro pins s σ H o i ov iv Q I rx ry h
  obtain ⟨p, xs, k, v, rfl, rfl, hq, h0, hv, q⟩ := h
  cases rx
  obtain ⟨t, rfl⟩ := ry
  obtain ⟨its, r, pl, hz⟩ := I.list hq
  obtain ⟨w, ew, rw'⟩ := r.get hv
  have hlt := (List.getElem?_eq_some_iff.mp hv).1
  have hn := line63
  exact wpAny_getItem_list pl.isList h0 (by omega) (by simpa using ew) ⟨v, H, I, rw', q⟩
theorem es_augS {to ti te : TE} {tget : V → V → Hp → VK → Prop} {tip : TIp} {tset : TSet}
    (h : Ee to σ G fun o G1 => Ee ti σ G1 fun i G2 => Er tget o i G2 fun x G3 => Ee te σ G3 fun y G4 => Eip tip x y G4 fun z G5 => Ez tset o i z G5 fun G6 => D.nx σ G6) : Es (tAugS to ti te tget tip tset) D σ G := fun H D' e l =>
  h H _ e fun o G1 H1 e1 h1 => h1 H1 _ e1 fun i G2 H2 e2 h2 => h2 H2 _ e2 fun x G3 H3 e3 h3 => h3 H3 _ e3 fun y G4 H4 e4 h4 => h4 H4 _ e4 fun z G5 H5 e5 h5 => h5 H5 _ e5 fun G6 H6 e6 q => l.nx _ _ _ e6 q
theorem er_getL {K : PySem.W.Frag} {p : Addr} {i : Int} {xs : List V} {v : V} {Q : V → Hp → Prop} (h : SqL K G p xs) (h0 : 0 ≤ i) (a : xs[i.toNat]? = some v) (q : Q v G) : Er (rGetL K) (.ref p) (.int i) G Q :=
  fun H Q' e l => ⟨p, xs, i, v, rfl, rfl, e.sl h, h0, a, l _ G H e q⟩
/-! fields stored -/
theorem es_fld {K : PySem.W.Frag} {ta tv : TE} {f : Str} (h : Ee tv σ G fun y G1 => Ee ta σ G1 fun x G2 => ∃ a C dx fs, x = .ref a ∧ G2 a = some (.ins C dx fs) ∧ Cls K C ∧ NoAttr K C f ∧ fs.length < 1000 ∧ D.nx σ (upd G2 a (.ins C dx (putF f y fs)))) : Es (sFld K ta tv f) D σ G := fun H D' e l =>
  h H _ e fun y G1 H1 e1 h1 => h1 H1 _ e1 fun x G2 H2 e2 ⟨a, C, dx, fs, h2, h3, h4, h5, h6, q⟩ => ⟨a, C, dx, fs, h2, e2 _ _ h3, h4, h5, h6, l.nx _ _ _ e2.put q⟩
/-! while -/
theorem es_while {c : TT} {tb : TS} (W : Nat → L2.St → Hp → Prop) (m0 : Nat) (h0 : W m0 σ G)
    (hs : ∀ m σ G, W m σ G → Et c σ G fun b G1 => if b = true then Es tb { D with nx := fun σ' G' => ∃ m', m' < m ∧ W m' σ' G', ct := fun σ' G' => ∃ m', m' < m ∧ W m' σ' G', bk := D.nx } σ G1 else D.nx σ G1) : Es (tWhile c tb) D σ G := fun H D' e l => by
  refine ⟨fun m σ H => ∃ G, Ex G H ∧ W m σ G, ⟨m0, G, e, h0⟩, ?_⟩
  rintro m σ1 H1 ⟨G1, e1, w⟩
  refine hs m σ1 G1 w H1 _ e1 fun b G2 H2 e2 h2 => ?_
  cases b with
  | true =>
    refine ⟨fun σ' H' => ∃ G', Ex G' H' ∧ ∃ m', m' < m ∧ W m' σ' G', fun σ' H' ⟨G', e', m', lt, w'⟩ => ⟨m', lt, G', e', w'⟩, ?_⟩
    exact h2 H2 _ e2 ⟨fun σ G H e q => ⟨G, e, q⟩, l.rt, l.nx, fun σ G H e q => ⟨G, e, q⟩⟩
  | false => exact l.nx _ _ _ e2 h2
/-! what is walked -/
def Ei (wi : TI) (σ : L2.St) (G : Hp) (R : It → Hp → Prop) : Prop := ∀ (H : Hp) (R' : It → Hp → Prop), Ex G H → (∀ J G' H', Ex G' H' → R J G' → R' J H') → wi σ H R'
/-- n turns while Gd holds of the known heap; at turn i it yields as Y tells -/
structure Wk (J : It) (n : Nat) (Gd : Hp → Prop) (Y : Nat → Hp → V → Hp → Prop) : Prop where
  goes : ∀ i G H, i < n → Gd G → Ex G H → J.go i H
  stops : ∀ G H, Gd G → Ex G H → J.stop n H
  yields : ∀ i G H x H', i < n → Gd G → Ex G H → J.yld i H x H' → ∃ G', Ex G' H' ∧ Y i G x G'
/-- the i-th value, the heap as it was -/
def YV (f : Nat → Option V) : Nat → Hp → V → Hp → Prop := fun i G x G' => G' = G ∧ f i = some x
/-- a new pair -/
def YP (f g : Nat → Option V) : Nat → Hp → V → Hp → Prop := fun i G v G' => ∃ T x y, v = .ref T ∧ G T = none ∧ G' = upd G T (.tup [x, y]) ∧ f i = some x ∧ g i = some y
theorem es_for {wi : TI} {g : TG} {tb : TS}
    (h : Ei wi σ G fun J G1 => ∃ n Gd Y, Wk J n Gd Y ∧ ∃ Pv : Nat → L2.St → Hp → Prop, Pv 0 σ G1 ∧ (∀ i σ G, i ≤ n → Pv i σ G → Gd G) ∧
      (∀ i x σ G G', i < n → Pv i σ G → Y i G x G' → Eg g x σ G' fun σ2 G2 => Es tb { D with nx := Pv (i + 1), ct := Pv (i + 1), bk := D.nx } σ2 G2) ∧ (∀ σ G, Pv n σ G → D.nx σ G)) : Es (tFor wi g tb) D σ G := fun H D' e l => by
  refine h H _ e ?_
  rintro J G1 H1 e1 ⟨n, Gd, Y, wk, Pv, h0, hG, hs, hd⟩
  refine ⟨fun i m σ H => m = n - i ∧ i ≤ n ∧ ∃ G, Ex G H ∧ Pv i σ G, ⟨n, by simp, Nat.zero_le _, G1, e1, h0⟩, ?_⟩
  rintro i m σ2 H2 ⟨rfl, hi, G2, e2, p⟩
  have q := hG i σ2 G2 hi p
  by_cases hlt : i < n
  · refine .inr ⟨wk.goes i G2 H2 hlt q e2, fun σ' H' => ∃ G', Ex G' H' ∧ Pv (i + 1) σ' G', fun σ' H' ⟨G', e', p'⟩ => ⟨n - (i + 1), by omega, rfl, hlt, G', e', p'⟩, fun x H' y => ?_⟩
    obtain ⟨G3, e3, y3⟩ := wk.yields i G2 H2 x H' hlt q e2 y
    refine hs i x σ2 G2 G3 hlt p y3 H' _ e3 fun σ4 G4 H4 e4 h4 => ?_
    exact h4 H4 _ e4 ⟨fun σ G H e q => ⟨G, e, q⟩, l.rt, l.nx, fun σ G H e q => ⟨G, e, q⟩⟩
  · have en : i = n := by omega
    subst en
    exact .inl ⟨wk.stops G2 H2 q e2, l.nx _ _ _ e2 (hd σ2 G2 p)⟩
section
variable {K : PySem.W.Frag} {a b : Addr} {xs ys : List V}
theorem wk_list : Wk (Itl K a) xs.length (fun G => SqL K G a xs) (YV fun i => xs[i]?) :=
  ⟨fun i G H hi q e => ⟨xs, xs[i], e.sl q, by simp [hi]⟩, fun G H q e => ⟨xs, e.sl q, Nat.le_refl _⟩, fun i G H x H' hi q e y => ⟨G, by rw [y.1]; exact e, rfl, y.2 xs (e.sl q)⟩⟩
theorem wk_tup : Wk (Itt K a) xs.length (fun G => SqT K G a xs) (YV fun i => xs[i]?) :=
  ⟨fun i G H hi q e => ⟨xs, xs[i], e.st q, by simp [hi]⟩, fun G H q e => ⟨xs, e.st q, Nat.le_refl _⟩, fun i G H x H' hi q e y => ⟨G, by rw [y.1]; exact e, rfl, y.2 xs (e.st q)⟩⟩
theorem wk_range {lo : Int} {n : Nat} : Wk (Itr lo n) n (fun _ => True) (YV fun i => some (.int (lo + i))) :=
  ⟨fun _ _ _ hi _ _ => hi, fun _ _ _ _ => Nat.le_refl _, fun i G H x H' _ _ e y => ⟨G, by rw [y.1]; exact e, rfl, by rw [y.2]⟩⟩
theorem wk_rangeC {lo c : Int} {n : Nat} : Wk (Itc lo c n) n (fun _ => True) (YV fun i => some (.int (lo + (i : Nat) * c))) :=
  ⟨fun _ _ _ hi _ _ => hi, fun _ _ _ _ => Nat.le_refl _, fun i G H x H' _ _ e y => ⟨G, by rw [y.1]; exact e, rfl, by rw [y.2]⟩⟩
theorem wk_str {z : Str} : Wk (Its z) z.cps.size (fun _ => True) (YV fun i => z.cps[i]?.map fun c => .str ⟨#[c]⟩) :=
  ⟨fun _ _ _ hi _ _ => hi, fun _ _ _ _ => Nat.le_refl _, fun i G H x H' _ _ e y => ⟨G, by rw [y.1]; exact e, rfl, by obtain ⟨c, h1, h2⟩ := y.2; show Option.map _ _ = _; rw [h1, h2]; rfl⟩⟩
theorem wk_zip {n : Nat} (hn : n = min xs.length ys.length) : Wk (Itz K a b) n (fun G => SqL K G a xs ∧ SqL K G b ys) (YP (fun i => xs[i]?) (fun i => ys[i]?)) := by
  subst hn
  refine ⟨fun i G H hi q e => ?_, fun G H q e => ⟨xs, ys, e.sl q.1, e.sl q.2, by omega⟩, fun i G H v H' _ q e y => ?_⟩
  · have h1 : i < xs.length := by omega
    have h2 : i < ys.length := by omega
    exact ⟨xs, ys, xs[i], ys[i], e.sl q.1, e.sl q.2, by simp [h1], by simp [h2]⟩
  · obtain ⟨T, x, z, h1, h2, h3, h4, h5⟩ := y
    exact ⟨upd G T (.tup [x, z]), by rw [h3]; exact e.put, T, x, z, h1, e.nul h2, rfl, h4 xs (e.sl q.1), h5 ys (e.sl q.2)⟩
theorem wk_enum : Wk (Ite K a) xs.length (fun G => SqL K G a xs) (YP (fun i => some (.int (i : Nat))) (fun i => xs[i]?)) := by
  refine ⟨fun i G H hi q e => ⟨xs, xs[i], e.sl q, by simp [hi]⟩, fun G H q e => ⟨xs, e.sl q, Nat.le_refl _⟩, fun i G H v H' _ q e y => ?_⟩
  obtain ⟨T, x, h1, h2, h3, h4⟩ := y
  exact ⟨upd G T (.tup [.int (i : Nat), x]), by rw [h3]; exact e.put, T, .int (i : Nat), x, h1, e.nul h2, rfl, rfl, h4 xs (e.sl q)⟩
end
theorem ei_list {K : PySem.W.Frag} {tl : TE} {R : It → Hp → Prop} (h : Ee tl σ G fun x G1 => ∃ a xs, x = .ref a ∧ SqL K G1 a xs ∧ R (Itl K a) G1) : Ei (iList K tl) σ G R := fun H R' e l =>
  h H _ e fun x G1 H1 e1 ⟨a, xs, h1, h2, q⟩ => ⟨a, h1, ⟨xs, e1.sl h2⟩, l _ _ _ e1 q⟩
theorem ei_tup {K : PySem.W.Frag} {tl : TE} {R : It → Hp → Prop} (h : Ee tl σ G fun x G1 => ∃ a xs, x = .ref a ∧ SqT K G1 a xs ∧ R (Itt K a) G1) : Ei (iTup K tl) σ G R := fun H R' e l =>
  h H _ e fun x G1 H1 e1 ⟨a, xs, h1, h2, q⟩ => ⟨a, h1, ⟨xs, e1.st h2⟩, l _ _ _ e1 q⟩
theorem ei_r1 {ta : TA} {R : It → Hp → Prop} (h : Ea ta σ G fun vs G1 => ∃ j : Int, vs = [.int j] ∧ -(2 ^ 62) ≤ j ∧ j < 2 ^ 62 ∧ R (Itr 0 j.toNat) G1) : Ei (iRng1 ta) σ G R := fun H R' e l =>
  h H _ e fun vs G1 H1 e1 ⟨j, h1, h2, h3, q⟩ => ⟨j, h1, h2, h3, l _ _ _ e1 q⟩
theorem ei_r2 {ta : TA} {R : It → Hp → Prop} (h : Ea ta σ G fun vs G1 => ∃ i j : Int, vs = [.int i, .int j] ∧ (-(2 ^ 62) ≤ i ∧ i < 2 ^ 62 ∧ -(2 ^ 62) ≤ j ∧ j < 2 ^ 62) ∧ R (Itr i (j - i).toNat) G1) : Ei (iRng2 ta) σ G R := fun H R' e l =>
  h H _ e fun vs G1 H1 e1 ⟨i, j, h1, h2, q⟩ => ⟨i, j, h1, h2, l _ _ _ e1 q⟩
theorem ei_r3 {ta : TA} {R : It → Hp → Prop} (h : Ea ta σ G fun vs G1 => ∃ (i j c : Int) (n : Nat), vs = [.int i, .int j, .int c] ∧ RgC i j c n ∧ R (Itc i c n) G1) : Ei (iRng3 ta) σ G R := fun H R' e l =>
  h H _ e fun vs G1 H1 e1 ⟨i, j, c, n, h1, h2, q⟩ => ⟨i, j, c, n, h1, h2, l _ _ _ e1 q⟩
theorem ei_str {te : TE} {R : It → Hp → Prop} (h : Ee te σ G fun v G1 => ∃ x, v = .str x ∧ R (Its x) G1) : Ei (iStr te) σ G R := fun H R' e l =>
  h H _ e fun v G1 H1 e1 ⟨x, h1, q⟩ => ⟨x, h1, l _ _ _ e1 q⟩
theorem ei_zip {K : PySem.W.Frag} {ta : TA} {R : It → Hp → Prop} (h : Ea ta σ G fun vs G1 => ∃ a b xs ys, vs = [.ref a, .ref b] ∧ SqL K G1 a xs ∧ SqL K G1 b ys ∧ R (Itz K a b) G1) : Ei (iZip K ta) σ G R := fun H R' e l =>
  h H _ e fun vs G1 H1 e1 ⟨a, b, xs, ys, h1, h2, h3, q⟩ => ⟨a, b, xs, ys, h1, e1.sl h2, e1.sl h3, l _ _ _ e1 q⟩
theorem ei_enum {K : PySem.W.Frag} {ta : TA} {R : It → Hp → Prop} (h : Ea ta σ G fun vs G1 => ∃ a xs, vs = [.ref a] ∧ SqL K G1 a xs ∧ R (Ite K a) G1) : Ei (iEnum K ta) σ G R := fun H R' e l =>
  h H _ e fun vs G1 H1 e1 ⟨a, xs, h1, h2, q⟩ => ⟨a, xs, h1, e1.sl h2, l _ _ _ e1 q⟩
/-! comprehensions: Pv by the turn, the list so far, the known heap without it; p is its place -/
theorem ee_lc {wi : TI} {g : TG} {tt : TT} {te : TE} {vs : List Nat} {Q : V → Hp → Prop}
    (h : Ei wi σ G fun J G1 => ∃ n Gd Y, Wk J n Gd Y ∧ (∀ G p o, Gd G → G p = none → Gd (upd G p o)) ∧ ∀ p, G1 p = none → ∃ Pv : Nat → List V → Hp → Prop, Pv 0 [] G1 ∧ (∀ i acc G, i ≤ n → Pv i acc G → G p = none ∧ acc.length < sizeLine ∧ Gd G) ∧
      (∀ i acc x G G', i < n → Pv i acc G → Y i (upd G p (.lst acc)) x G' → Eg g x (wipe σ vs) G' fun σ2 G2 => wipe σ2 vs = wipe σ vs ∧ Et tt σ2 G2 fun b G3 =>
        if b = true then Ee te σ2 G3 fun y G4 => G4 p = some (.lst acc) ∧ ∃ G5, Ex (upd G5 p (.lst acc)) G4 ∧ Pv (i + 1) (acc ++ [y]) G5 else G3 p = some (.lst acc) ∧ ∃ G5, Ex (upd G5 p (.lst acc)) G3 ∧ Pv (i + 1) acc G5) ∧
      (∀ acc G, Pv n acc G → Q (.ref p) (upd G p (.lst acc)))) : Ee (tLc wi g tt te vs) σ G Q := fun H Q' e l => by
  refine h H _ e ?_
  rintro J G1 H1 e1 ⟨n, Gd, Y, wk, gd, hh⟩ p hp
  obtain ⟨Pv, h0, hG, hs, hd⟩ := hh p (e1.nul hp)
  refine ⟨fun i m H => m = n - i ∧ i ≤ n ∧ ∃ G acc, Ex (upd G p (.lst acc)) H ∧ Pv i acc G, ⟨n, by simp, Nat.zero_le _, G1, [], e1.put, h0⟩, ?_⟩
  rintro i m H2 ⟨rfl, hi, G2, acc, e2, pv⟩
  obtain ⟨gp, gz, gg⟩ := hG i acc G2 hi pv
  have q := gd _ p (.lst acc) gg gp
  by_cases hlt : i < n
  · refine .inr ⟨wk.goes i _ H2 hlt q e2, fun H' => ∃ G acc, Ex (upd G p (.lst acc)) H' ∧ Pv (i + 1) acc G, fun H' ⟨G', acc', e', p'⟩ => ⟨n - (i + 1), by omega, rfl, hlt, G', acc', e', p'⟩, fun x H' y => ?_⟩
    obtain ⟨G3, e3, y3⟩ := wk.yields i _ H2 x H' hlt q e2 y
    refine hs i acc x G2 G3 hlt pv y3 H' _ e3 fun σ4 G4 H4 e4 ⟨hw, h4⟩ => ⟨hw, ?_⟩
    refine h4 H4 _ e4 fun b G5 H5 e5 h5 => ?_
    cases b with
    | true =>
      refine h5 H5 _ e5 fun y G6 H6 e6 ⟨ha, G7, e7, p7⟩ => ⟨acc, e6 _ _ ha, gz, G7, _, ?_, p7⟩
      have := (e7.trans e6).put (p := p) (o := .lst (acc ++ [y]))
      rwa [upd_upd] at this
    | false =>
      obtain ⟨ha, G7, e7, p7⟩ := h5
      exact ⟨G7, acc, e7.trans e5, p7⟩
  · have en : i = n := by omega
    subst en
    exact .inl ⟨wk.stops _ H2 q e2, l _ _ _ e2 (hd acc G2 pv)⟩
theorem et_yes {Q : Bool → Hp → Prop} (q : Q true G) : Et tYes σ G Q := fun H Q' e l => l true G H e q
end
/-- a def's body, from its promise -/
theorem body_up {S : Pm} {t : TS} {N : List Str} (h : ∀ vs G Q E, S vs G Q E → Es t { nx := fun _ G' => Q .non G', rt := Q } (start N vs) G) : ∀ vs H Q E, up S vs H Q E → t { nx := fun _ H' => Q .non H', rt := Q } (start N vs) H := by
  rintro vs H Q E ⟨G, Q0, E0, e, hS, lq, le⟩
  exact h vs G Q0 E0 hS H _ e ⟨fun _ G H e q => lq _ _ _ e q, fun v G H e q => lq _ _ _ e q, fun _ _ _ _ z => z.elim, fun _ _ _ _ z => z.elim⟩
end Lw

namespace Lw
open PySem PySem.Spec PyProof.Rows L2
/-! ## defs by name -/
section
variable (P : Program) (w : World) (K : PySem.W.Frag) (mg : Str → Option Value) (base : Heap)
/-- the module's def x keeps the promise sp -/
structure Has (CX : CXT) (k : Nat) (x : Str) (ps : List Str) (sp : Sp) : Prop where
  ex : ∃ f fd, mg x = some (.ref f) ∧ PySem.W.keepIn K (.ref f) = true ∧ Binds K fd ps [] ∧ FnOk P w K mg base CX k f fd ps sp
/-- the method m of the class at C keeps it -/
structure HasM (CX : CXT) (k : Nat) (C : Addr) (m : Str) (ps : List Str) (sp : Sp) : Prop where
  ex : ∃ f fd, Meth K C m f ∧ Binds K fd ps [] ∧ FnOk P w K mg base CX k f fd ps sp
/-- the class at C is made by an __init__ that keeps it -/
structure HasI (CX : CXT) (k : Nat) (C : Addr) (ps : List Str) (sp : Sp) : Prop where
  ex : ∃ f fd, Mk K C f ∧ Binds K fd ps [] ∧ FnOk P w K mg base CX k f fd ps sp
end
/-- what the top has at a def's name -/
structure Fnd (K : PySem.W.Frag) (mg : Str → Option Value) (x : Str) (st : Stmt) : Prop where
  ex : ∃ f fd, mg x = some (.ref f) ∧ Fun K x x st f fd
/-- .. at a method's -/
structure FndM (K : PySem.W.Frag) (C : Addr) (m qual : Str) (st : Stmt) : Prop where
  ex : ∃ f fd, Meth K C m f ∧ Fun K m qual st f fd
/-- .. at a class's __init__ -/
structure FndI (K : PySem.W.Frag) (C : Addr) (qual : Str) (st : Stmt) : Prop where
  ex : ∃ f fd, Mk K C f ∧ Fun K "__init__" qual st f fd
section
variable {P : Program} {w : World} {K : PySem.W.Frag} {mg : Str → Option Value} {base : Heap}
abbrev BindOk (x qual : Str) (st : Stmt) (ps : List Str) : Prop := ∀ (kV doc pm : Value) (an : Option Addr) (cdv ct : Value) (us : List Value), us.length = ps.length → bindArgs (PySem.W.fnOf x qual (defArgs st) (defBody st) (defScope st) .none kV doc pm an cdv ct) ⟨us, []⟩ = pure (ps.zip us)
theorem fnok0 {x qual : Str} {st : Stmt} {f : Addr} {fd : FuncData} {N ps : List Str} {k : Nat} {S : Pm} {t : TS} (F : Fun K x qual st f fd) (sc : FnScope N ps (defScope st))
    (len : ∀ vs G Q E, S vs G Q E → vs.length = ps.length)
    (der : ∀ (f : Addr) (cdv : Value) (A : Around) (outer : List Env) (s : Shared) (H : Hp) (E : XK), Room k (A.deeper (envOfC qual (defScope st) s.heap.objs.size f cdv)) → PSs (cxOf CX0 P w K mg base N qual (defScope st) f cdv A outer s H E).nox (defBody st) t)
    (pure : ∀ vs G Q E, S vs G Q E → Es t { nx := fun _ G' => Q .non G', rt := Q } (start N vs) G) : FnOk P w K mg base CX0 (k + 1) f fd ps (up S) :=
  F.ok sc (fun vs H Q E ⟨G, Q0, E0, _, h, _⟩ => len vs G Q0 E0 h) fun cdv A outer s H vs Q E hr h => ⟨t, der f cdv A outer s H E hr, body_up pure vs H Q E h⟩
theorem Has.mk0 {x : Str} {st : Stmt} {N ps : List Str} {k : Nat} {S : Pm} {t : TS} (F : Fnd K mg x st) (sc : FnScope N ps (defScope st)) (hb : BindOk x x st ps)
    (len : ∀ vs G Q E, S vs G Q E → vs.length = ps.length)
    (der : ∀ (f : Addr) (cdv : Value) (A : Around) (outer : List Env) (s : Shared) (H : Hp) (E : XK), Room k (A.deeper (envOfC x (defScope st) s.heap.objs.size f cdv)) → PSs (cxOf CX0 P w K mg base N x (defScope st) f cdv A outer s H E).nox (defBody st) t)
    (pure : ∀ vs G Q E, S vs G Q E → Es t { nx := fun _ G' => Q .non G', rt := Q } (start N vs) G) : Has P w K mg base CX0 (k + 1) x ps (up S) := by
  obtain ⟨f, fd, hm, F⟩ := F.ex
  exact ⟨f, fd, hm, F.kp, F.binds hb, fnok0 F sc len der pure⟩
theorem HasM.mk0 {C : Addr} {m qual : Str} {st : Stmt} {N ps : List Str} {k : Nat} {S : Pm} {t : TS} (F : FndM K C m qual st) (sc : FnScope N ps (defScope st)) (hb : BindOk m qual st ps)
    (len : ∀ vs G Q E, S vs G Q E → vs.length = ps.length)
    (der : ∀ (f : Addr) (cdv : Value) (A : Around) (outer : List Env) (s : Shared) (H : Hp) (E : XK), Room k (A.deeper (envOfC qual (defScope st) s.heap.objs.size f cdv)) → PSs (cxOf CX0 P w K mg base N qual (defScope st) f cdv A outer s H E).nox (defBody st) t)
    (pure : ∀ vs G Q E, S vs G Q E → Es t { nx := fun _ G' => Q .non G', rt := Q } (start N vs) G) : HasM P w K mg base CX0 (k + 1) C m ps (up S) := by
  obtain ⟨f, fd, hm, F⟩ := F.ex
  exact ⟨f, fd, hm, F.binds hb, fnok0 F sc len der pure⟩
theorem HasI.mk0 {C : Addr} {qual : Str} {st : Stmt} {N ps : List Str} {k : Nat} {S : Pm} {t : TS} (F : FndI K C qual st) (sc : FnScope N ps (defScope st)) (hb : BindOk "__init__" qual st ps)
    (len : ∀ vs G Q E, S vs G Q E → vs.length = ps.length)
    (der : ∀ (f : Addr) (cdv : Value) (A : Around) (outer : List Env) (s : Shared) (H : Hp) (E : XK), Room k (A.deeper (envOfC qual (defScope st) s.heap.objs.size f cdv)) → PSs (cxOf CX0 P w K mg base N qual (defScope st) f cdv A outer s H E).nox (defBody st) t)
    (pure : ∀ vs G Q E, S vs G Q E → Es t { nx := fun _ G' => Q .non G', rt := Q } (start N vs) G) : HasI P w K mg base CX0 (k + 1) C ps (up S) := by
  obtain ⟨f, fd, hm, F⟩ := F.ex
  exact ⟨f, fd, hm, F.binds hb, fnok0 F sc len der pure⟩
/-- a promise that is never asked for -/
theorem Has.never {x : Str} {st : Stmt} {ps : List Str} {CX : CXT} {k : Nat} {S : Pm} (F : Fnd K mg x st) (hb : BindOk x x st ps) (no : ∀ vs G Q E, ¬ S vs G Q E) : Has P w K mg base CX k x ps (up S) := by
  obtain ⟨f, fd, hm, F⟩ := F.ex
  exact ⟨f, fd, hm, F.kp, F.binds hb, ⟨fun vs H Q E ⟨_, _, _, _, z, _⟩ => (no _ _ _ _ z).elim, fun _ _ _ _ _ _ _ _ _ _ _ _ _ ⟨_, _, _, _, z, _⟩ => (no _ _ _ _ z).elim⟩⟩
end
section
variable {X : Cx} {CX : CXT} {k : Nat} {C : Addr} {ps : List Str} {sp : Sp} {E : XK} {x m : Str} {p pos apos : Pos} {e o : Expr} {es : List Expr} {ta : TE} {t : TA}
theorem pe_callH (h : Has X.prog X.w X.K X.mg X.base CX k x ps sp) (hr : Room k X.A) (hg : Gl X x) (hx : Passes CX X E) (ha : PA X (e :: es) t)
    (hdb : (x == ("__debug__" : Str)) = false := by decide) (he : starEach (e :: es) X.env = (false, eval e X.env) :: starEach es X.env := by rfl) (hpl : (backTo pos (starEach es X.env)).any (·.1) = false := by rfl) :
    PE X (.Call (.Name x p) (e :: es) [] pos) (tCall sp [] E t) := by
  obtain ⟨f, fd, hm, kp, b, F⟩ := h.ex
  exact pe_call F hr hg hm kp b .nil hx ha hdb he hpl
theorem pe_callH0 (h : Has X.prog X.w X.K X.mg X.base CX k x ps sp) (hr : Room k X.A) (hg : Gl X x) (hx : Passes CX X E)
    (hdb : (x == ("__debug__" : Str)) = false := by decide) : PE X (.Call (.Name x p) [] [] pos) (tCall sp [] E tNil) := by
  obtain ⟨f, fd, hm, kp, b, F⟩ := h.ex
  exact pe_call0 F hr hg hm kp b .nil hx hdb
theorem pe_methH {pl : Sem Bool} (ho : PE X o ta) (c : Cls X.K C) (h : HasM X.prog X.w X.K X.mg X.base CX k C m ps sp) (hr : Room k X.A) (hx : Passes CX X E) (ha : PA X (e :: es) t)
    (hst : starEach (e :: es) X.env = (false, eval e X.env) :: starEach es X.env := by rfl) (hpl : (backTo pos (starEach es X.env)).any (·.1) = false := by rfl)
    (ht : eval (.Call (.Attribute o m apos) (e :: es) [] pos) X.env = (do
      let ov ← eval o X.env
      standAt apos.atName
      let (f, first) ← holding [ov] (getMethod ov m pl)
      callWith pos f first (backTo pos (starEach (e :: es) X.env)) (backToKw pos (keywordEach [] X.env))) := by rfl) :
    PE X (.Call (.Attribute o m apos) (e :: es) [] pos) (tMeth C m sp [] E ta t) := by
  obtain ⟨f, fd, hm, b, F⟩ := h.ex
  exact pe_meth ho c hm F hr b .nil hx ha hst hpl ht
theorem pe_methH0 {pl : Sem Bool} (ho : PE X o ta) (c : Cls X.K C) (h : HasM X.prog X.w X.K X.mg X.base CX k C m ps sp) (hr : Room k X.A) (hx : Passes CX X E)
    (ht : eval (.Call (.Attribute o m apos) [] [] pos) X.env = (do
      let ov ← eval o X.env
      standAt apos.atName
      let (f, first) ← holding [ov] (getMethod ov m pl)
      callWith pos f first (backTo pos (starEach [] X.env)) (backToKw pos (keywordEach [] X.env))) := by rfl) :
    PE X (.Call (.Attribute o m apos) [] [] pos) (tMeth C m sp [] E ta tNil) := by
  obtain ⟨f, fd, hm, b, F⟩ := h.ex
  exact pe_meth0 ho c hm F hr b .nil hx ht
theorem pe_makeH (h : HasI X.prog X.w X.K X.mg X.base CX k C ps sp) (hr : Room (k + 1) X.A) (hg : Gl X x) (hm : X.mg x = some (.ref C)) (hx : Passes CX X E) (ha : PA X (e :: es) t)
    (hdb : (x == ("__debug__" : Str)) = false := by decide) (he : starEach (e :: es) X.env = (false, eval e X.env) :: starEach es X.env := by rfl) (hpl : (backTo pos (starEach es X.env)).any (·.1) = false := by rfl) :
    PE X (.Call (.Name x p) (e :: es) [] pos) (tMake C sp [] E t) := by
  obtain ⟨f, fd, M, b, F⟩ := h.ex
  exact pe_make M F hr hg hm b .nil hx ha hdb he hpl
theorem pe_makeH0 (h : HasI X.prog X.w X.K X.mg X.base CX k C ps sp) (hr : Room (k + 1) X.A) (hg : Gl X x) (hm : X.mg x = some (.ref C)) (hx : Passes CX X E)
    (hdb : (x == ("__debug__" : Str)) = false := by decide) : PE X (.Call (.Name x p) [] [] pos) (tMake C sp [] E tNil) := by
  obtain ⟨f, fd, M, b, F⟩ := h.ex
  exact pe_make0 M F hr hg hm b .nil hx hdb
theorem rm64 {j : Nat} {A : Around} (r : Room j A) : A.units + 64 < cLine := r.units
theorem rm65 {j : Nat} {A : Around} (r : Room j A) : A.units + 65 < cLine := by have := r.un; omega
theorem rm0 {j : Nat} {A : Around} (r : Room j A) : A.units < cLine := r.units0
end
end Lw

namespace Lw
open PySem PySem.Spec PyProof.Rows L2
/-! ## ready forms -/
theorem ifd {P A B : Prop} [Decidable P] (h1 : P → A) (h2 : ¬ P → B) : if decide P = true then A else B := by
  by_cases h : P
  · rw [if_pos (decide_eq_true h)]; exact h1 h
  · rw [if_neg (by simp [h])]; exact h2 h
theorem ifnd {P A B : Prop} [Decidable P] (h1 : ¬ P → A) (h2 : P → B) : if (!decide P) = true then A else B := by
  by_cases h : P
  · rw [if_neg (by simp [h])]; exact h2 h
  · rw [if_pos (by simp [h])]; exact h1 h
theorem ite_nt {A B : Prop} (b : B) : if (!true) = true then A else B := by rw [if_neg (by decide)]; exact b
theorem ite_nf {A B : Prop} (a : A) : if (!false) = true then A else B := by rw [if_pos (by decide)]; exact a
theorem ift {c : Bool} {A B : Prop} (h : c = true) (a : A) : if c = true then A else B := by rw [if_pos h]; exact a
theorem iff_ {c : Bool} {A B : Prop} (h : c = false) (b : B) : if c = true then A else B := by rw [h]; exact iteF b
theorem ifb {c : Bool} {A B : Prop} (h1 : c = true → A) (h2 : c = false → B) : if c = true then A else B := by
  cases c with
  | true => exact iteT (h1 rfl)
  | false => exact iteF (h2 rfl)
theorem sz1000 {n : Nat} (h : n ≤ 1000) : n ≤ sizeLine := Nat.le_of_lt (small1000 h)
theorem szM {n : Nat} (h : n ≤ 16000000) : n ≤ sizeLine := Nat.le_trans h (by decide)
theorem szlt {n : Nat} (h : n < 16000000) : n < sizeLine := Nat.lt_of_lt_of_le h (by decide)
theorem line62 {n : Nat} (h : n ≤ sizeLine) : -(2 ^ 62) ≤ (n : Int) ∧ (n : Int) < 2 ^ 62 := by
  have : n ≤ 16777216 := by rw [← sizeLine_eq]; exact h
  omega
section
variable {σ : L2.St} {G : Hp} {D : Ek} {K : PySem.W.Frag}
theorem sqL_upd {a l : Addr} {o : HO} {xs : List V} (h : SqL K G l xs) (n : l ≠ a) : SqL K (upd G a o) l xs := by
  rcases h with (h | ⟨q, h⟩) | h
  · exact .inl (.inl (by rw [upd_ne n]; exact h))
  · exact .inl (.inr ⟨q, by rw [upd_ne n]; exact h⟩)
  · exact .inr h
theorem upd_comm {a b : Addr} {o u : HO} (h : a ≠ b) : upd (upd G a o) b u = upd (upd G b u) a o := by
  funext c; unfold upd; split
  · rename_i h1; subst h1; rw [if_neg (Ne.symm h)]
  · rfl
theorem get_new {a p : Addr} {o u : HO} (h : G a = some o) (n : G p = none) : upd G p u a = some o := by rw [upd_ne (ne_of_none h n)]; exact h
theorem get_ne {a p : Addr} {o u : HO} (h : G a = some o) (n : a ≠ p) : upd G p u a = some o := by rw [upd_ne n]; exact h
theorem nul_ne {a p : Addr} {u : HO} (h : G a = none) (n : a ≠ p) : upd G p u a = none := by rw [upd_ne n]; exact h
theorem ne_new {a p : Addr} {o : HO} (h : G a = some o) (n : G p = none) : a ≠ p := ne_of_none h n
theorem new_ne {a p : Addr} {o : HO} (h : G a = some o) (n : G p = none) : p ≠ a := (ne_of_none h n).symm
theorem nul_upd {a p : Addr} {u : HO} (h : upd G p u a = none) : G a = none := by
  by_cases q : a = p
  · subst q; rw [upd_same] at h; cases h
  · rw [upd_ne q] at h; exact h
theorem nul_updN {a p : Addr} {u : HO} (h : upd G p u a = none) : a ≠ p := by
  rintro rfl; rw [upd_same] at h; cases h
theorem er_isN_non {Q : V → Hp → Prop} (q : Q (.bl true) G) : Er rIsN .non .non G Q := er_isN q
theorem er_isN_bl {b : Bool} {Q : V → Hp → Prop} (q : Q (.bl false) G) : Er rIsN (.bl b) .non G Q := er_isN q
theorem er_isN_int {b : Int} {Q : V → Hp → Prop} (q : Q (.bl false) G) : Er rIsN (.int b) .non G Q := er_isN q
theorem er_isN_str {b : Str} {Q : V → Hp → Prop} (q : Q (.bl false) G) : Er rIsN (.str b) .non G Q := er_isN q
theorem er_isN_ref {b : Addr} {Q : V → Hp → Prop} (q : Q (.bl false) G) : Er rIsN (.ref b) .non G Q := er_isN q
theorem er_notN_non {Q : V → Hp → Prop} (q : Q (.bl false) G) : Er rNotN .non .non G Q := er_notN q
theorem er_notN_bl {b : Bool} {Q : V → Hp → Prop} (q : Q (.bl true) G) : Er rNotN (.bl b) .non G Q := er_notN q
theorem er_notN_int {b : Int} {Q : V → Hp → Prop} (q : Q (.bl true) G) : Er rNotN (.int b) .non G Q := er_notN q
theorem er_notN_str {b : Str} {Q : V → Hp → Prop} (q : Q (.bl true) G) : Er rNotN (.str b) .non G Q := er_notN q
theorem er_notN_ref {b : Addr} {Q : V → Hp → Prop} (q : Q (.bl true) G) : Er rNotN (.ref b) .non G Q := er_notN q
theorem tru_bl {b : Bool} {R : Bool → Prop} (q : R b) : ∃ k, TruV K (.bl b) G k ∧ R k := ⟨b, rfl, q⟩
theorem tru_int {b : Int} {R : Bool → Prop} (q : R (b != 0)) : ∃ k, TruV K (.int b) G k ∧ R k := ⟨_, rfl, q⟩
theorem tru_non {R : Bool → Prop} (q : R false) : ∃ k, TruV K .non G k ∧ R k := ⟨_, rfl, q⟩
theorem ex_bl {b : Bool} {R : Bool → Prop} (q : R b) : ∃ c, V.bl b = .bl c ∧ R c := ⟨b, rfl, q⟩
theorem ex_int {b : Int} {R : Int → Prop} (q : R b) : ∃ c, V.int b = .int c ∧ R c := ⟨b, rfl, q⟩
theorem ex_str {b : Str} {R : Str → Prop} (q : R b) : ∃ c, V.str b = .str c ∧ R c := ⟨b, rfl, q⟩
theorem ex_strx {b : Str} {R : Prop} (q : R) : (∃ c, V.str b = .str c) ∧ R := ⟨⟨b, rfl⟩, q⟩
theorem ex_ints1 {b : Int} {R : Int → Prop} (q : R b) : ∃ c, [V.int b] = [.int c] ∧ R c := ⟨b, rfl, q⟩
theorem ex_ints2 {a b : Int} {R : Int → Int → Prop} (q : R a b) : ∃ c d, [V.int a, V.int b] = [.int c, .int d] ∧ R c d := ⟨a, b, rfl, q⟩
def EsU (t : TS) (D : Ek) (σ : L2.St) (G : Hp) : Prop := Es t D σ G
theorem es_unf {t : TS} (h : EsU t D σ G) : Es t D σ G := h
/-! sequences of either sort -/
def Sq (K : PySem.W.Frag) (G : Hp) (a : Addr) (xs : List V) : Prop := SqL K G a xs ∨ SqT K G a xs
theorem ec_lenU {p : Addr} {xs : List V} {Q : V → Hp → Prop} (h : Sq K G p xs) (q : xs.length ≤ sizeLine → Q (.int xs.length) G) : Ec (rLenU K) [.ref p] G Q := h.elim (fun h => ec_lenL h q) fun h => ec_lenT h q
theorem er_ixU {p : Addr} {i : Int} {xs : List V} {v : V} {Q : V → Hp → Prop} (h : Sq K G p xs) (a : atI xs i = some v) (q : Q v G) : Er (rIx K) (.ref p) (.int i) G Q := h.elim (fun h => er_ixL h a q) fun h => er_ixT h a q
/-! data -/
theorem dp_list {v : V} {ds : List PyData} (h : Dp K G v (.list ds)) : ∃ a xs, v = .ref a ∧ SqL K G a xs ∧ DpAll K G xs ds := by cases h with | lst h1 h2 => exact ⟨_, _, rfl, h1, h2⟩
theorem dp_tup {v : V} {ds : List PyData} (h : Dp K G v (.tuple ds)) : ∃ a xs, v = .ref a ∧ SqT K G a xs ∧ DpAll K G xs ds := by cases h with | tup h1 h2 => exact ⟨_, _, rfl, h1, h2⟩
theorem dps_len : ∀ {xs : List V} {ds : List PyData}, DpAll K G xs ds → xs.length = ds.length
  | _, _, .nil => rfl
  | _, _, .cons _ t => by rw [List.length_cons, List.length_cons, dps_len t]
theorem dps_get : ∀ {xs : List V} {ds : List PyData} {i : Nat} {d : PyData}, DpAll K G xs ds → ds[i]? = some d → ∃ x, xs[i]? = some x ∧ Dp K G x d
  | _, _, _, _, .nil, h => by cases h
  | _, _, 0, _, .cons h _, e => by cases e; exact ⟨_, rfl, h⟩
  | _, _, i + 1, _, .cons _ t, e => dps_get (i := i) t e
theorem dps_get' : ∀ {xs : List V} {ds : List PyData} {i : Nat} {x : V}, DpAll K G xs ds → xs[i]? = some x → ∃ d, ds[i]? = some d ∧ Dp K G x d
  | _, _, _, _, .nil, h => by cases h
  | _, _, 0, _, .cons h _, e => by cases e; exact ⟨_, rfl, h⟩
  | _, _, i + 1, _, .cons _ t, e => dps_get' (i := i) t e
theorem dps_app : ∀ {xs ys : List V} {ds es : List PyData}, DpAll K G xs ds → DpAll K G ys es → DpAll K G (xs ++ ys) (ds ++ es)
  | _, _, _, _, .nil, h => h
  | _, _, _, _, .cons h t, k => .cons h (dps_app t k)
theorem dps_one {v : V} {d : PyData} (h : Dp K G v d) : DpAll K G [v] [d] := .cons h .nil
theorem dps_ints : ∀ ns : List Int, DpAll K G (ns.map V.int) (ns.map PyData.int)
  | [] => .nil
  | n :: r => .cons (.int n) (dps_ints r)
/-! data without lists: stays whatever happens to other things than tuples -/
def Tx (G H : Hp) : Prop := ∀ a xs, Rd G a (.tup xs) → Rd H a (.tup xs)
theorem Tx.refl : Tx G G := fun _ _ h => h
theorem Tx.trans {H I : Hp} (a : Tx G H) (b : Tx H I) : Tx G I := fun x o h => b x o (a x o h)
theorem Ex.tx {H : Hp} (e : Ex G H) : Tx G H := fun _ _ h => e.rd h
def NoTup (G : Hp) (p : Addr) : Prop := ∀ xs, ¬ Rd G p (.tup xs)
theorem noTup_lst {p : Addr} {xs : List V} (h : G p = some (.lst xs)) : NoTup G p := by
  rintro ys (h' | ⟨o, h'⟩) <;> (rw [h] at h'; cases h')
theorem noTup_ins {p C dx : Addr} {fs : List (Str × V)} (h : G p = some (.ins C dx fs)) : NoTup G p := by
  rintro ys (h' | ⟨o, h'⟩) <;> (rw [h] at h'; cases h')
theorem noTup_nul {p : Addr} (h : G p = none) : NoTup G p := by
  rintro ys (h' | ⟨o, h'⟩) <;> (rw [h] at h'; cases h')
theorem Tx.upd {p : Addr} {o : HO} (h : NoTup G p) : Tx G (upd G p o) := fun a xs r => by
  have n : a ≠ p := fun e => h xs (e ▸ r)
  rcases r with r | ⟨q, r⟩
  · exact .inl (by rw [upd_ne n]; exact r)
  · exact .inr ⟨q, by rw [upd_ne n]; exact r⟩
theorem Tx.st {H : Hp} {a : Addr} {xs : List V} (e : Tx G H) (h : SqT K G a xs) : SqT K H a xs := h.elim (fun r => .inl (e _ _ r)) .inr
mutual
inductive Im (K : PySem.W.Frag) (G : Hp) : V → PyData → Prop
  | non : Im K G .non .none
  | bl (b : Bool) : Im K G (.bl b) (.bool b)
  | int (i : Int) : Im K G (.int i) (.int i)
  | str (x : Str) : Im K G (.str x) (.str x)
  | tup {a : Addr} {xs : List V} {ds : List PyData} : SqT K G a xs → Ims K G xs ds → Im K G (.ref a) (.tuple ds)
inductive Ims (K : PySem.W.Frag) (G : Hp) : List V → List PyData → Prop
  | nil : Ims K G [] []
  | cons {v : V} {vs : List V} {d : PyData} {ds : List PyData} : Im K G v d → Ims K G vs ds → Ims K G (v :: vs) (d :: ds)
end
mutual
theorem Im.dp : ∀ {v : V} {d : PyData}, Im K G v d → Dp K G v d
  | _, _, .non => .non
  | _, _, .bl b => .bl b
  | _, _, .int i => .int i
  | _, _, .str x => .str x
  | _, _, .tup s h => .tup s h.dps
theorem Ims.dps : ∀ {v : List V} {d : List PyData}, Ims K G v d → DpAll K G v d
  | _, _, .nil => .nil
  | _, _, .cons h t => .cons h.dp t.dps
end
mutual
theorem Tx.im {H : Hp} (e : Tx G H) : ∀ {v : V} {d : PyData}, Im K G v d → Im K H v d
  | _, _, .non => .non
  | _, _, .bl b => .bl b
  | _, _, .int i => .int i
  | _, _, .str x => .str x
  | _, _, .tup s h => .tup (e.st s) (e.ims h)
theorem Tx.ims {H : Hp} (e : Tx G H) : ∀ {v : List V} {d : List PyData}, Ims K G v d → Ims K H v d
  | _, _, .nil => .nil
  | _, _, .cons h t => .cons (e.im h) (e.ims t)
end
theorem im_tup {v : V} {ds : List PyData} (h : Im K G v (.tuple ds)) : ∃ a xs, v = .ref a ∧ SqT K G a xs ∧ Ims K G xs ds := by cases h with | tup h1 h2 => exact ⟨_, _, rfl, h1, h2⟩
theorem ims_len : ∀ {xs : List V} {ds : List PyData}, Ims K G xs ds → xs.length = ds.length
  | _, _, .nil => rfl
  | _, _, .cons _ t => by rw [List.length_cons, List.length_cons, ims_len t]
theorem ims_get : ∀ {xs : List V} {ds : List PyData} {i : Nat} {d : PyData}, Ims K G xs ds → ds[i]? = some d → ∃ x, xs[i]? = some x ∧ Im K G x d
  | _, _, _, _, .nil, h => by cases h
  | _, _, 0, _, .cons h _, e => by cases e; exact ⟨_, rfl, h⟩
  | _, _, i + 1, _, .cons _ t, e => ims_get (i := i) t e
theorem ims_get' : ∀ {xs : List V} {ds : List PyData} {i : Nat} {x : V}, Ims K G xs ds → xs[i]? = some x → ∃ d, ds[i]? = some d ∧ Im K G x d
  | _, _, _, _, .nil, h => by cases h
  | _, _, 0, _, .cons h _, e => by cases e; exact ⟨_, rfl, h⟩
  | _, _, i + 1, _, .cons _ t, e => ims_get' (i := i) t e
theorem ims_app : ∀ {xs ys : List V} {ds es : List PyData}, Ims K G xs ds → Ims K G ys es → Ims K G (xs ++ ys) (ds ++ es)
  | _, _, _, _, .nil, h => h
  | _, _, _, _, .cons h t, k => .cons h (ims_app t k)
theorem ims_one {v : V} {d : PyData} (h : Im K G v d) : Ims K G [v] [d] := .cons h .nil
theorem ims_ints : ∀ ns : List Int, Ims K G (ns.map V.int) (ns.map PyData.int)
  | [] => .nil
  | n :: r => .cons (.int n) (ims_ints r)
/-! loops with a name for a target -/
abbrev Bd (D : Ek) (N : L2.St → Hp → Prop) : Ek := { D with nx := N, ct := N, bk := D.nx }
theorem es_forR1 {ta : TA} {j : Nat} {tb : TS} (h : Ea ta σ G fun vs G1 => ∃ n : Int, vs = [.int n] ∧ (-(2 ^ 62) ≤ n ∧ n < 2 ^ 62) ∧ ∃ Pv : Nat → L2.St → Hp → Prop, Pv 0 σ G1 ∧
    (∀ (i : Nat) σ G, (i : Int) < n → Pv i σ G → Es tb (Bd D (Pv (i + 1))) (σ.set j (some (.int (i : Int)))) G) ∧ (∀ σ G, Pv n.toNat σ G → D.nx σ G)) : Es (tFor (iRng1 ta) (gName j) tb) D σ G := by
  refine es_for (ei_r1 fun H Q' e l => h H _ e fun vs G1 H1 e1 ⟨n, h1, ⟨h2, h3⟩, Pv, h4, h5, h6⟩ => l _ G1 H1 e1 ⟨n, h1, h2, h3, _, _, _, wk_range, Pv, h4, fun _ _ _ _ _ => trivial, fun i x σ G G' hi p y => ?_, h6⟩)
  obtain ⟨rfl, y⟩ := y
  have : x = .int (i : Int) := by rw [← Option.some.inj y, Int.zero_add]
  subst this
  exact eg_name (h5 i σ G' (by omega) p)
theorem es_forR2 {ta : TA} {j : Nat} {tb : TS} (h : Ea ta σ G fun vs G1 => ∃ lo n : Int, vs = [.int lo, .int n] ∧ (-(2 ^ 62) ≤ lo ∧ lo < 2 ^ 62 ∧ -(2 ^ 62) ≤ n ∧ n < 2 ^ 62) ∧ ∃ Pv : Nat → L2.St → Hp → Prop, Pv 0 σ G1 ∧
    (∀ (i : Nat) σ G, lo + (i : Int) < n → Pv i σ G → Es tb (Bd D (Pv (i + 1))) (σ.set j (some (.int (lo + (i : Int))))) G) ∧ (∀ σ G, Pv (n - lo).toNat σ G → D.nx σ G)) : Es (tFor (iRng2 ta) (gName j) tb) D σ G := by
  refine es_for (ei_r2 fun H Q' e l => h H _ e fun vs G1 H1 e1 ⟨lo, n, h1, h2, Pv, h4, h5, h6⟩ => l _ G1 H1 e1 ⟨lo, n, h1, h2, _, _, _, wk_range, Pv, h4, fun _ _ _ _ _ => trivial, fun i x σ G G' hi p y => ?_, h6⟩)
  obtain ⟨rfl, y⟩ := y
  have : x = .int (lo + (i : Int)) := (Option.some.inj y).symm
  subst this
  exact eg_name (h5 i σ G' (by omega) p)
theorem es_forL {tl : TE} {g : TG} {tb : TS} (h : Ee tl σ G fun v G1 => ∃ a xs, v = .ref a ∧ SqL K G1 a xs ∧ ∃ Pv : Nat → L2.St → Hp → Prop, Pv 0 σ G1 ∧ (∀ i σ G, Pv i σ G → SqL K G a xs) ∧
    (∀ i x σ G, xs[i]? = some x → Pv i σ G → Eg g x σ G fun σ2 G2 => Es tb (Bd D (Pv (i + 1))) σ2 G2) ∧ (∀ σ G, Pv xs.length σ G → D.nx σ G)) : Es (tFor (iList K tl) g tb) D σ G := by
  refine es_for (ei_list fun H Q' e l => h H _ e fun v G1 H1 e1 ⟨a, xs, h1, h2, Pv, h3, h4, h5, h6⟩ => l _ G1 H1 e1 ⟨a, xs, h1, h2, _, _, _, wk_list, Pv, h3, fun i σ G _ p => h4 i σ G p, fun i x σ G G' hi p y => ?_, h6⟩)
  obtain ⟨rfl, y⟩ := y
  exact h5 i x σ G' y p
theorem es_forT {tl : TE} {g : TG} {tb : TS} (h : Ee tl σ G fun v G1 => ∃ a xs, v = .ref a ∧ SqT K G1 a xs ∧ ∃ Pv : Nat → L2.St → Hp → Prop, Pv 0 σ G1 ∧ (∀ i σ G, Pv i σ G → SqT K G a xs) ∧
    (∀ i x σ G, xs[i]? = some x → Pv i σ G → Eg g x σ G fun σ2 G2 => Es tb (Bd D (Pv (i + 1))) σ2 G2) ∧ (∀ σ G, Pv xs.length σ G → D.nx σ G)) : Es (tFor (iTup K tl) g tb) D σ G := by
  refine es_for (ei_tup fun H Q' e l => h H _ e fun v G1 H1 e1 ⟨a, xs, h1, h2, Pv, h3, h4, h5, h6⟩ => l _ G1 H1 e1 ⟨a, xs, h1, h2, _, _, _, wk_tup, Pv, h3, fun i σ G _ p => h4 i σ G p, fun i x σ G G' hi p y => ?_, h6⟩)
  obtain ⟨rfl, y⟩ := y
  exact h5 i x σ G' y p
theorem es_forS {te : TE} {j : Nat} {tb : TS} (h : Ee te σ G fun v G1 => ∃ z, v = .str z ∧ ∃ Pv : Nat → L2.St → Hp → Prop, Pv 0 σ G1 ∧
    (∀ i c σ G, z.cps[i]? = some c → Pv i σ G → Es tb (Bd D (Pv (i + 1))) (σ.set j (some (.str ⟨#[c]⟩))) G) ∧ (∀ σ G, Pv z.cps.size σ G → D.nx σ G)) : Es (tFor (iStr te) (gName j) tb) D σ G := by
  refine es_for (ei_str fun H Q' e l => h H _ e fun v G1 H1 e1 ⟨z, h1, Pv, h3, h5, h6⟩ => l _ G1 H1 e1 ⟨z, h1, _, _, _, wk_str, Pv, h3, fun _ _ _ _ _ => trivial, fun i x σ G G' hi p y => ?_, h6⟩)
  obtain ⟨rfl, y⟩ := y
  obtain ⟨c, hc, rfl⟩ := Option.map_eq_some_iff.mp y
  exact eg_name (h5 i c σ G' hc p)
theorem es_forZ {ta : TA} {g1 g2 : TG} {tb : TS} (h : Ea ta σ G fun vs G1 => ∃ a b xs ys, vs = [.ref a, .ref b] ∧ SqL K G1 a xs ∧ SqL K G1 b ys ∧ ∃ Pv : Nat → L2.St → Hp → Prop, Pv 0 σ G1 ∧ (∀ i σ G, Pv i σ G → SqL K G a xs ∧ SqL K G b ys) ∧
    (∀ i x y σ G T, xs[i]? = some x → ys[i]? = some y → Pv i σ G → G T = none → Egs (gCons g1 (gCons g2 gNil)) [x, y] σ (upd G T (.tup [x, y])) fun σ2 G2 => Es tb (Bd D (Pv (i + 1))) σ2 G2) ∧ (∀ σ G, Pv (min xs.length ys.length) σ G → D.nx σ G)) :
    Es (tFor (iZip K ta) (gTup K 2 (gCons g1 (gCons g2 gNil))) tb) D σ G := by
  refine es_for (ei_zip fun H Q' e l => h H _ e fun vs G1 H1 e1 ⟨a, b, xs, ys, h1, h2, h3, Pv, h4, h5, h6, h7⟩ => l _ G1 H1 e1 ⟨a, b, xs, ys, h1, h2, h3, _, _, _, wk_zip rfl, Pv, h4, fun i σ G _ p => h5 i σ G p, fun i x σ G G' hi p y => ?_, h7⟩)
  obtain ⟨T, x1, y1, rfl, nT, rfl, e1, e2⟩ := y
  exact eg_tup (SqT.of upd_same) rfl (h6 i x1 y1 σ G T e1 e2 p nT)
theorem es_forEn {ta : TA} {g1 g2 : TG} {tb : TS} (h : Ea ta σ G fun vs G1 => ∃ a xs, vs = [.ref a] ∧ SqL K G1 a xs ∧ ∃ Pv : Nat → L2.St → Hp → Prop, Pv 0 σ G1 ∧ (∀ i σ G, Pv i σ G → SqL K G a xs) ∧
    (∀ (i : Nat) x σ G T, xs[i]? = some x → Pv i σ G → G T = none → Egs (gCons g1 (gCons g2 gNil)) [.int (i : Int), x] σ (upd G T (.tup [.int (i : Int), x])) fun σ2 G2 => Es tb (Bd D (Pv (i + 1))) σ2 G2) ∧ (∀ σ G, Pv xs.length σ G → D.nx σ G)) :
    Es (tFor (iEnum K ta) (gTup K 2 (gCons g1 (gCons g2 gNil))) tb) D σ G := by
  refine es_for (ei_enum fun H Q' e l => h H _ e fun vs G1 H1 e1 ⟨a, xs, h1, h2, Pv, h4, h5, h6, h7⟩ => l _ G1 H1 e1 ⟨a, xs, h1, h2, _, _, _, wk_enum, Pv, h4, fun i σ G _ p => h5 i σ G p, fun i x σ G G' hi p y => ?_, h7⟩)
  obtain ⟨T, x1, y1, rfl, nT, rfl, e1, e2⟩ := y
  cases e1
  exact eg_tup (SqT.of upd_same) rfl (h6 i y1 σ G T e2 p nT)
/-! comprehensions -/
theorem ee_lcZ {ta : TA} {g1 g2 : TG} {tt : TT} {te : TE} {vs : List Nat} {Q : V → Hp → Prop}
    (h : Ea ta σ G fun us G1 => ∃ a b xs ys, us = [.ref a, .ref b] ∧ SqL K G1 a xs ∧ SqL K G1 b ys ∧ ∀ p, G1 p = none → ∃ Pv : Nat → List V → Hp → Prop, Pv 0 [] G1 ∧ (∀ i acc G, Pv i acc G → G p = none ∧ acc.length < sizeLine ∧ SqL K G a xs ∧ SqL K G b ys) ∧
      (∀ i acc x y G T, xs[i]? = some x → ys[i]? = some y → Pv i acc G → upd G p (.lst acc) T = none → Egs (gCons g1 (gCons g2 gNil)) [x, y] (wipe σ vs) (upd (upd G p (.lst acc)) T (.tup [x, y])) fun σ2 G2 => wipe σ2 vs = wipe σ vs ∧ Et tt σ2 G2 fun b G3 =>
        if b = true then Ee te σ2 G3 fun y G4 => G4 p = some (.lst acc) ∧ ∃ G5, Ex (upd G5 p (.lst acc)) G4 ∧ Pv (i + 1) (acc ++ [y]) G5 else G3 p = some (.lst acc) ∧ ∃ G5, Ex (upd G5 p (.lst acc)) G3 ∧ Pv (i + 1) acc G5) ∧
      (∀ acc G, Pv (min xs.length ys.length) acc G → Q (.ref p) (upd G p (.lst acc)))) : Ee (tLc (iZip K ta) (gTup K 2 (gCons g1 (gCons g2 gNil))) tt te vs) σ G Q := by
  refine ee_lc (ei_zip fun H Q' e l => h H _ e fun us G1 H1 e1 ⟨a, b, xs, ys, h1, h2, h3, hh⟩ => l _ G1 H1 e1 ⟨a, b, xs, ys, h1, h2, h3, _, (fun G => SqL K G a xs ∧ SqL K G b ys), _, wk_zip (a := a) (b := b) (xs := xs) (ys := ys) rfl, fun G p o hg hn => ⟨(Ex.new hn).sl hg.1, (Ex.new hn).sl hg.2⟩, fun p hp => ?_⟩)
  obtain ⟨Pv, h4, h5, h6, h7⟩ := hh p hp
  refine ⟨Pv, h4, fun i acc G _ p => h5 i acc G p, fun i acc x G G' hi p y => ?_, h7⟩
  obtain ⟨T, x1, y1, rfl, nT, rfl, e1, e2⟩ := y
  exact eg_tup (SqT.of upd_same) rfl (h6 i acc x1 y1 G T e1 e2 p nT)
theorem ee_lcL {tl : TE} {g : TG} {tt : TT} {te : TE} {vs : List Nat} {Q : V → Hp → Prop}
    (h : Ee tl σ G fun v G1 => ∃ a xs, v = .ref a ∧ SqL K G1 a xs ∧ ∀ p, G1 p = none → ∃ Pv : Nat → List V → Hp → Prop, Pv 0 [] G1 ∧ (∀ i acc G, Pv i acc G → G p = none ∧ acc.length < sizeLine ∧ SqL K G a xs) ∧
      (∀ i acc x G, xs[i]? = some x → Pv i acc G → Eg g x (wipe σ vs) (upd G p (.lst acc)) fun σ2 G2 => wipe σ2 vs = wipe σ vs ∧ Et tt σ2 G2 fun b G3 =>
        if b = true then Ee te σ2 G3 fun y G4 => G4 p = some (.lst acc) ∧ ∃ G5, Ex (upd G5 p (.lst acc)) G4 ∧ Pv (i + 1) (acc ++ [y]) G5 else G3 p = some (.lst acc) ∧ ∃ G5, Ex (upd G5 p (.lst acc)) G3 ∧ Pv (i + 1) acc G5) ∧
      (∀ acc G, Pv xs.length acc G → Q (.ref p) (upd G p (.lst acc)))) : Ee (tLc (iList K tl) g tt te vs) σ G Q := by
  refine ee_lc (ei_list fun H Q' e l => h H _ e fun v G1 H1 e1 ⟨a, xs, h1, h2, hh⟩ => l _ G1 H1 e1 ⟨a, xs, h1, h2, _, (fun G => SqL K G a xs), _, wk_list (a := a) (xs := xs), fun G p o hg hn => (Ex.new hn).sl hg, fun p hp => ?_⟩)
  obtain ⟨Pv, h4, h5, h6, h7⟩ := hh p hp
  refine ⟨Pv, h4, fun i acc G _ p => h5 i acc G p, fun i acc x G G' hi p y => ?_, h7⟩
  obtain ⟨rfl, y⟩ := y
  exact h6 i acc x G y p
theorem ee_lcR1 {ta : TA} {j : Nat} {tt : TT} {te : TE} {vs : List Nat} {Q : V → Hp → Prop}
    (h : Ea ta σ G fun us G1 => ∃ n : Int, us = [.int n] ∧ (-(2 ^ 62) ≤ n ∧ n < 2 ^ 62) ∧ ∀ p, G1 p = none → ∃ Pv : Nat → List V → Hp → Prop, Pv 0 [] G1 ∧ (∀ i acc G, Pv i acc G → G p = none ∧ acc.length < sizeLine) ∧
      (∀ (i : Nat) acc G, (i : Int) < n → Pv i acc G → wipe ((wipe σ vs).set j (some (.int (i : Int)))) vs = wipe σ vs ∧ Et tt ((wipe σ vs).set j (some (.int (i : Int)))) (upd G p (.lst acc)) fun b G3 =>
        if b = true then Ee te ((wipe σ vs).set j (some (.int (i : Int)))) G3 fun y G4 => G4 p = some (.lst acc) ∧ ∃ G5, Ex (upd G5 p (.lst acc)) G4 ∧ Pv (i + 1) (acc ++ [y]) G5 else G3 p = some (.lst acc) ∧ ∃ G5, Ex (upd G5 p (.lst acc)) G3 ∧ Pv (i + 1) acc G5) ∧
      (∀ acc G, Pv n.toNat acc G → Q (.ref p) (upd G p (.lst acc)))) : Ee (tLc (iRng1 ta) (gName j) tt te vs) σ G Q := by
  refine ee_lc (ei_r1 fun H Q' e l => h H _ e fun us G1 H1 e1 ⟨n, h1, ⟨h2, h3⟩, hh⟩ => l _ G1 H1 e1 ⟨n, h1, h2, h3, _, _, _, wk_range, fun G p o hg hn => trivial, fun p hp => ?_⟩)
  obtain ⟨Pv, h4, h5, h6, h7⟩ := hh p hp
  refine ⟨Pv, h4, fun i acc G _ p => ⟨(h5 i acc G p).1, (h5 i acc G p).2, trivial⟩, fun i acc x G G' hi p y => ?_, h7⟩
  obtain ⟨rfl, y⟩ := y
  have : x = .int (i : Int) := by rw [← Option.some.inj y, Int.zero_add]
  subst this
  exact eg_name (h6 i acc G (by omega) p)
end
end Lw

namespace Lw
open PySem PySem.Spec PyProof.Rows L2
section
variable {σ : L2.St} {G : Hp} {D : Ek} {K : PySem.W.Frag}
def rInsertU : V → List V → Hp → VK → Prop := fun x vs H Q => ∃ (l : Addr) (xs : List V) (i : Int) (y : V), x = .ref l ∧ vs = [.int i, y] ∧ H l = some (.lst xs) ∧ xs.length < sizeLine ∧ 0 ≤ i ∧ i < 2 ^ 63 ∧
    Q .non (upd H l (.lst (xs.take i.toNat ++ [y] ++ xs.drop i.toNat)))
theorem mt_insertU {X : Cx} : MtR X "list.insert" rInsertU := mt_insert
theorem em_insert {l : Addr} {xs : List V} {i : Nat} {y : V} {Q : V → Hp → Prop} (h : G l = some (.lst xs)) (hz : xs.length < sizeLine) (hi : i < 2 ^ 63) (q : Q .non (upd G l (.lst (xs.take i ++ [y] ++ xs.drop i)))) : Em rInsertU (.ref l) [.int (i : Int), y] G Q := fun H Q' e k =>
  ⟨l, xs, i, y, rfl, rfl, e _ _ h, hz, Int.natCast_nonneg _, by omega, k _ _ _ e.put q⟩
theorem eg_lst {n : Nat} {t : TGs} {a : Addr} {xs : List V} {Q : L2.St → Hp → Prop} (h : SqL K G a xs) (hn : xs.length = n) (q : Egs t xs σ G Q) : Eg (gLst K n t) (.ref a) σ G Q := fun H Q' e l =>
  ⟨a, xs, rfl, e.sl h, hn, q H Q' e l⟩
theorem em_popAt {p : Addr} {xs : List V} {y : V} {i : Nat} {Q : V → Hp → Prop} (h : G p = some (.lst xs)) (hz : xs.length < 2 ^ 62) (hy : xs[i]? = some y) (q : Q y (upd G p (.lst (xs.eraseIdx i)))) : Em rPopAt (.ref p) [.int (i : Int)] G Q := fun H Q' e l => by
  have hi := (List.getElem?_eq_some_iff.mp hy).1
  exact ⟨p, xs, i, i, y, rfl, rfl, e _ _ h, by omega, by omega, by rw [seqIndex_of (by omega) (by omega)]; simp, hy, l _ _ _ e.put q⟩
theorem Eg.weak {G' : Hp} {g : TG} {v : V} {Q : L2.St → Hp → Prop} (e : Ex G G') (h : Eg g v σ G Q) : Eg g v σ G' Q := fun H D' x l => h H D' (e.trans x) l
theorem Er.weak {G' : Hp} {r : R2} {x y : V} {Q : V → Hp → Prop} (e : Ex G G') (h : Er r x y G Q) : Er r x y G' Q := fun H D' z l => h H D' (e.trans z) l
theorem Et.weak {G' : Hp} {t : TT} {Q : Bool → Hp → Prop} (e : Ex G G') (h : Et t σ G Q) : Et t σ G' Q := fun H D' z l => h H D' (e.trans z) l
theorem Ec.weak {G' : Hp} {r : List V → Hp → VK → Prop} {x : List V} {Q : V → Hp → Prop} (e : Ex G G') (h : Ec r x G Q) : Ec r x G' Q := fun H D' z l => h H D' (e.trans z) l
theorem Em.weak {G' : Hp} {r : V → List V → Hp → VK → Prop} {y : V} {x : List V} {Q : V → Hp → Prop} (e : Ex G G') (h : Em r y x G Q) : Em r y x G' Q := fun H D' z l => h H D' (e.trans z) l
theorem ex_swap {p p2 : Addr} {u o : HO} (hp : G p = none) : Ex (upd G p2 o) (upd (upd G p u) p2 o) := (Ex.new hp).put
theorem er_eqNI {i : Int} {Q : V → Hp → Prop} (q : Q (.bl false) G) : Er (rEqU K) .non (.int i) G Q := er_orL fun H Q' e l => ⟨rfl, l _ G H e (by rw [decide_eq_false (by intro z; cases z)]; exact q)⟩
/-! pieces of a heap, apart from one another -/
def Dis (F R : Hp) : Prop := ∀ a, F a = none ∨ R a = none
theorem Dis.symm {F R : Hp} (d : Dis F R) : Dis R F := fun a => (d a).symm
theorem Dis.put {F R : Hp} {p : Addr} {o : HO} (d : Dis F R) (h : R p = none) : Dis (upd F p o) R := fun a => by
  by_cases e : a = p
  · exact .inr (e ▸ h)
  · rw [upd_ne e]; exact d a
def Fr (F G F' G' : Hp) : Prop := ∀ R, Dis F R → Ex R G → Ex R G' ∧ Dis F' R
theorem Fr.refl {F : Hp} : Fr F G F G := fun _ d e => ⟨e, d⟩
theorem Fr.trans {F F1 F2 G1 G2 : Hp} (a : Fr F G F1 G1) (b : Fr F1 G1 F2 G2) : Fr F G F2 G2 := fun R d e => let ⟨e1, d1⟩ := a R d e; b R d1 e1
theorem Fr.new {F : Hp} {p : Addr} {o : HO} (h : G p = none) : Fr F G (upd F p o) (upd G p o) := fun R d e => ⟨e.trans (Ex.new h), d.put (e.nul h)⟩
theorem Fr.mut {F : Hp} {p : Addr} {o u : HO} (h : F p = some u) : Fr F G (upd F p o) (upd G p o) := fun R d e => by
  have n : R p = none := (d p).resolve_left (by rw [h]; simp)
  exact ⟨e.mut n, d.put n⟩
theorem Fr.junk {F G' : Hp} (h : Ex G G') : Fr F G F G' := fun R d e => ⟨e.trans h, d⟩
/-- the pieces are known and apart -/
structure Ap (L : List Hp) (G : Hp) : Prop where
  ex : ∀ F ∈ L, Ex F G
  dis : L.Pairwise Dis
theorem Ap.fr {L1 L2 : List Hp} {F F' G' : Hp} (a : Ap (L1 ++ F :: L2) G) (f : Fr F G F' G') (e : Ex F' G') : Ap (L1 ++ F' :: L2) G' := by
  have hp := List.pairwise_append.mp a.dis
  have hc := List.pairwise_cons.mp hp.2.1
  refine ⟨fun X hX => ?_, List.pairwise_append.mpr ⟨hp.1, List.pairwise_cons.mpr ⟨fun R hR => ?_, hc.2⟩, fun R hR X hX => ?_⟩⟩
  · rcases List.mem_append.mp hX with h | h
    · exact (f X (hp.2.2 X h F List.mem_cons_self).symm (a.ex X (List.mem_append_left _ h))).1
    · rcases List.mem_cons.mp h with rfl | h
      · exact e
      · exact (f X (hc.1 X h) (a.ex X (List.mem_append_right _ (List.mem_cons_of_mem _ h)))).1
  · exact (f R (hc.1 R hR) (a.ex R (List.mem_append_right _ (List.mem_cons_of_mem _ hR)))).2
  · rcases List.mem_cons.mp hX with rfl | h
    · exact ((f R (hp.2.2 R hR F List.mem_cons_self).symm (a.ex R (List.mem_append_left _ hR))).2).symm
    · exact hp.2.2 R hR X (List.mem_cons_of_mem _ h)
theorem Ap.junk {L : List Hp} {G' : Hp} (a : Ap L G) (e : Ex G G') : Ap L G' := ⟨fun F h => (a.ex F h).trans e, a.dis⟩
/-- a new piece -/
def one (p : Addr) (o : HO) : Hp := upd (fun _ => none) p o
theorem Ap.add {L : List Hp} {p : Addr} {o : HO} (a : Ap L G) (h : G p = none) : Ap (one p o :: L) (upd G p o) :=
  ⟨fun F hF => by
    rcases List.mem_cons.mp hF with rfl | hF
    · exact Ex.putL (fun _ _ z => by cases z) upd_same
    · exact (a.ex F hF).trans (Ex.new h),
   List.pairwise_cons.mpr ⟨fun R hR => (show Dis (one p o) R from (show Dis (fun _ => none) R from fun _ => .inl rfl).put ((a.ex R hR).nul h)), a.dis⟩⟩
theorem Ap.drop1 {L : List Hp} {F : Hp} (a : Ap (F :: L) G) : Ap L G := ⟨fun X h => a.ex X (List.mem_cons_of_mem _ h), (List.pairwise_cons.mp a.dis).2⟩
theorem Ap.perm {L L' : List Hp} (a : Ap L G) (p : L'.Perm L) : Ap L' G := ⟨fun F h => a.ex F (p.mem_iff.mp h), (p.pairwise_iff (fun d => Dis.symm d)).mpr a.dis⟩
end
end Lw

namespace Lw
open PySem PySem.Spec PyProof.Rows L2
/-! ## defs that may raise an own error, and a try that catches it -/
/-- an own class of errors -/
structure Xc (K : PySem.W.Frag) (C : Addr) : Prop where
  q : PySem.W.excIn K C [.type "ValueError", .type "Exception", .type "BaseException", .type "object"] "ValueError.__new__" = true
  k : PySem.W.keepIn K (.ref C) = true
  b : PySem.W.subIn K (.ref C) (.type "BaseException") = some true
  t : PySem.W.typeIn K (.ref C) = some (.type "type")
  c : PySem.W.isClsIn K C = true
  s : PySem.W.subIn K (.ref C) (.ref C) = some true
theorem Xc.ex {K : PySem.W.Frag} {S : Addr} (X : Xc K S) : PySem.W.exmOne K (.ref S) (.ref S) = some true := by
  have e1 : (PySem.W.subIn K (.ref S) (.type "BaseException") == some true) = true := by rw [X.b] <;> rfl
  have e2 : ((PySem.W.clsIn K S).isSome && PySem.W.typeIn K (.ref S) == some (.type "type")) = true := by
    have h2' : (PySem.W.clsIn K S).isSome = true := X.c
    rw [h2', X.t] <;> rfl
  show (if (PySem.W.subIn K (.ref S) (.type "BaseException") == some true) = true then (if ((PySem.W.clsIn K S).isSome && PySem.W.typeIn K (.ref S) == some (.type "type")) = true then PySem.W.subIn K (.ref S) (.ref S) else none) else none) = some true
  rw [if_pos e1, if_pos e2]
  exact X.s
/-- raise C('..') -/
def tRz (C : Addr) (E : XK) : TS := fun _ _ H => E (.ref C) none H
theorem ps_rz {X : Cx} {C : Addr} {E : XK} {x m : Str} {j : Nat} {p p2 pos pos2 : Pos} (hc : X.calm = true) (T : Xc X.K C) (gC : X.mg x = some (.ref C)) (tk : Takes X fun cls d _ H => E cls d H) (hg : Gl X x)
    (hdb : (x == ("__debug__" : Str)) = false := by decide) : PS X (.Raise (some (.Call (.Name x p) [.Constant (.str m) j p2] [] pos)) none pos2) (tRz C E) :=
  ps_raise hc tk (pmk_own PySem.F.excBase_ValueError T.q gC T.k (raises_own T.b T.t) hg hdb)
theorem es_rz {C : Addr} {E : XK} {D : Ek} {σ : L2.St} {G : Hp} (h : dn E (.ref C) none G) : Es (tRz C E) D σ G := fun H _ e _ => h H e
/-- what a try wishes of its body's calls -/
abbrev WA (W : WX) : XK := fun cls d H => ∀ σ, W cls d σ H
theorem pass_try {X : Cx} {W : WX} (tk : Takes X W) : Passes (L2.CX X.prog X.w) X (WA W) := passes_call tk fun _ _ σ _ h => h σ
theorem pass_own {X : Cx} {E : XK} (tk : Takes X fun cls d _ H => E cls d H) : Passes (L2.CX X.prog X.w) X E := passes_call tk fun _ _ _ _ h => h
/-- try: .. except C: .. -/
def tTryO (K : PySem.W.Frag) (C : Addr) (tb : WX → TS) (ts : TS) : TS := fun D σ H => tb (wOnly K (.ref C) (fun _ _ _ => ts) (fun _ _ _ _ => False) D) D σ H
theorem es_try {K : PySem.W.Frag} {C : Addr} {tb : WX → TS} {ts : TS} {D : Ek} {σ : L2.St} {G : Hp} (X : Xc K C) (h : ∀ W : WX, (∀ σ' G' H', Ex G' H' → Es ts D σ' G' → W (.ref C) none σ' H') → Es (tb W) D σ G) : Es (tTryO K C tb ts) D σ G := fun H D' e l =>
  h _ (fun σ' G' H' e' hs => ⟨true, X.ex, fun _ a _ => hs H' D' e' l, fun z => Bool.noConfusion z⟩) H D' e l
theorem dn_wa {W : WX} {C : Addr} {ts : TS} {D : Ek} {G : Hp} (hW : ∀ σ' G' H', Ex G' H' → Es ts D σ' G' → W (.ref C) none σ' H') (h : ∀ σ', Es ts D σ' G) : dn (WA W) (.ref C) none G := fun H e σ' => hW σ' G H e (h σ')
theorem dn_dn {E : XK} {E0 : XK} {c : Value} {d : Option Addr} {G : Hp} (h : E0 c d G) (le : ∀ c d G', E0 c d G' → dn E c d G') : dn E c d G := le _ _ _ h
section
variable {P : Program} {w : World} {K : PySem.W.Frag} {mg : Str → Option Value} {base : Heap}
theorem body_upX {S : Pm} {t : XK → TS} {N : List Str} (h : ∀ vs G Q E, S vs G Q (dn E) → Es (t E) { nx := fun _ G' => Q .non G', rt := Q } (start N vs) G)
    (hm : ∀ vs G Q E E', S vs G Q E → (∀ c d G', E c d G' → E' c d G') → S vs G Q E') : ∀ vs H Q E, up S vs H Q E → t E { nx := fun _ H' => Q .non H', rt := Q } (start N vs) H := by
  rintro vs H Q E ⟨G, Q0, E0, e, hS, lq, le⟩
  exact h vs G Q0 E (hm _ _ _ _ _ hS fun c d G' h H' e' => le c d G' H' e' h) H _ e ⟨fun _ G H e q => lq _ _ _ e q, fun v G H e q => lq _ _ _ e q, fun _ _ _ _ z => z.elim, fun _ _ _ _ z => z.elim⟩
theorem fnokX {x qual : Str} {st : Stmt} {f : Addr} {fd : FuncData} {N ps : List Str} {k : Nat} {S : Pm} {t : XK → TS} (F : Fun K x qual st f fd) (sc : FnScope N ps (defScope st))
    (len : ∀ vs G Q E, S vs G Q E → vs.length = ps.length)
    (der : ∀ (f : Addr) (cdv : Value) (A : Around) (outer : List Env) (s : Shared) (H : Hp) (E : XK), Room k (A.deeper (envOfC qual (defScope st) s.heap.objs.size f cdv)) → PSs (cxOf (L2.CX P w) P w K mg base N qual (defScope st) f cdv A outer s H E) (defBody st) (t E))
    (pure : ∀ vs G Q E, S vs G Q (dn E) → Es (t E) { nx := fun _ G' => Q .non G', rt := Q } (start N vs) G)
    (hm : ∀ vs G Q E E', S vs G Q E → (∀ c d G', E c d G' → E' c d G') → S vs G Q E') : FnOk P w K mg base (L2.CX P w) (k + 1) f fd ps (up S) :=
  F.okX sc (fun vs H Q E ⟨G, Q0, E0, _, h, _⟩ => len vs G Q0 E0 h) fun cdv A outer s H vs Q E hr h => ⟨t E, der f cdv A outer s H E hr, body_upX pure hm vs H Q E h⟩
theorem HasM.mkX {C : Addr} {m qual : Str} {st : Stmt} {N ps : List Str} {k : Nat} {S : Pm} {t : XK → TS} (F : FndM K C m qual st) (sc : FnScope N ps (defScope st)) (hb : BindOk m qual st ps)
    (len : ∀ vs G Q E, S vs G Q E → vs.length = ps.length)
    (der : ∀ (f : Addr) (cdv : Value) (A : Around) (outer : List Env) (s : Shared) (H : Hp) (E : XK), Room k (A.deeper (envOfC qual (defScope st) s.heap.objs.size f cdv)) → PSs (cxOf (L2.CX P w) P w K mg base N qual (defScope st) f cdv A outer s H E) (defBody st) (t E))
    (pure : ∀ vs G Q E, S vs G Q (dn E) → Es (t E) { nx := fun _ G' => Q .non G', rt := Q } (start N vs) G)
    (hm : ∀ vs G Q E E', S vs G Q E → (∀ c d G', E c d G' → E' c d G') → S vs G Q E') : HasM P w K mg base (L2.CX P w) (k + 1) C m ps (up S) := by
  obtain ⟨f, fd, hm', F⟩ := F.ex
  exact ⟨f, fd, hm', F.binds hb, fnokX F sc len der pure hm⟩
theorem Has.mkX {x : Str} {st : Stmt} {N ps : List Str} {k : Nat} {S : Pm} {t : XK → TS} (F : Fnd K mg x st) (sc : FnScope N ps (defScope st)) (hb : BindOk x x st ps)
    (len : ∀ vs G Q E, S vs G Q E → vs.length = ps.length)
    (der : ∀ (f : Addr) (cdv : Value) (A : Around) (outer : List Env) (s : Shared) (H : Hp) (E : XK), Room k (A.deeper (envOfC x (defScope st) s.heap.objs.size f cdv)) → PSs (cxOf (L2.CX P w) P w K mg base N x (defScope st) f cdv A outer s H E) (defBody st) (t E))
    (pure : ∀ vs G Q E, S vs G Q (dn E) → Es (t E) { nx := fun _ G' => Q .non G', rt := Q } (start N vs) G)
    (hm : ∀ vs G Q E E', S vs G Q E → (∀ c d G', E c d G' → E' c d G') → S vs G Q E') : Has P w K mg base (L2.CX P w) (k + 1) x ps (up S) := by
  obtain ⟨f, fd, hm', F⟩ := F.ex
  exact ⟨f, fd, hm', F.kp, F.binds hb, fnokX F sc len der pure hm⟩
end
/-- xs.f += y on an object -/
theorem es_fldaug {K : PySem.W.Frag} {ta tv : TE} {rd : V → V → Hp → VK → Prop} {f : Str} {D : Ek} {σ : L2.St} {G : Hp}
    (h : Ee ta σ G fun x G1 => ∃ a C dx fs v, x = .ref a ∧ G1 a = some (.ins C dx fs) ∧ Cls K C ∧ NoAttr K C f ∧ fs.lookup f = some v ∧
      Ee tv σ G1 fun y G2 => Eip rd v y G2 fun z G3 => ∃ dx' fs', G3 a = some (.ins C dx' fs') ∧ fs'.length < 1000 ∧ D.nx σ (upd G3 a (.ins C dx' (putF f z fs')))) : Es (sFldAug K ta tv rd f) D σ G := fun H D' e l =>
  h H _ e fun x G1 H1 e1 ⟨a, C, dx, fs, v, h1, h2, h3, h4, h5, h6⟩ => ⟨a, C, dx, fs, v, h1, e1 _ _ h2, h3, h4, h5, h6 H1 _ e1 fun y G2 H2 e2 h7 => h7 H2 _ e2 fun z G3 H3 e3 ⟨dx', fs', h8, h9, q⟩ => ⟨dx', fs', e3 _ _ h8, h9, l.nx _ _ _ e3.put q⟩⟩
theorem pe_globE {X : Cx} {x : Str} {v : V} {p : Pos} (hg : Gl X x) (h : ∃ u, RelV v u ∧ X.mg x = some u) (hdb : (x == ("__debug__" : Str)) = false := by decide) : PE X (.Name x p) (tC v) := by
  obtain ⟨u, r, m⟩ := h
  exact pe_glob hg m r hdb
end Lw

namespace Lw
open PySem L2
structure Ad where
  cReader : Addr
  cDamagedPacket : Addr
/-- the class of readers: its attributes are the instances' own; the error's class -/
structure Cf (K : PySem.W.Frag) (A : Ad) : Prop where
  cl : Cls K A.cReader
  n1 : NoAttr K A.cReader "data"
  n2 : NoAttr K A.cReader "at"
  xc : Xc K A.cDamagedPacket
end Lw

namespace Lw
open PySem PySem.Spec PyProof.Rows L2
local macro_rules | `(tactic| k_extra "x1") => `(tactic| first
  | with_reducible refine es_seq ?_
  | with_reducible refine es_asg ?_
  | with_reducible refine es_if ?_
  | with_reducible refine es_ret ?_
  | with_reducible refine es_drop ?_
  | with_reducible refine es_next ?_
  | with_reducible refine es_augS ?_
  | with_reducible refine es_fld ?_
  | ((with_reducible show Ee (tVar _) _ _ _); refine ee_var rfl ?_)
  | with_reducible refine ee_c ?_
  | with_reducible refine ee_op ?_
  | with_reducible refine ee_un ?_
  | with_reducible refine eu_neg ?_
  | with_reducible refine ee_cb ?_
  | with_reducible refine ee_call ?_
  | with_reducible refine ea_nil ?_
  | with_reducible refine ea_cons ?_
  | with_reducible refine ee_sl ?_
  | with_reducible refine eo_no ?_
  | with_reducible refine eo_part ?_
  | with_reducible refine ee_tup ?_
  | with_reducible refine ee_lst ?_
  | with_reducible refine et_test ?_
  | with_reducible refine et_tB ?_
  | with_reducible refine et_tru ?_
  | with_reducible refine et_and ?_
  | with_reducible refine et_or ?_
  | with_reducible refine et_not ?_
  | with_reducible refine ee_and ?_
  | with_reducible refine ee_or ?_
  | with_reducible refine ee_not ?_
  | with_reducible refine ee_if ?_
  | with_reducible refine ee_chain ?_
  | with_reducible refine er_addI ?_
  | with_reducible refine er_subI ?_
  | with_reducible refine er_eqI ?_
  | with_reducible refine er_neI ?_
  | with_reducible refine er_eqNI ?_
  | with_reducible refine er_eqS ?_
  | with_reducible refine er_neS ?_
  | with_reducible refine er_eqB ?_
  | with_reducible refine er_neB ?_
  | with_reducible refine er_lt ?_
  | with_reducible refine er_le ?_
  | with_reducible refine er_gt ?_
  | with_reducible refine er_ge ?_
  | with_reducible refine er_isN_non ?_
  | with_reducible refine er_isN_bl ?_
  | with_reducible refine er_isN_int ?_
  | with_reducible refine er_isN_str ?_
  | with_reducible refine er_isN_ref ?_
  | with_reducible refine er_notN_non ?_
  | with_reducible refine er_notN_bl ?_
  | with_reducible refine er_notN_int ?_
  | with_reducible refine er_notN_str ?_
  | with_reducible refine er_notN_ref ?_
  | with_reducible refine er_isN ?_
  | with_reducible refine er_notN ?_
  | with_reducible refine ec_int ?_
  | with_reducible refine ec_intB ?_
  | with_reducible refine ec_max2 ?_
  | with_reducible refine ec_min2 ?_
  | with_reducible refine ip_I ?_
  | ((with_reducible refine eg_name ?_); (try dsimp only [L2.wipe, List.set_cons_zero, List.set_cons_succ]))
  | with_reducible refine eg_sub ?_
  | with_reducible refine egs_cons ?_
  | with_reducible refine egs_nil ?_
  | with_reducible refine tru_bl ?_
  | with_reducible refine tru_int ?_
  | with_reducible refine tru_non ?_
  | with_reducible refine iteT ?_
  | with_reducible refine iteF ?_
  | with_reducible refine ite_nt ?_
  | with_reducible refine ite_nf ?_
  | with_reducible refine ⟨_, rfl, ?_⟩)
local macro_rules | `(tactic| k_extra "s") => `(tactic| ((first | k_extra "x1" | ((with_reducible refine es_unf ?_); refine es_seq ?_)); (repeat k_extra "x1")))
local macro_rules | `(tactic| k_extra "x") => `(tactic| (repeat first | k_extra "x1" | ((with_reducible refine es_unf ?_); refine es_seq ?_)))
local macro_rules | `(tactic| k_extra "start") => `(tactic| dsimp only [L2.start, List.map_cons, List.map_nil, List.length_cons, List.length_nil, Nat.reduceAdd, Nat.reduceSub, List.replicate, List.cons_append, List.nil_append, Nat.zero_add])
local macro_rules | `(tactic| k_extra "e1") => `(tactic| first
  | with_reducible refine es_next ?_
  | ((with_reducible show Ee (tVar _) _ _ _); refine ee_var rfl ?_)
  | with_reducible refine ee_c ?_
  | with_reducible refine ee_op ?_
  | with_reducible refine ee_un ?_
  | with_reducible refine eu_neg ?_
  | with_reducible refine ee_cb ?_
  | with_reducible refine ee_call ?_
  | with_reducible refine ea_nil ?_
  | with_reducible refine ea_cons ?_
  | with_reducible refine ee_sl ?_
  | with_reducible refine eo_no ?_
  | with_reducible refine eo_part ?_
  | with_reducible refine ee_tup ?_
  | with_reducible refine ee_lst ?_
  | with_reducible refine et_test ?_
  | with_reducible refine et_tB ?_
  | with_reducible refine et_tru ?_
  | with_reducible refine et_and ?_
  | with_reducible refine et_or ?_
  | with_reducible refine et_not ?_
  | with_reducible refine ee_and ?_
  | with_reducible refine ee_or ?_
  | with_reducible refine ee_not ?_
  | with_reducible refine ee_if ?_
  | with_reducible refine ee_chain ?_
  | with_reducible refine er_addI ?_
  | with_reducible refine er_subI ?_
  | with_reducible refine er_eqI ?_
  | with_reducible refine er_neI ?_
  | with_reducible refine er_eqNI ?_
  | with_reducible refine er_eqS ?_
  | with_reducible refine er_neS ?_
  | with_reducible refine er_eqB ?_
  | with_reducible refine er_neB ?_
  | with_reducible refine er_lt ?_
  | with_reducible refine er_le ?_
  | with_reducible refine er_gt ?_
  | with_reducible refine er_ge ?_
  | with_reducible refine er_isN_non ?_
  | with_reducible refine er_isN_bl ?_
  | with_reducible refine er_isN_int ?_
  | with_reducible refine er_isN_str ?_
  | with_reducible refine er_isN_ref ?_
  | with_reducible refine er_notN_non ?_
  | with_reducible refine er_notN_bl ?_
  | with_reducible refine er_notN_int ?_
  | with_reducible refine er_notN_str ?_
  | with_reducible refine er_notN_ref ?_
  | with_reducible refine er_isN ?_
  | with_reducible refine er_notN ?_
  | with_reducible refine ec_int ?_
  | with_reducible refine ec_intB ?_
  | with_reducible refine ec_max2 ?_
  | with_reducible refine ec_min2 ?_
  | with_reducible refine ip_I ?_
  | ((with_reducible refine eg_name ?_); (try dsimp only [L2.wipe, List.set_cons_zero, List.set_cons_succ]))
  | with_reducible refine eg_sub ?_
  | with_reducible refine egs_cons ?_
  | with_reducible refine egs_nil ?_
  | with_reducible refine tru_bl ?_
  | with_reducible refine tru_int ?_
  | with_reducible refine tru_non ?_
  | with_reducible refine iteT ?_
  | with_reducible refine iteF ?_
  | with_reducible refine ite_nt ?_
  | with_reducible refine ite_nf ?_
  | with_reducible refine ex_bl ?_
  | with_reducible refine ex_int ?_
  | with_reducible refine ex_str ?_
  | with_reducible refine ex_strx ?_
  | with_reducible refine ex_ints1 ?_
  | with_reducible refine ex_ints2 ?_)
local macro_rules | `(tactic| k_extra "t1") => `(tactic| first
  | with_reducible refine es_asg ?_
  | with_reducible refine es_if ?_
  | with_reducible refine es_ret ?_
  | with_reducible refine es_drop ?_
  | with_reducible refine es_augS ?_
  | with_reducible refine es_fld ?_)
local macro_rules | `(tactic| k_extra "e") => `(tactic| first
  | ((with_reducible refine es_seq ?_); (try k_extra "t1"); (repeat k_extra "e1"))
  | (k_extra "t1"; (repeat k_extra "e1"))
  | (k_extra "e1"; (repeat k_extra "e1"))
  | ((with_reducible refine es_unf ?_); (refine es_seq ?_); (try k_extra "t1"); (repeat k_extra "e1")))
/-! ### numbers drawn from the script -/
def S__law_mix (K : PySem.W.Frag) (A : Ad) : Pm := fun vs G Q _ => ∃ c k : Int, vs = [.int c, .int k] ∧ ∀ r, 0 ≤ r → r < 9973 → Q (.int r) G
/-! _law_mix -/
def t__law_mix_1 (K : PySem.W.Frag) (A : Ad) : TS := tSeq (tAsg (tOp (rModU) (tCB (rInt1) (tCons (tOp (rAddU K) (tOp (rAddU K) (tOp (rMulU) (tVar 2) (tVar 2)) (tOp (rMulU) (tVar 1) (tC (.int 40692)))) (tC (.int 1))) tNil)) (tC (.int 2147483399))) (gName 2)) (tRet (tOp (rModU) (tOp (rDivU) (tVar 2) (tC (.int 5))) (tC (.int 9973))))
def t__law_mix (K : PySem.W.Frag) (A : Ad) : TS := tSeq (tAsg (tOp (rModU) (tCB (rInt1) (tCons (tOp (rAddU K) (tOp (rAddU K) (tOp (rMulU) (tCB (rInt1) (tCons (tVar 0) tNil)) (tC (.int 48271))) (tOp (rMulU) (tVar 1) (tC (.int 69621)))) (tC (.int 12345))) tNil)) (tC (.int 2147483647))) (gName 2)) (t__law_mix_1 K A)
theorem len__law_mix {K : PySem.W.Frag} {A : Ad} : ∀ vs G Q E, S__law_mix K A vs G Q E → vs.length = ["cell", "k"].length := by
  rintro vs G Q E ⟨c, k, rfl, _⟩; rfl
theorem ok__law_mix {K : PySem.W.Frag} {A : Ad} : ∀ vs G Q E, S__law_mix K A vs G Q E → Es (t__law_mix K A) { nx := fun _ G' => Q .non G', rt := Q } (L2.start ["cell", "k", "value"] vs) G := by
  rintro vs G Q E ⟨c, k, rfl, q⟩
  change Es _ _ (_ :: _ :: _ :: []) _
  k_extra "e"
  refine er_mulR (by decide) ?_
  k_extra "e"
  refine er_mulR (by decide) ?_
  k_extra "e"
  refine er_mod (by decide) ?_
  k_extra "e"
  k_extra "e"
  refine er_mulL (by omega) ?_
  k_extra "e"
  refine er_mulR (by decide) ?_
  k_extra "e"
  refine er_mod (by decide) ?_
  k_extra "e"
  k_extra "e"
  refine er_div (by decide) ?_
  k_extra "e"
  refine er_mod (by decide) ?_
  exact q _ (by omega) (by omega)
def DrOk (ds : List Int) : Prop := ds.length ≤ 4000 ∧ ∀ d ∈ ds, 0 ≤ d ∧ d < 9973
def S__law_draws (K : PySem.W.Frag) (A : Ad) : Pm := fun vs G Q _ => ∃ (a : Addr) (ns : List Int), vs = [.ref a] ∧ SqL K G a (ns.map V.int) ∧ ∀ p ds, G p = none → DrOk ds → Q (.ref p) (upd G p (.lst (ds.map V.int)))
/-! _law_draws -/
def t__law_draws_1 (K : PySem.W.Frag) (A : Ad) : TS := tSeq (tDrop (tBM K "list" (rAppend) (tVar 1) (tCons (tOp (rModU) (tCB (rInt1) (tCons (tVar 3) tNil)) (tC (.int 9973))) tNil))) (tAsg (tOp (rDivU) (tVar 3) (tC (.int 9973))) (gName 3))
def t__law_draws_2 (K : PySem.W.Frag) (A : Ad) : TS := tSeq (tAsg (tCB (rInt1) (tCons (tOp (rIx K) (tVar 0) (tVar 2)) tNil)) (gName 3)) (tIfS (tTest (tOp (rLtU K) (tVar 3) (tOp (rPowU) (tC (.int 10)) (tC (.int 18))))) (tDrop (tBM K "list" (rAppend) (tVar 1) (tCons (tCall (up (S__law_mix K A)) [] E0 (tCons (tVar 3) (tCons (tVar 2) tNil))) tNil))) (tFor (iRng1 (tCons (tC (.int 60)) tNil)) (gName 4) (tIfS (tTest (tOp (rGtI) (tVar 3) (tC (.int 0)))) (t__law_draws_1 K A) tNext)))
def t__law_draws_3 (K : PySem.W.Frag) (A : Ad) : TS := tSeq (tFor (iRng1 (tCons (tCB rMin2U (tCons (tC (.int 63)) (tCons (tCB (rLenU K) (tCons (tVar 0) tNil)) tNil))) tNil)) (gName 2) (t__law_draws_2 K A)) (tRet (tVar 1))
def t__law_draws (K : PySem.W.Frag) (A : Ad) : TS := tSeq (tAsg (tLst tNil) (gName 1)) (t__law_draws_3 K A)
theorem len__law_draws {K : PySem.W.Frag} {A : Ad} : ∀ vs G Q E, S__law_draws K A vs G Q E → vs.length = ["script"].length := by
  rintro vs G Q E ⟨a, ns, rfl, _⟩; rfl
theorem dr_snoc {ds : List Int} {d : Int} {n : Nat} (h : ds.length ≤ n) (hd : ∀ d ∈ ds, 0 ≤ d ∧ d < 9973) (h0 : 0 ≤ d) (h1 : d < 9973) : (ds ++ [d]).length ≤ n + 1 ∧ ∀ e ∈ ds ++ [d], 0 ≤ e ∧ e < 9973 := by
  refine ⟨by rw [List.length_append, List.length_singleton]; omega, fun e he => ?_⟩
  rcases List.mem_append.mp he with he | he
  · exact hd e he
  · rw [List.mem_singleton] at he; subst he; exact ⟨h0, h1⟩
theorem map_snoc (ds : List Int) (d : Int) : ds.map V.int ++ [V.int d] = (ds ++ [d]).map V.int := by rw [List.map_append]; rfl
theorem ok__law_draws {K : PySem.W.Frag} {A : Ad} : ∀ vs G Q E, S__law_draws K A vs G Q E → Es (t__law_draws K A) { nx := fun _ G' => Q .non G', rt := Q } (L2.start ["script", "draws", "k", "cell", "place"] vs) G := by
  rintro vs G Q E ⟨a, ns, rfl, hS, q⟩
  change Es _ _ (_ :: _ :: _ :: _ :: _ :: []) _
  k_extra "e"
  refine ⟨Nat.zero_le _, fun p hp => ?_⟩
  k_extra "e"
  k_extra "e"
  refine es_forR1 ?_
  k_extra "e"
  refine ec_lenL ((Ex.new hp).sl hS) fun hz => ?_
  k_extra "e"
  rw [List.length_map]
  refine ⟨by omega, fun i σ G' => ∃ ds c2 c3 c4, σ = [some (.ref a), some (.ref p), c2, c3, c4] ∧ G' = upd G p (.lst (ds.map V.int)) ∧ ds.length ≤ 60 * i ∧ ∀ d ∈ ds, 0 ≤ d ∧ d < 9973, ⟨[], _, _, _, rfl, rfl, Nat.zero_le _, fun _ h => by cases h⟩, ?_, ?_⟩
  · rintro i σ G' hi ⟨ds, c2, c3, c4, rfl, rfl, hl, hd⟩
    have hi' : i < ns.length ∧ i < 63 := by
      split at hi <;> omega
    have hget : (ns.map V.int)[i]? = some (.int ns[i]) := by rw [List.getElem?_map, List.getElem?_eq_getElem hi'.1]; rfl
    k_extra "e"
    refine er_ixL ((Ex.new hp).sl hS) (atI_nat hget) ?_
    k_extra "e"
    k_extra "e"
    refine er_pow (by decide) ?_
    k_extra "e"
    refine ifd (fun hc => ?_) (fun hc => ?_)
    · k_extra "e"
      refine ee_bm ?_
      k_extra "e"
      refine ⟨ty_lst upd_same, ?_⟩
      k_extra "e"
      refine ⟨_, _, rfl, fun r h0 h1 => ?_⟩
      k_extra "e"
      refine em_append upd_same (by rw [List.length_map]; exact szlt (by omega)) ?_
      rw [upd_upd, map_snoc]
      have := dr_snoc hl hd h0 h1
      exact ⟨_, _, _, _, rfl, rfl, by omega, this.2⟩
    · refine es_forR1 ?_
      k_extra "e"
      refine ⟨by omega, fun j σ G' => ∃ ds c2 c4, ∃ cell : Int, σ = [some (.ref a), some (.ref p), c2, some (.int cell), c4] ∧ G' = upd G p (.lst (ds.map V.int)) ∧ ds.length ≤ 60 * i + j ∧ (∀ d ∈ ds, 0 ≤ d ∧ d < 9973), ⟨ds, _, _, _, rfl, rfl, hl, hd⟩, ?_, ?_⟩
      · rintro j σ G' hj ⟨ds, c2, c4, cell, rfl, rfl, hl, hd⟩
        k_extra "e"
        refine ifd (fun hc => ?_) (fun hc => ?_)
        · k_extra "e"
          refine ee_bm ?_
          k_extra "e"
          refine ⟨ty_lst upd_same, ?_⟩
          k_extra "e"
          refine er_mod (by decide) ?_
          k_extra "e"
          refine em_append upd_same (by rw [List.length_map]; exact szlt (by omega)) ?_
          rw [upd_upd, map_snoc]
          k_extra "e"
          refine er_div (by decide) ?_
          k_extra "e"
          have := dr_snoc hl hd (d := cell % 9973) (by omega) (by omega)
          exact ⟨_, _, _, _, rfl, rfl, by omega, this.2⟩
        · refine es_next ?_
          exact ⟨_, _, _, _, rfl, rfl, by omega, hd⟩
      · rintro σ G' ⟨ds, c2, c4, cell, rfl, rfl, hl, hd⟩
        exact ⟨_, _, _, _, rfl, rfl, by omega, hd⟩
  · rintro σ G' ⟨ds, c2, c3, c4, rfl, rfl, hl, hd⟩
    k_extra "e"
    exact q p ds hp ⟨by split at hl <;> omega, hd⟩
def S__law_at (K : PySem.W.Frag) (A : Ad) : Pm := fun vs G Q _ => ∃ (a : Addr) (ds : List Int) (i : Int), vs = [.ref a, .int i] ∧ SqL K G a (ds.map V.int) ∧ DrOk ds ∧ 0 ≤ i ∧ ∀ r, 0 ≤ r → r < 9973 → Q (.int r) G
/-! _law_at -/
def t__law_at_1 (K : PySem.W.Frag) (A : Ad) : TS := tSeq (tIfS (tTest (tOp (rEqU K) (tCB (rLenU K) (tCons (tVar 0) tNil)) (tC (.int 0)))) (tRet (tCall (up (S__law_mix K A)) [] E0 (tCons (tVar 1) (tCons (tC (.int 77)) tNil)))) tNext) (tRet (tCall (up (S__law_mix K A)) [] E0 (tCons (tOp (rAddU K) (tOp (rIx K) (tVar 0) (tOp (rModU) (tCB (rInt1) (tCons (tVar 1) tNil)) (tCB (rLenU K) (tCons (tVar 0) tNil)))) (tOp (rMulU) (tVar 1) (tC (.int 131)))) (tCons (tVar 1) tNil))))
def t__law_at (K : PySem.W.Frag) (A : Ad) : TS := tSeq (tIfS (tTest (tOp (rLtU K) (tVar 1) (tCB (rLenU K) (tCons (tVar 0) tNil)))) (tRet (tOp (rIx K) (tVar 0) (tVar 1))) tNext) (t__law_at_1 K A)
theorem len__law_at {K : PySem.W.Frag} {A : Ad} : ∀ vs G Q E, S__law_at K A vs G Q E → vs.length = ["draws", "index"].length := by
  rintro vs G Q E ⟨a, ds, i, rfl, _⟩; rfl
theorem ok__law_at {K : PySem.W.Frag} {A : Ad} : ∀ vs G Q E, S__law_at K A vs G Q E → Es (t__law_at K A) { nx := fun _ G' => Q .non G', rt := Q } (L2.start ["draws", "index"] vs) G := by
  rintro vs G Q E ⟨a, ds, i, rfl, hS, hd, h0, q⟩
  change Es _ _ (_ :: _ :: []) _
  k_extra "e"
  refine ec_lenL hS fun hz => ?_
  rw [List.length_map]
  k_extra "e"
  refine ifd (fun hc => ?_) (fun hc => ?_)
  · obtain ⟨j, rfl⟩ := Int.eq_ofNat_of_zero_le h0
    have hj : j < ds.length := by omega
    have hget : (ds.map V.int)[j]? = some (.int ds[j]) := by rw [List.getElem?_map, List.getElem?_eq_getElem hj]; rfl
    k_extra "e"
    refine er_ixL hS (atI_nat hget) ?_
    have := hd.2 _ (List.getElem_mem hj)
    exact q _ this.1 this.2
  · k_extra "e"
    k_extra "e"
    refine ec_lenL hS fun hz => ?_
    rw [List.length_map]
    k_extra "e"
    refine ifd (fun hc2 => ?_) (fun hc2 => ?_)
    · k_extra "e"
      exact ⟨_, _, rfl, q⟩
    · k_extra "e"
      k_extra "e"
      refine ec_lenL hS fun hz => ?_
      rw [List.length_map]
      refine er_mod (by omega) ?_
      have h1 : 0 ≤ i % (ds.length : Int) := Int.emod_nonneg _ (by omega)
      have h2 : i % (ds.length : Int) < ds.length := Int.emod_lt_of_pos _ (by omega)
      obtain ⟨j, hj⟩ := Int.eq_ofNat_of_zero_le h1
      have hjl : j < ds.length := by omega
      have hget : (ds.map V.int)[j]? = some (.int ds[j]) := by rw [List.getElem?_map, List.getElem?_eq_getElem hjl]; rfl
      rw [hj]
      refine er_ixL hS (atI_nat hget) ?_
      k_extra "e"
      refine er_mulR (by decide) ?_
      k_extra "e"
      exact ⟨_, _, rfl, q⟩
end Lw

namespace Lw
open PySem PySem.Spec PyProof.Rows L2
local macro_rules | `(tactic| k_extra "x1") => `(tactic| first
  | with_reducible refine es_seq ?_
  | with_reducible refine es_asg ?_
  | with_reducible refine es_if ?_
  | with_reducible refine es_ret ?_
  | with_reducible refine es_drop ?_
  | with_reducible refine es_next ?_
  | with_reducible refine es_augS ?_
  | with_reducible refine es_fld ?_
  | ((with_reducible show Ee (tVar _) _ _ _); refine ee_var rfl ?_)
  | with_reducible refine ee_c ?_
  | with_reducible refine ee_op ?_
  | with_reducible refine ee_un ?_
  | with_reducible refine eu_neg ?_
  | with_reducible refine ee_cb ?_
  | with_reducible refine ee_call ?_
  | with_reducible refine ea_nil ?_
  | with_reducible refine ea_cons ?_
  | with_reducible refine ee_sl ?_
  | with_reducible refine eo_no ?_
  | with_reducible refine eo_part ?_
  | with_reducible refine ee_tup ?_
  | with_reducible refine ee_lst ?_
  | with_reducible refine et_test ?_
  | with_reducible refine et_tB ?_
  | with_reducible refine et_tru ?_
  | with_reducible refine et_and ?_
  | with_reducible refine et_or ?_
  | with_reducible refine et_not ?_
  | with_reducible refine ee_and ?_
  | with_reducible refine ee_or ?_
  | with_reducible refine ee_not ?_
  | with_reducible refine ee_if ?_
  | with_reducible refine ee_chain ?_
  | with_reducible refine er_addI ?_
  | with_reducible refine er_subI ?_
  | with_reducible refine er_eqI ?_
  | with_reducible refine er_neI ?_
  | with_reducible refine er_eqNI ?_
  | with_reducible refine er_eqS ?_
  | with_reducible refine er_neS ?_
  | with_reducible refine er_eqB ?_
  | with_reducible refine er_neB ?_
  | with_reducible refine er_lt ?_
  | with_reducible refine er_le ?_
  | with_reducible refine er_gt ?_
  | with_reducible refine er_ge ?_
  | with_reducible refine er_isN_non ?_
  | with_reducible refine er_isN_bl ?_
  | with_reducible refine er_isN_int ?_
  | with_reducible refine er_isN_str ?_
  | with_reducible refine er_isN_ref ?_
  | with_reducible refine er_notN_non ?_
  | with_reducible refine er_notN_bl ?_
  | with_reducible refine er_notN_int ?_
  | with_reducible refine er_notN_str ?_
  | with_reducible refine er_notN_ref ?_
  | with_reducible refine er_isN ?_
  | with_reducible refine er_notN ?_
  | with_reducible refine ec_int ?_
  | with_reducible refine ec_intB ?_
  | with_reducible refine ec_max2 ?_
  | with_reducible refine ec_min2 ?_
  | with_reducible refine ip_I ?_
  | ((with_reducible refine eg_name ?_); (try dsimp only [L2.wipe, List.set_cons_zero, List.set_cons_succ]))
  | with_reducible refine eg_sub ?_
  | with_reducible refine egs_cons ?_
  | with_reducible refine egs_nil ?_
  | with_reducible refine tru_bl ?_
  | with_reducible refine tru_int ?_
  | with_reducible refine tru_non ?_
  | with_reducible refine iteT ?_
  | with_reducible refine iteF ?_
  | with_reducible refine ite_nt ?_
  | with_reducible refine ite_nf ?_
  | with_reducible refine ⟨_, rfl, ?_⟩)
local macro_rules | `(tactic| k_extra "s") => `(tactic| ((first | k_extra "x1" | ((with_reducible refine es_unf ?_); refine es_seq ?_)); (repeat k_extra "x1")))
local macro_rules | `(tactic| k_extra "x") => `(tactic| (repeat first | k_extra "x1" | ((with_reducible refine es_unf ?_); refine es_seq ?_)))
local macro_rules | `(tactic| k_extra "start") => `(tactic| dsimp only [L2.start, List.map_cons, List.map_nil, List.length_cons, List.length_nil, Nat.reduceAdd, Nat.reduceSub, List.replicate, List.cons_append, List.nil_append, Nat.zero_add])
local macro_rules | `(tactic| k_extra "e1") => `(tactic| first
  | with_reducible refine es_next ?_
  | ((with_reducible show Ee (tVar _) _ _ _); refine ee_var rfl ?_)
  | with_reducible refine ee_c ?_
  | with_reducible refine ee_op ?_
  | with_reducible refine ee_un ?_
  | with_reducible refine eu_neg ?_
  | with_reducible refine ee_cb ?_
  | with_reducible refine ee_call ?_
  | with_reducible refine ea_nil ?_
  | with_reducible refine ea_cons ?_
  | with_reducible refine ee_sl ?_
  | with_reducible refine eo_no ?_
  | with_reducible refine eo_part ?_
  | with_reducible refine ee_tup ?_
  | with_reducible refine ee_lst ?_
  | with_reducible refine et_test ?_
  | with_reducible refine et_tB ?_
  | with_reducible refine et_tru ?_
  | with_reducible refine et_and ?_
  | with_reducible refine et_or ?_
  | with_reducible refine et_not ?_
  | with_reducible refine ee_and ?_
  | with_reducible refine ee_or ?_
  | with_reducible refine ee_not ?_
  | with_reducible refine ee_if ?_
  | with_reducible refine ee_chain ?_
  | with_reducible refine er_addI ?_
  | with_reducible refine er_subI ?_
  | with_reducible refine er_eqI ?_
  | with_reducible refine er_neI ?_
  | with_reducible refine er_eqNI ?_
  | with_reducible refine er_eqS ?_
  | with_reducible refine er_neS ?_
  | with_reducible refine er_eqB ?_
  | with_reducible refine er_neB ?_
  | with_reducible refine er_lt ?_
  | with_reducible refine er_le ?_
  | with_reducible refine er_gt ?_
  | with_reducible refine er_ge ?_
  | with_reducible refine er_isN_non ?_
  | with_reducible refine er_isN_bl ?_
  | with_reducible refine er_isN_int ?_
  | with_reducible refine er_isN_str ?_
  | with_reducible refine er_isN_ref ?_
  | with_reducible refine er_notN_non ?_
  | with_reducible refine er_notN_bl ?_
  | with_reducible refine er_notN_int ?_
  | with_reducible refine er_notN_str ?_
  | with_reducible refine er_notN_ref ?_
  | with_reducible refine er_isN ?_
  | with_reducible refine er_notN ?_
  | with_reducible refine ec_int ?_
  | with_reducible refine ec_intB ?_
  | with_reducible refine ec_max2 ?_
  | with_reducible refine ec_min2 ?_
  | with_reducible refine ip_I ?_
  | ((with_reducible refine eg_name ?_); (try dsimp only [L2.wipe, List.set_cons_zero, List.set_cons_succ]))
  | with_reducible refine eg_sub ?_
  | with_reducible refine egs_cons ?_
  | with_reducible refine egs_nil ?_
  | with_reducible refine tru_bl ?_
  | with_reducible refine tru_int ?_
  | with_reducible refine tru_non ?_
  | with_reducible refine iteT ?_
  | with_reducible refine iteF ?_
  | with_reducible refine ite_nt ?_
  | with_reducible refine ite_nf ?_
  | with_reducible refine ex_bl ?_
  | with_reducible refine ex_int ?_
  | with_reducible refine ex_str ?_
  | with_reducible refine ex_strx ?_
  | with_reducible refine ex_ints1 ?_
  | with_reducible refine ex_ints2 ?_)
local macro_rules | `(tactic| k_extra "t1") => `(tactic| first
  | with_reducible refine es_asg ?_
  | with_reducible refine es_if ?_
  | with_reducible refine es_ret ?_
  | with_reducible refine es_drop ?_
  | with_reducible refine es_augS ?_
  | with_reducible refine es_fld ?_)
local macro_rules | `(tactic| k_extra "e") => `(tactic| first
  | ((with_reducible refine es_seq ?_); (try k_extra "t1"); (repeat k_extra "e1"))
  | (k_extra "t1"; (repeat k_extra "e1"))
  | (k_extra "e1"; (repeat k_extra "e1"))
  | ((with_reducible refine es_unf ?_); (refine es_seq ?_); (try k_extra "t1"); (repeat k_extra "e1")))
/-! ### _law_same: of twice the same data it is True -/
def S__law_is_integer (K : PySem.W.Frag) (A : Ad) : Pm := fun vs G Q _ => ∃ i : Int, vs = [.int i] ∧ Q (.bl true) G
/-! _law_is_integer -/
def t__law_is_integer (K : PySem.W.Frag) (A : Ad) : TS := (tRet (tAndV (tCB (rIsiU K) (tCons (tVar 0) (tCons (tC (.ty "int")) tNil))) (tNotV (tCB (rIsiU K) (tCons (tVar 0) (tCons (tC (.ty "bool")) tNil))))))
theorem len__law_is_integer {K : PySem.W.Frag} {A : Ad} : ∀ vs G Q E, S__law_is_integer K A vs G Q E → vs.length = ["actual"].length := by
  rintro vs G Q E ⟨i, rfl, _⟩; rfl
theorem ok__law_is_integer {K : PySem.W.Frag} {A : Ad} : ∀ vs G Q E, S__law_is_integer K A vs G Q E → Es (t__law_is_integer K A) { nx := fun _ G' => Q .non G', rt := Q } (L2.start ["actual"] vs) G := by
  rintro vs G Q E ⟨i, rfl, q⟩
  change Es _ _ (_ :: []) _
  k_extra "e"
  refine ec_isi (.base (.int i)) (r := true) (by decide +kernel) ?_
  k_extra "e"
  refine ec_isi (.base (.int i)) (r := false) (by decide +kernel) ?_
  k_extra "e"
  exact q
def Sn__law_same (K : PySem.W.Frag) (A : Ad) (n : Nat) : Pm := fun vs G Q _ => ∃ a e d, vs = [a, e] ∧ Dp K G a d ∧ Dp K G e d ∧ d.depth < n ∧ Q (.bl true) G
def S__law_same (K : PySem.W.Frag) (A : Ad) : Pm := Sn__law_same K A 8
/-! _law_same -/
def t__law_same_1 (K : PySem.W.Frag) (A : Ad) (S : Pm) : TS := tSeq (tFor (iRng1 (tCons (tCB (rLenU K) (tCons (tVar 1) tNil)) tNil)) (gName 2) (tIfS (tNot (tTru K (tCall (up S) [] E0 (tCons (tOp (rIx K) (tVar 0) (tVar 2)) (tCons (tOp (rIx K) (tVar 1) (tVar 2)) tNil))))) (tRet (tC (.bl false))) tNext)) (tRet (tC (.bl true)))
def t__law_same_2 (K : PySem.W.Frag) (A : Ad) (S : Pm) : TS := tSeq (tIfS (tTest (tOp (rNeU K) (tCB (rLenU K) (tCons (tVar 0) tNil)) (tCB (rLenU K) (tCons (tVar 1) tNil)))) (tRet (tC (.bl false))) tNext) (t__law_same_1 K A S)
def t__law_same_3 (K : PySem.W.Frag) (A : Ad) (S : Pm) : TS := tSeq (tIfS (tOr (tTest (tOp (rNeU K) (tCB (rIsiU K) (tCons (tVar 1) (tCons (tC (.ty "list")) tNil))) (tCB (rIsiU K) (tCons (tVar 0) (tCons (tC (.ty "list")) tNil))))) (tTest (tOp (rNeU K) (tCB (rIsiU K) (tCons (tVar 1) (tCons (tC (.ty "tuple")) tNil))) (tCB (rIsiU K) (tCons (tVar 0) (tCons (tC (.ty "tuple")) tNil)))))) (tRet (tC (.bl false))) tNext) (t__law_same_2 K A S)
def t__law_same_4 (K : PySem.W.Frag) (A : Ad) (S : Pm) : TS := tSeq (tIfS (tTru K (tCB (rIsiU K) (tCons (tVar 1) (tCons (tC (.ty "int")) tNil)))) (tRet (tAndV (tCall (up (S__law_is_integer K A)) [] E0 (tCons (tVar 0) tNil)) (tOp (rEqU K) (tVar 0) (tVar 1)))) tNext) (tRet (tAndV (tCB (rIsiU K) (tCons (tVar 0) (tCons (tC (.ty "str")) tNil))) (tOp (rEqU K) (tVar 0) (tVar 1))))
def t__law_same_5 (K : PySem.W.Frag) (A : Ad) (S : Pm) : TS := tSeq (tIfS (tTru K (tCB (rIsiU K) (tCons (tVar 1) (tCons (tC (.ty "bool")) tNil)))) (tRet (tAndV (tCB (rIsiU K) (tCons (tVar 0) (tCons (tC (.ty "bool")) tNil))) (tOp (rEqU K) (tVar 0) (tVar 1)))) tNext) (t__law_same_4 K A S)
def t__law_same_6 (K : PySem.W.Frag) (A : Ad) (S : Pm) : TS := tSeq (tIfS (tTest (tOp (rIsN) (tVar 1) (tC .non))) (tRet (tOp (rIsN) (tVar 0) (tC .non))) tNext) (t__law_same_5 K A S)
def t__law_same (K : PySem.W.Frag) (A : Ad) (S : Pm) : TS := tSeq (tIfS (tTru K (tCB (rIsiU K) (tCons (tVar 1) (tCons (tTup (tCons (tC (.ty "list")) (tCons (tC (.ty "tuple")) tNil))) tNil)))) (t__law_same_3 K A S) tNext) (t__law_same_6 K A S)
theorem len__law_same {K : PySem.W.Frag} {A : Ad} (n : Nat) : ∀ vs G Q E, Sn__law_same K A n vs G Q E → vs.length = ["actual", "expected"].length := by
  rintro vs G Q E ⟨a, e, d, rfl, _⟩; rfl
theorem no__law_same {K : PySem.W.Frag} {A : Ad} : ∀ vs G Q E, ¬ Sn__law_same K A 0 vs G Q E := by
  rintro vs G Q E ⟨a, e, d, _, _, _, h, _⟩; exact absurd h (Nat.not_lt_zero _)
theorem depth_mem {d : PyData} {ds : List PyData} (h : d ∈ ds) : d.depth ≤ PyData.depthAll ds := PyData.depth_le_depthAll ds d h
theorem same_call {K : PySem.W.Frag} {A : Ad} {G : Hp} {a e : V} {d : PyData} {Q : V → Hp → Prop} {E : XK} (h1 : Dp K G a d) (h2 : Dp K G e d) (hd : d.depth < 8) (q : Q (.bl true) G) : S__law_same K A [a, e] G Q E := ⟨a, e, d, rfl, h1, h2, hd, q⟩
theorem law_same_tail {K : PySem.W.Frag} {A : Ad} {n : Nat} {G : Hp} {Q : V → Hp → Prop} {D : Ek} (hD : D.rt = Q) {a e : Addr} {xs ys : List V} {ds : List PyData} (h1 : Sq K G a xs) (h2 : Sq K G e ys) (k1 : DpAll K G xs ds) (k2 : DpAll K G ys ds) (hd : PyData.depthAll ds < n) (q : Q (.bl true) G) :
    Es (t__law_same_2 K A (Sn__law_same K A n)) D [some (.ref a), some (.ref e), none] G := by
  have e1 := dps_len k1
  have e2 := dps_len k2
  k_extra "e"
  refine ec_lenU h1 fun _ => ?_
  k_extra "e"
  refine ec_lenU h2 fun _ => ?_
  k_extra "e"
  refine ifnd (fun h => absurd (by rw [e1, e2]) h) fun _ => ?_
  k_extra "e"
  k_extra "e"
  refine es_forR1 ?_
  k_extra "e"
  refine ec_lenU h2 fun hz => ?_
  k_extra "e"
  refine ⟨line62 hz, fun i σ G' => G' = G ∧ ∃ c, σ = [some (.ref a), some (.ref e), c], ⟨rfl, _, rfl⟩, ?_, ?_⟩
  · rintro i σ G' hi ⟨rfl, c, rfl⟩
    obtain ⟨d, hd'⟩ : ∃ d, ds[i]? = some d := ⟨ds[i]'(by omega), List.getElem?_eq_getElem _⟩
    obtain ⟨x, hx, kx⟩ := dps_get k1 hd'
    obtain ⟨y, hy, ky⟩ := dps_get k2 hd'
    have hm := List.mem_of_getElem? hd'
    k_extra "e"
    refine er_ixU h1 (atI_nat hx) ?_
    k_extra "e"
    refine er_ixU h2 (atI_nat hy) ?_
    k_extra "e"
    refine ⟨x, y, d, rfl, kx, ky, Nat.lt_of_le_of_lt (depth_mem hm) hd, true, rfl, ?_⟩
    k_extra "e"
    exact ⟨rfl, _, rfl⟩
  · rintro σ G' ⟨rfl, c, rfl⟩
    k_extra "e"
    rw [hD]
    exact q
theorem ok__law_same {K : PySem.W.Frag} {A : Ad} (n : Nat) : ∀ vs G Q E, Sn__law_same K A (n + 1) vs G Q E → Es (t__law_same K A (Sn__law_same K A n)) { nx := fun _ G' => Q .non G', rt := Q } (L2.start ["actual", "expected", "k"] vs) G := by
  rintro vs G Q E ⟨a, e, d, rfl, ha, he, hd, q⟩
  change Es _ _ (_ :: _ :: _ :: []) _
  cases he with
  | non =>
    cases ha
    k_extra "e"
    refine ⟨sz1000 (by simp), fun t ht => ?_⟩
    k_extra "e"
    refine ec_isi2 (b := "list") (c := "tuple") (.base .non) upd_same (r := false) (r' := false) (by decide +kernel) (by decide +kernel) ?_
    k_extra "e"
    refine iteF ?_
    refine Es.weak (Ex.new ht) ?_
    k_extra "e"
    k_extra "e"
    k_extra "e"
    exact q
  | bl b =>
    cases ha
    k_extra "e"
    refine ⟨sz1000 (by simp), fun t ht => ?_⟩
    k_extra "e"
    refine ec_isi2 (b := "list") (c := "tuple") (.base (.bl b)) upd_same (r := false) (r' := false) (by decide +kernel) (by decide +kernel) ?_
    k_extra "e"
    refine iteF ?_
    refine Es.weak (Ex.new ht) ?_
    k_extra "e"
    k_extra "e"
    k_extra "e"
    refine ec_isi (.base (.bl b)) (r := true) (by decide +kernel) ?_
    k_extra "e"
    k_extra "e"
    refine ec_isi (.base (.bl b)) (r := true) (by decide +kernel) ?_
    k_extra "e"
    rw [decide_eq_true rfl]
    exact q
  | int i =>
    cases ha
    k_extra "e"
    refine ⟨sz1000 (by simp), fun t ht => ?_⟩
    k_extra "e"
    refine ec_isi2 (b := "list") (c := "tuple") (.base (.int i)) upd_same (r := false) (r' := false) (by decide +kernel) (by decide +kernel) ?_
    k_extra "e"
    refine iteF ?_
    refine Es.weak (Ex.new ht) ?_
    k_extra "e"
    k_extra "e"
    k_extra "e"
    refine ec_isi (.base (.int i)) (r := false) (by decide +kernel) ?_
    k_extra "e"
    k_extra "e"
    refine ec_isi (.base (.int i)) (r := true) (by decide +kernel) ?_
    k_extra "e"
    k_extra "e"
    refine ⟨i, rfl, true, rfl, ?_⟩
    k_extra "e"
    rw [decide_eq_true rfl]
    exact q
  | str x =>
    cases ha
    k_extra "e"
    refine ⟨sz1000 (by simp), fun t ht => ?_⟩
    k_extra "e"
    refine ec_isi2 (b := "list") (c := "tuple") (.base (.str x)) upd_same (r := false) (r' := false) (by decide +kernel) (by decide +kernel) ?_
    k_extra "e"
    refine iteF ?_
    refine Es.weak (Ex.new ht) ?_
    k_extra "e"
    k_extra "e"
    k_extra "e"
    refine ec_isi (.base (.str x)) (r := false) (by decide +kernel) ?_
    k_extra "e"
    k_extra "e"
    refine ec_isi (.base (.str x)) (r := false) (by decide +kernel) ?_
    k_extra "e"
    k_extra "e"
    refine ec_isi (.base (.str x)) (r := true) (by decide +kernel) ?_
    k_extra "e"
    rw [decide_eq_true rfl]
    exact q
  | lst h2 k2 =>
    obtain ⟨a, xs, rfl, h1, k1⟩ := dp_list ha
    k_extra "e"
    refine ⟨sz1000 (by simp), fun t ht => ?_⟩
    k_extra "e"
    refine ec_isi2 (b := "list") (c := "tuple") (tyx_up (Ex.new ht) (tyx_l h2)) upd_same (r := true) (r' := false) (by decide +kernel) (by decide +kernel) ?_
    k_extra "e"
    refine iteT ?_
    refine Es.weak (Ex.new ht) ?_
    k_extra "e"
    refine ec_isi (tyx_l h2) (r := true) (by decide +kernel) ?_
    k_extra "e"
    refine ec_isi (tyx_l h1) (r := true) (by decide +kernel) ?_
    k_extra "e"
    refine ifnd (fun h => absurd rfl h) fun _ => ?_
    k_extra "e"
    refine ec_isi (tyx_l h2) (r := false) (by decide +kernel) ?_
    k_extra "e"
    refine ec_isi (tyx_l h1) (r := false) (by decide +kernel) ?_
    k_extra "e"
    refine ifnd (fun h => absurd rfl h) fun _ => ?_
    refine es_next ?_
    simp only [PyData.depth] at hd
    exact law_same_tail rfl (.inl h1) (.inl h2) k1 k2 (by omega) q
  | tup h2 k2 =>
    obtain ⟨a, xs, rfl, h1, k1⟩ := dp_tup ha
    k_extra "e"
    refine ⟨sz1000 (by simp), fun t ht => ?_⟩
    k_extra "e"
    refine ec_isi2 (b := "list") (c := "tuple") (tyx_up (Ex.new ht) (tyx_t h2)) upd_same (r := false) (r' := true) (by decide +kernel) (by decide +kernel) ?_
    k_extra "e"
    refine iteT ?_
    refine Es.weak (Ex.new ht) ?_
    k_extra "e"
    refine ec_isi (tyx_t h2) (r := false) (by decide +kernel) ?_
    k_extra "e"
    refine ec_isi (tyx_t h1) (r := false) (by decide +kernel) ?_
    k_extra "e"
    refine ifnd (fun h => absurd rfl h) fun _ => ?_
    k_extra "e"
    refine ec_isi (tyx_t h2) (r := true) (by decide +kernel) ?_
    k_extra "e"
    refine ec_isi (tyx_t h1) (r := true) (by decide +kernel) ?_
    k_extra "e"
    refine ifnd (fun h => absurd rfl h) fun _ => ?_
    refine es_next ?_
    simp only [PyData.depth] at hd
    exact law_same_tail rfl (.inr h1) (.inr h2) k1 k2 (by omega) q
end Lw

namespace Lw
open PySem PySem.Spec PyProof.Rows L2
local macro_rules | `(tactic| k_extra "x1") => `(tactic| first
  | with_reducible refine es_seq ?_
  | with_reducible refine es_asg ?_
  | with_reducible refine es_if ?_
  | with_reducible refine es_ret ?_
  | with_reducible refine es_drop ?_
  | with_reducible refine es_next ?_
  | with_reducible refine es_augS ?_
  | with_reducible refine es_fld ?_
  | ((with_reducible show Ee (tVar _) _ _ _); refine ee_var rfl ?_)
  | with_reducible refine ee_c ?_
  | with_reducible refine ee_op ?_
  | with_reducible refine ee_un ?_
  | with_reducible refine eu_neg ?_
  | with_reducible refine ee_cb ?_
  | with_reducible refine ee_call ?_
  | with_reducible refine ea_nil ?_
  | with_reducible refine ea_cons ?_
  | with_reducible refine ee_sl ?_
  | with_reducible refine eo_no ?_
  | with_reducible refine eo_part ?_
  | with_reducible refine ee_tup ?_
  | with_reducible refine ee_lst ?_
  | with_reducible refine et_test ?_
  | with_reducible refine et_tB ?_
  | with_reducible refine et_tru ?_
  | with_reducible refine et_and ?_
  | with_reducible refine et_or ?_
  | with_reducible refine et_not ?_
  | with_reducible refine ee_and ?_
  | with_reducible refine ee_or ?_
  | with_reducible refine ee_not ?_
  | with_reducible refine ee_if ?_
  | with_reducible refine ee_chain ?_
  | with_reducible refine er_addI ?_
  | with_reducible refine er_subI ?_
  | with_reducible refine er_eqI ?_
  | with_reducible refine er_neI ?_
  | with_reducible refine er_eqNI ?_
  | with_reducible refine er_eqS ?_
  | with_reducible refine er_neS ?_
  | with_reducible refine er_eqB ?_
  | with_reducible refine er_neB ?_
  | with_reducible refine er_lt ?_
  | with_reducible refine er_le ?_
  | with_reducible refine er_gt ?_
  | with_reducible refine er_ge ?_
  | with_reducible refine er_isN_non ?_
  | with_reducible refine er_isN_bl ?_
  | with_reducible refine er_isN_int ?_
  | with_reducible refine er_isN_str ?_
  | with_reducible refine er_isN_ref ?_
  | with_reducible refine er_notN_non ?_
  | with_reducible refine er_notN_bl ?_
  | with_reducible refine er_notN_int ?_
  | with_reducible refine er_notN_str ?_
  | with_reducible refine er_notN_ref ?_
  | with_reducible refine er_isN ?_
  | with_reducible refine er_notN ?_
  | with_reducible refine ec_int ?_
  | with_reducible refine ec_intB ?_
  | with_reducible refine ec_max2 ?_
  | with_reducible refine ec_min2 ?_
  | with_reducible refine ip_I ?_
  | ((with_reducible refine eg_name ?_); (try dsimp only [L2.wipe, List.set_cons_zero, List.set_cons_succ]))
  | with_reducible refine eg_sub ?_
  | with_reducible refine egs_cons ?_
  | with_reducible refine egs_nil ?_
  | with_reducible refine tru_bl ?_
  | with_reducible refine tru_int ?_
  | with_reducible refine tru_non ?_
  | with_reducible refine iteT ?_
  | with_reducible refine iteF ?_
  | with_reducible refine ite_nt ?_
  | with_reducible refine ite_nf ?_
  | with_reducible refine ⟨_, rfl, ?_⟩)
local macro_rules | `(tactic| k_extra "s") => `(tactic| ((first | k_extra "x1" | ((with_reducible refine es_unf ?_); refine es_seq ?_)); (repeat k_extra "x1")))
local macro_rules | `(tactic| k_extra "x") => `(tactic| (repeat first | k_extra "x1" | ((with_reducible refine es_unf ?_); refine es_seq ?_)))
local macro_rules | `(tactic| k_extra "start") => `(tactic| dsimp only [L2.start, List.map_cons, List.map_nil, List.length_cons, List.length_nil, Nat.reduceAdd, Nat.reduceSub, List.replicate, List.cons_append, List.nil_append, Nat.zero_add])
local macro_rules | `(tactic| k_extra "e1") => `(tactic| first
  | with_reducible refine es_next ?_
  | ((with_reducible show Ee (tVar _) _ _ _); refine ee_var rfl ?_)
  | with_reducible refine ee_c ?_
  | with_reducible refine ee_op ?_
  | with_reducible refine ee_un ?_
  | with_reducible refine eu_neg ?_
  | with_reducible refine ee_cb ?_
  | with_reducible refine ee_call ?_
  | with_reducible refine ea_nil ?_
  | with_reducible refine ea_cons ?_
  | with_reducible refine ee_sl ?_
  | with_reducible refine eo_no ?_
  | with_reducible refine eo_part ?_
  | with_reducible refine ee_tup ?_
  | with_reducible refine ee_lst ?_
  | with_reducible refine et_test ?_
  | with_reducible refine et_tB ?_
  | with_reducible refine et_tru ?_
  | with_reducible refine et_and ?_
  | with_reducible refine et_or ?_
  | with_reducible refine et_not ?_
  | with_reducible refine ee_and ?_
  | with_reducible refine ee_or ?_
  | with_reducible refine ee_not ?_
  | with_reducible refine ee_if ?_
  | with_reducible refine ee_chain ?_
  | with_reducible refine er_addI ?_
  | with_reducible refine er_subI ?_
  | with_reducible refine er_eqI ?_
  | with_reducible refine er_neI ?_
  | with_reducible refine er_eqNI ?_
  | with_reducible refine er_eqS ?_
  | with_reducible refine er_neS ?_
  | with_reducible refine er_eqB ?_
  | with_reducible refine er_neB ?_
  | with_reducible refine er_lt ?_
  | with_reducible refine er_le ?_
  | with_reducible refine er_gt ?_
  | with_reducible refine er_ge ?_
  | with_reducible refine er_isN_non ?_
  | with_reducible refine er_isN_bl ?_
  | with_reducible refine er_isN_int ?_
  | with_reducible refine er_isN_str ?_
  | with_reducible refine er_isN_ref ?_
  | with_reducible refine er_notN_non ?_
  | with_reducible refine er_notN_bl ?_
  | with_reducible refine er_notN_int ?_
  | with_reducible refine er_notN_str ?_
  | with_reducible refine er_notN_ref ?_
  | with_reducible refine er_isN ?_
  | with_reducible refine er_notN ?_
  | with_reducible refine ec_int ?_
  | with_reducible refine ec_intB ?_
  | with_reducible refine ec_max2 ?_
  | with_reducible refine ec_min2 ?_
  | with_reducible refine ip_I ?_
  | ((with_reducible refine eg_name ?_); (try dsimp only [L2.wipe, List.set_cons_zero, List.set_cons_succ]))
  | with_reducible refine eg_sub ?_
  | with_reducible refine egs_cons ?_
  | with_reducible refine egs_nil ?_
  | with_reducible refine tru_bl ?_
  | with_reducible refine tru_int ?_
  | with_reducible refine tru_non ?_
  | with_reducible refine iteT ?_
  | with_reducible refine iteF ?_
  | with_reducible refine ite_nt ?_
  | with_reducible refine ite_nf ?_
  | with_reducible refine ex_bl ?_
  | with_reducible refine ex_int ?_
  | with_reducible refine ex_str ?_
  | with_reducible refine ex_strx ?_
  | with_reducible refine ex_ints1 ?_
  | with_reducible refine ex_ints2 ?_)
local macro_rules | `(tactic| k_extra "t1") => `(tactic| first
  | with_reducible refine es_asg ?_
  | with_reducible refine es_if ?_
  | with_reducible refine es_ret ?_
  | with_reducible refine es_drop ?_
  | with_reducible refine es_augS ?_
  | with_reducible refine es_fld ?_)
local macro_rules | `(tactic| k_extra "e") => `(tactic| first
  | ((with_reducible refine es_seq ?_); (try k_extra "t1"); (repeat k_extra "e1"))
  | (k_extra "t1"; (repeat k_extra "e1"))
  | (k_extra "e1"; (repeat k_extra "e1"))
  | ((with_reducible refine es_unf ?_); (refine es_seq ?_); (try k_extra "t1"); (repeat k_extra "e1")))
/-! ### the drawing object of this law -/
structure StT (G : Hp) (a l : Addr) (ds : List Int) (i : Int) : Prop where
  at_ : G a = some (.lst [.ref l, .int i])
  li : G l = some (.lst (ds.map V.int))
  ne : l ≠ a
  dr : DrOk ds
  pos : 0 ≤ i
theorem StT.put {G : Hp} {a l : Addr} {ds : List Int} {i i' : Int} (h : StT G a l ds i) (p : 0 ≤ i') : StT (upd G a (.lst [.ref l, .int i'])) a l ds i' := ⟨upd_same, get_ne h.li h.ne, h.ne, h.dr, p⟩
theorem StT.up {G H : Hp} {a l : Addr} {ds : List Int} {i : Int} (h : StT G a l ds i) (e : Ex G H) : StT H a l ds i := ⟨e _ _ h.at_, e _ _ h.li, h.ne, h.dr, h.pos⟩
def S__law_next (K : PySem.W.Frag) (A : Ad) : Pm := fun vs G Q _ => ∃ (a l : Addr) (ds : List Int) (i lim : Int), vs = [.ref a, .int lim] ∧ 0 < lim ∧ StT G a l ds i ∧ ∀ x i', 0 ≤ x → x < lim → 0 ≤ i' → Q (.int x) (upd G a (.lst [.ref l, .int i']))
theorem nx_call {K : PySem.W.Frag} {A : Ad} {G : Hp} {a l : Addr} {ds : List Int} {i lim : Int} {Q : V → Hp → Prop} {E : XK} (h : StT G a l ds i) (hl : 0 < lim)
    (q : ∀ x i', 0 ≤ x → x < lim → 0 ≤ i' → Q (.int x) (upd G a (.lst [.ref l, .int i']))) : S__law_next K A [.ref a, .int lim] G Q E := ⟨a, l, ds, i, lim, rfl, hl, h, q⟩
/-! _law_next -/
def t__law_next (K : PySem.W.Frag) (A : Ad) : TS := tSeq (tAugS (tVar 0) (tC (.int 1)) (tC (.int 1)) (rGetL K) (ipI fun i j => i + j) rSetL) (tRet (tOp (rModU) (tCall (up (S__law_at K A)) [] E0 (tCons (tOp (rIx K) (tVar 0) (tC (.int 0))) (tCons (tOp (rIx K) (tVar 0) (tC (.int 1))) tNil))) (tVar 1)))
theorem len__law_next {K : PySem.W.Frag} {A : Ad} : ∀ vs G Q E, S__law_next K A vs G Q E → vs.length = ["state", "limit"].length := by
  rintro vs G Q E ⟨a, l, ds, i, lim, rfl, _⟩; rfl
theorem ok__law_next {K : PySem.W.Frag} {A : Ad} : ∀ vs G Q E, S__law_next K A vs G Q E → Es (t__law_next K A) { nx := fun _ G' => Q .non G', rt := Q } (L2.start ["state", "limit"] vs) G := by
  rintro vs G Q E ⟨a, l, ds, i, lim, rfl, hl, h, q⟩
  change Es _ _ (_ :: _ :: []) _
  k_extra "e"
  refine er_getL (SqL.of h.at_) (by decide) rfl ?_
  k_extra "e"
  refine ez_L h.at_ (j := 1) rfl ?_
  have h' := h.put (i' := i + 1) (by have := h.pos; omega)
  k_extra "e"
  refine er_ixL (SqL.of upd_same) (atI_nat (j := 0) rfl) ?_
  k_extra "e"
  refine er_ixL (SqL.of upd_same) (atI_nat (j := 1) rfl) ?_
  k_extra "e"
  refine ⟨_, _, _, rfl, SqL.of h'.li, h.dr, h'.pos, fun r h0 h1 => ?_⟩
  k_extra "e"
  refine er_mod hl ?_
  exact q _ (i + 1) (Int.emod_nonneg _ (by omega)) (Int.emod_lt_of_pos _ hl) (by have := h.pos; omega)
end Lw

namespace Lw
open PySem PySem.Spec PyProof.Rows L2
/-! ## records: plain lists of numbers, no program -/
def ckF (t : Int) (d : List Int) : Int := d.foldl (fun t b => (31 * t + b + 1) % 4294967296) t
def chk (d : List Int) : Int := ckF 7 d
def num (n : Nat) : List Int := if n < 128 then [(n : Int)] else [(n : Int) % 128 + 128, (n : Int) / 128]
def tl4 (c : Int) : List Int := [c / 16777216, c / 65536 % 256, c / 256 % 256, c % 256]
def rcd (d : List Int) : List Int := num d.length ++ d ++ tl4 (chk d)
def By (d : List Int) : Prop := ∀ b ∈ d, 0 ≤ b ∧ b < 256
/-- the number that is read -/
def rdG (total factor : Int) (idx : Nat) : Nat → List Int → Option (Int × Nat)
  | 0, _ => none
  | _ + 1, [] => none
  | f + 1, b :: r => if b < 128 then (if b = 0 ∧ 0 < idx then none else some (total + b % 128 * factor, idx + 1)) else rdG (total + b % 128 * factor) (factor * 128) (idx + 1) f r
def rd (w : List Int) : Option (Int × Nat) := rdG 0 1 0 60 (w.take 60)
/-- behind it no record begins -/
def Bad (w : List Int) : Prop := rd w = none ∨ ∃ (n k : Nat), rd w = some ((n : Int), k) ∧ n ≤ 2000 ∧ k ≤ 2 ∧ (w.length < k + n + 4 ∨ tl4 (chk ((w.drop k).take n)) ≠ (w.drop (k + n)).take 4)
theorem num_len (n : Nat) : (num n).length = if n < 128 then 1 else 2 := by unfold num; split <;> rfl
theorem num_le (n : Nat) : (num n).length ≤ 2 ∧ 1 ≤ (num n).length := by rw [num_len]; split <;> omega
theorem rd_num {n : Nat} (h : n < 16384) (r : List Int) : rd (num n ++ r) = some ((n : Int), (num n).length) := by
  unfold rd num
  by_cases hn : n < 128
  · rw [if_pos hn]
    show rdG 0 1 0 60 ((n : Int) :: r.take 59) = _
    unfold rdG
    rw [if_pos (by omega), if_neg (by omega), Int.zero_add, Int.mul_one, Int.emod_eq_of_lt (by omega) (by omega)]
    rfl
  · rw [if_neg hn]
    show rdG 0 1 0 60 (((n : Int) % 128 + 128) :: ((n : Int) / 128) :: r.take 58) = _
    unfold rdG
    rw [if_neg (by omega)]
    unfold rdG
    rw [if_pos (by omega), if_neg (by omega)]
    congr 2
    omega
theorem tl4_len (c : Int) : (tl4 c).length = 4 := rfl
theorem rcd_len (d : List Int) : (rcd d).length = (num d.length).length + d.length + 4 := by
  unfold rcd; rw [List.length_append, List.length_append, tl4_len]
theorem rcd_drop (d r : List Int) : (rcd d ++ r).drop (num d.length).length = d ++ (tl4 (chk d) ++ r) := by
  unfold rcd; rw [List.append_assoc, List.append_assoc, List.drop_left]
theorem rcd_drop2 (d r : List Int) : (rcd d ++ r).drop ((num d.length).length + d.length) = tl4 (chk d) ++ r := by
  rw [← List.drop_drop, rcd_drop, List.drop_left]
theorem rd_rcd {d : List Int} (h : d.length < 16384) (r : List Int) : rd (rcd d ++ r) = some ((d.length : Int), (num d.length).length) := by
  unfold rcd; rw [List.append_assoc, List.append_assoc]; exact rd_num h _
theorem tl4_inj {c c' : Int} (h : 0 ≤ c ∧ c < 4294967296) (h' : 0 ≤ c' ∧ c' < 4294967296) (e : tl4 c = tl4 c') : c = c' := by
  unfold tl4 at e
  simp only [List.cons.injEq, and_true] at e
  omega
theorem ckF_bd : ∀ (d : List Int) {t : Int}, 0 ≤ t ∧ t < 4294967296 → 0 ≤ ckF t d ∧ ckF t d < 4294967296
  | [], _, h => h
  | b :: r, t, _ => ckF_bd r (t := (31 * t + b + 1) % 4294967296) (by omega)
theorem chk_bd (d : List Int) : 0 ≤ chk d ∧ chk d < 4294967296 := ckF_bd d (by omega)
theorem ckF_ne : ∀ (d : List Int) {t t' : Int}, 0 ≤ t ∧ t < 4294967296 → 0 ≤ t' ∧ t' < 4294967296 → t ≠ t' → ckF t d ≠ ckF t' d
  | [], _, _, _, _, h => h
  | b :: r, t, t', h, h', n => ckF_ne r (t := (31 * t + b + 1) % 4294967296) (t' := (31 * t' + b + 1) % 4294967296) (by omega) (by omega) (by omega)
theorem ckF_set : ∀ (d : List Int) (t : Int) (j : Nat) (c b : Int), 0 ≤ t ∧ t < 4294967296 → d[j]? = some b → 0 ≤ b ∧ b < 256 → 0 ≤ c ∧ c < 256 → c ≠ b → ckF t (d.set j c) ≠ ckF t d
  | [], _, _, _, _, _, h, _, _, _ => by simp at h
  | x :: r, t, 0, c, b, ht, h, hb, hc, n => by
    obtain rfl : x = b := Option.some.inj h
    exact ckF_ne r (t := (31 * t + c + 1) % 4294967296) (t' := (31 * t + x + 1) % 4294967296) (by omega) (by omega) (by omega)
  | x :: r, t, j + 1, c, b, ht, h, hb, hc, n => ckF_set r ((31 * t + x + 1) % 4294967296) j c b (by omega) h hb hc n
theorem bad_nil : Bad [] := .inl rfl
theorem rd_one {b : Int} (h : 128 ≤ b) : rd [b] = none := by
  unfold rd
  show rdG 0 1 0 60 [b] = none
  unfold rdG
  rw [if_neg (by omega)]
  rfl
theorem bad_pre {d : List Int} (h : d.length ≤ 2000) {r : Nat} (hr : r < (rcd d).length) : Bad ((rcd d).take r) := by
  have hl := rcd_len d
  have hn := num_len d.length
  by_cases c : r < (num d.length).length
  · refine .inl ?_
    have e : (rcd d).take r = (num d.length).take r := by
      unfold rcd; rw [List.append_assoc, List.take_append_of_le_length (by omega)]
    rw [e]
    by_cases h0 : r = 0
    · subst h0; rfl
    · have h1 : r = 1 := by split at hn <;> omega
      subst h1
      have h2 : ¬ d.length < 128 := fun z => by rw [if_pos z] at hn; omega
      unfold num
      rw [if_neg h2]
      exact rd_one (by omega)
  · refine .inr ⟨d.length, (num d.length).length, ?_, h, (num_le _).1, .inl ?_⟩
    · have e : (rcd d).take r = num d.length ++ (d ++ tl4 (chk d)).take (r - (num d.length).length) := by
        unfold rcd; rw [List.append_assoc, List.take_append, List.take_of_length_le (by omega)]
      rw [e]
      exact rd_num (by omega) _
    · rw [List.length_take]; omega
/-- another byte in the four of the checksum -/
theorem bad_tail {d : List Int} (h : d.length ≤ 2000) {t : List Int} (ht : t.length = 4) (n : tl4 (chk d) ≠ t) (r : List Int) : Bad (num d.length ++ d ++ t ++ r) := by
  refine .inr ⟨d.length, (num d.length).length, ?_, h, (num_le _).1, .inr ?_⟩
  · rw [List.append_assoc, List.append_assoc]; exact rd_num (by omega) _
  · have e1 : (num d.length ++ d ++ t ++ r).drop (num d.length).length = d ++ (t ++ r) := by
      rw [List.append_assoc, List.append_assoc, List.drop_left]
    have e2 : (num d.length ++ d ++ t ++ r).drop ((num d.length).length + d.length) = t ++ r := by
      rw [← List.drop_drop, e1, List.drop_left]
    rw [e1, e2, List.take_left, ← ht, List.take_left]
    exact n
theorem bad_sum {d : List Int} (h : d.length ≤ 2000) (hb : By d) {j : Nat} {b c : Int} (hj : d[j]? = some b) (hc : 0 ≤ c ∧ c < 256) (n : c ≠ b) (r : List Int) : Bad (num d.length ++ d.set j c ++ tl4 (chk d) ++ r) := by
  have e : d.length = (d.set j c).length := (List.length_set).symm
  rw [e]
  refine bad_tail (by rw [← e]; exact h) rfl (fun q => ?_) r
  exact ckF_set d 7 j c b (by omega) hj (hb b (List.mem_of_getElem? hj)) hc n (tl4_inj (chk_bd _) (chk_bd _) q)
theorem rdG_needless : ∀ (z f : Nat) (t k : Int) (i : Nat) (r : List Int), z < f → 0 < i → rdG t k i f ((List.replicate z 128 ++ [0] ++ r).take f) = none
  | 0, f + 1, t, k, i, r, _, hi => by
    show rdG t k i (f + 1) (0 :: (r.take f)) = none
    unfold rdG
    rw [if_pos (by omega), if_pos ⟨rfl, hi⟩]
  | z + 1, f + 1, t, k, i, r, h, hi => by
    show rdG t k i (f + 1) (128 :: ((List.replicate z 128 ++ [0] ++ r).take f)) = none
    unfold rdG
    rw [if_neg (by omega)]
    exact rdG_needless z f _ _ (i + 1) r (by omega) (by omega)
/-- a needless byte -/
theorem bad_needless {n z : Nat} (hn : n ≤ 2000) (hz : z ≤ 2) (r : List Int) :
    Bad ((num n).take ((num n).length - 1) ++ ([((num n).getD ((num n).length - 1) 0) + 128] ++ List.replicate z 128 ++ [0]) ++ r) := by
  refine .inl ?_
  unfold rd num
  by_cases h : n < 128
  · rw [if_pos h]
    show rdG 0 1 0 60 (((n : Int) + 128) :: ((List.replicate z 128 ++ [0] ++ r).take 59)) = none
    unfold rdG
    rw [if_neg (by omega)]
    exact rdG_needless z 59 _ _ 1 r (by omega) (by omega)
  · rw [if_neg h]
    show rdG 0 1 0 60 (((n : Int) % 128 + 128) :: ((n : Int) / 128 + 128) :: ((List.replicate z 128 ++ [0] ++ r).take 58)) = none
    unfold rdG
    rw [if_neg (by omega)]
    unfold rdG
    rw [if_neg (by omega)]
    exact rdG_needless z 58 _ _ 2 r (by omega) (by omega)
/-! all records one after another; where each begins -/
def alls (ds : List (List Int)) : List Int := (ds.map rcd).flatten
theorem alls_cons (d : List Int) (ds : List (List Int)) : alls (d :: ds) = rcd d ++ alls ds := rfl
theorem alls_snoc (ds : List (List Int)) (d : List Int) : alls (ds ++ [d]) = alls ds ++ rcd d := by unfold alls; rw [List.map_append, List.flatten_append]; simp
def begs (o : Nat) : List (List Int) → List Int
  | [] => [(o : Int)]
  | d :: ds => (o : Int) :: begs (o + (rcd d).length) ds
theorem begs_snoc : ∀ (o : Nat) (ds : List (List Int)) (d : List Int), begs o (ds ++ [d]) = begs o ds ++ [((o + (alls (ds ++ [d])).length : Nat) : Int)]
  | o, [], d => by simp [begs, alls]
  | o, x :: ds, d => by
    show (o : Int) :: begs (o + (rcd x).length) (ds ++ [d]) = (o : Int) :: begs (o + (rcd x).length) ds ++ _
    rw [begs_snoc, List.cons_append, List.cons_append, alls_cons, List.length_append, Nat.add_assoc]
theorem begs_len : ∀ (o : Nat) (ds : List (List Int)), (begs o ds).length = ds.length + 1
  | _, [] => rfl
  | o, d :: ds => by show (begs _ ds).length + 1 = _; rw [begs_len]; rfl
theorem begs_ge : ∀ (o : Nat) (ds : List (List Int)), ∀ x ∈ begs o ds, (o : Int) ≤ x
  | o, [], x, h => by rw [List.mem_singleton.mp h]; exact Int.le_refl _
  | o, d :: ds, x, h => by
    rcases List.mem_cons.mp h with rfl | h
    · exact Int.le_refl _
    · have := begs_ge _ ds x h; omega
theorem begs_get : ∀ (o : Nat) (ds : List (List Int)) (j : Nat), j ≤ ds.length → (begs o ds)[j]? = some ((o + (alls (ds.take j)).length : Nat) : Int)
  | o, ds, 0, _ => by cases ds <;> simp [begs, alls]
  | o, [], j + 1, h => by simp at h
  | o, d :: ds, j + 1, h => by
    show (begs (o + (rcd d).length) ds)[j]? = _
    rw [begs_get _ ds j (by simpa using h), List.take_succ_cons, alls_cons, List.length_append, Nat.add_assoc]
theorem filt_none : ∀ (l : List Int) (e : Int), (∀ x ∈ l, e < x) → l.filter (fun x => decide (x ≤ e)) = []
  | [], _, _ => rfl
  | x :: l, e, h => by
    rw [List.filter_cons_of_neg (by have := h x List.mem_cons_self; simp; omega)]
    exact filt_none l e fun y hy => h y (List.mem_cons_of_mem _ hy)
theorem cut_alls : ∀ (ds : List (List Int)) (o e : Nat), (∀ d ∈ ds, d.length ≤ 2000) → e ≤ (alls ds).length → ∃ j t, j ≤ ds.length ∧ ((begs o ds).filter fun x => decide (x ≤ ((o + e : Nat) : Int))).length = j + 1 ∧ (alls ds).take e = alls (ds.take j) ++ t ∧ Bad t
  | [], o, e, _, h => ⟨0, [], Nat.le_refl _, by
    show ([(o : Int)].filter fun x => decide (x ≤ ((o + e : Nat) : Int))).length = 1
    rw [List.filter_cons_of_pos (by simp; omega)]; rfl, by simp [alls], bad_nil⟩
  | d :: ds, o, e, hd, h => by
    by_cases c : e < (rcd d).length
    · refine ⟨0, (rcd d).take e, Nat.zero_le _, ?_, ?_, bad_pre (hd d List.mem_cons_self) c⟩
      · show ((((o : Nat) : Int) :: begs (o + (rcd d).length) ds).filter _).length = 1
        rw [List.filter_cons_of_pos (by simp; omega), filt_none _ _ fun x hx => by have := begs_ge _ ds x hx; omega]
        rfl
      · rw [alls_cons, List.take_append_of_le_length (by omega)]; rfl
    · obtain ⟨j, t, h1, h2, h3, h4⟩ := cut_alls ds (o + (rcd d).length) (e - (rcd d).length) (fun x hx => hd x (List.mem_cons_of_mem _ hx)) (by rw [alls_cons, List.length_append] at h; omega)
      have ee : o + (rcd d).length + (e - (rcd d).length) = o + e := by omega
      rw [ee] at h2
      refine ⟨j + 1, t, by rw [List.length_cons]; omega, ?_, ?_, h4⟩
      · show ((((o : Nat) : Int) :: begs (o + (rcd d).length) ds).filter _).length = _
        rw [List.filter_cons_of_pos (by simp; omega), List.length_cons, h2]
      · rw [alls_cons, List.take_append, List.take_of_length_le (by omega), h3, List.take_succ_cons, alls_cons, List.append_assoc]
/-! slices -/
theorem cut_mid (xs : List V) (a b : Nat) (hab : a ≤ b) : cutV xs (some (a : Int)) (some (b : Int)) = (xs.drop a).take (b - a) := by
  unfold cutV
  rw [HT.sIx_nat, HT.sIx_nat]
  by_cases ha : a ≤ xs.length
  · have e1 : min a xs.length = a := Nat.min_eq_left ha
    rw [e1]
    by_cases hb : b ≤ xs.length
    · rw [Nat.min_eq_left hb]
    · have e2 : min b xs.length = xs.length := Nat.min_eq_right (by omega)
      rw [e2, List.take_of_length_le (by simp), List.take_of_length_le (by simp; omega)]
  · have e1 : min a xs.length = xs.length := Nat.min_eq_right (by omega)
    rw [e1, List.drop_of_length_le (i := a) (by omega)]
    simp
theorem cut_from (xs : List V) (a : Nat) : cutV xs (some (a : Int)) none = xs.drop a := by
  unfold cutV
  rw [HT.sIx_nat, HT.sIx_none]
  by_cases ha : a ≤ xs.length
  · have e1 : min a xs.length = a := Nat.min_eq_left ha
    rw [e1, List.take_of_length_le (by simp)]
  · have e1 : min a xs.length = xs.length := Nat.min_eq_right (by omega)
    rw [e1, List.drop_of_length_le (i := a) (by omega)]
    simp
theorem cut_toN (xs : List V) (a : Nat) : cutV xs none (some (a : Int)) = xs.take a := by
  unfold cutV
  rw [HT.sIx_none, HT.sIx_nat, List.drop_zero, Nat.sub_zero]
  by_cases ha : a ≤ xs.length
  · rw [Nat.min_eq_left ha]
  · have e1 : min a xs.length = xs.length := Nat.min_eq_right (by omega)
    rw [e1, List.take_of_length_le (by simp), List.take_of_length_le (by omega)]
theorem cut_m4 (xs : List V) (h : 4 ≤ xs.length) : cutV xs (some (-4)) none = xs.drop (xs.length - 4) := by
  unfold cutV
  have e1 : HT.sIx xs.length 0 (some (-4)) = xs.length - 4 := by
    show (if (-4 : Int) < 0 then ((-4 : Int) + (xs.length : Int)).toNat else min (-4 : Int).toNat xs.length) = _
    rw [if_pos (by decide)]
    omega
  rw [e1, HT.sIx_none, List.take_of_length_le (by simp)]
end Lw

namespace Lw
open PySem PySem.Spec PyProof.Rows L2
local macro_rules | `(tactic| k_extra "x1") => `(tactic| first
  | with_reducible refine es_seq ?_
  | with_reducible refine es_asg ?_
  | with_reducible refine es_if ?_
  | with_reducible refine es_ret ?_
  | with_reducible refine es_drop ?_
  | with_reducible refine es_next ?_
  | with_reducible refine es_augS ?_
  | with_reducible refine es_fld ?_
  | ((with_reducible show Ee (tVar _) _ _ _); refine ee_var rfl ?_)
  | with_reducible refine ee_c ?_
  | with_reducible refine ee_op ?_
  | with_reducible refine ee_un ?_
  | with_reducible refine eu_neg ?_
  | with_reducible refine ee_cb ?_
  | with_reducible refine ee_call ?_
  | with_reducible refine ea_nil ?_
  | with_reducible refine ea_cons ?_
  | with_reducible refine ee_sl ?_
  | with_reducible refine eo_no ?_
  | with_reducible refine eo_part ?_
  | with_reducible refine ee_tup ?_
  | with_reducible refine ee_lst ?_
  | with_reducible refine et_test ?_
  | with_reducible refine et_tB ?_
  | with_reducible refine et_tru ?_
  | with_reducible refine et_and ?_
  | with_reducible refine et_or ?_
  | with_reducible refine et_not ?_
  | with_reducible refine ee_and ?_
  | with_reducible refine ee_or ?_
  | with_reducible refine ee_not ?_
  | with_reducible refine ee_if ?_
  | with_reducible refine ee_chain ?_
  | with_reducible refine er_addI ?_
  | with_reducible refine er_subI ?_
  | with_reducible refine er_eqI ?_
  | with_reducible refine er_neI ?_
  | with_reducible refine er_eqNI ?_
  | with_reducible refine er_eqS ?_
  | with_reducible refine er_neS ?_
  | with_reducible refine er_eqB ?_
  | with_reducible refine er_neB ?_
  | with_reducible refine er_lt ?_
  | with_reducible refine er_le ?_
  | with_reducible refine er_gt ?_
  | with_reducible refine er_ge ?_
  | with_reducible refine er_isN_non ?_
  | with_reducible refine er_isN_bl ?_
  | with_reducible refine er_isN_int ?_
  | with_reducible refine er_isN_str ?_
  | with_reducible refine er_isN_ref ?_
  | with_reducible refine er_notN_non ?_
  | with_reducible refine er_notN_bl ?_
  | with_reducible refine er_notN_int ?_
  | with_reducible refine er_notN_str ?_
  | with_reducible refine er_notN_ref ?_
  | with_reducible refine er_isN ?_
  | with_reducible refine er_notN ?_
  | with_reducible refine ec_int ?_
  | with_reducible refine ec_intB ?_
  | with_reducible refine ec_max2 ?_
  | with_reducible refine ec_min2 ?_
  | with_reducible refine ip_I ?_
  | ((with_reducible refine eg_name ?_); (try dsimp only [L2.wipe, List.set_cons_zero, List.set_cons_succ]))
  | with_reducible refine eg_sub ?_
  | with_reducible refine egs_cons ?_
  | with_reducible refine egs_nil ?_
  | with_reducible refine tru_bl ?_
  | with_reducible refine tru_int ?_
  | with_reducible refine tru_non ?_
  | with_reducible refine iteT ?_
  | with_reducible refine iteF ?_
  | with_reducible refine ite_nt ?_
  | with_reducible refine ite_nf ?_
  | with_reducible refine ⟨_, rfl, ?_⟩)
local macro_rules | `(tactic| k_extra "s") => `(tactic| ((first | k_extra "x1" | ((with_reducible refine es_unf ?_); refine es_seq ?_)); (repeat k_extra "x1")))
local macro_rules | `(tactic| k_extra "x") => `(tactic| (repeat first | k_extra "x1" | ((with_reducible refine es_unf ?_); refine es_seq ?_)))
local macro_rules | `(tactic| k_extra "start") => `(tactic| dsimp only [L2.start, List.map_cons, List.map_nil, List.length_cons, List.length_nil, Nat.reduceAdd, Nat.reduceSub, List.replicate, List.cons_append, List.nil_append, Nat.zero_add])
local macro_rules | `(tactic| k_extra "e1") => `(tactic| first
  | with_reducible refine es_next ?_
  | ((with_reducible show Ee (tVar _) _ _ _); refine ee_var rfl ?_)
  | with_reducible refine ee_c ?_
  | with_reducible refine ee_op ?_
  | with_reducible refine ee_un ?_
  | with_reducible refine eu_neg ?_
  | with_reducible refine ee_cb ?_
  | with_reducible refine ee_call ?_
  | with_reducible refine ea_nil ?_
  | with_reducible refine ea_cons ?_
  | with_reducible refine ee_sl ?_
  | with_reducible refine eo_no ?_
  | with_reducible refine eo_part ?_
  | with_reducible refine ee_tup ?_
  | with_reducible refine ee_lst ?_
  | with_reducible refine et_test ?_
  | with_reducible refine et_tB ?_
  | with_reducible refine et_tru ?_
  | with_reducible refine et_and ?_
  | with_reducible refine et_or ?_
  | with_reducible refine et_not ?_
  | with_reducible refine ee_and ?_
  | with_reducible refine ee_or ?_
  | with_reducible refine ee_not ?_
  | with_reducible refine ee_if ?_
  | with_reducible refine ee_chain ?_
  | with_reducible refine er_addI ?_
  | with_reducible refine er_subI ?_
  | with_reducible refine er_eqI ?_
  | with_reducible refine er_neI ?_
  | with_reducible refine er_eqNI ?_
  | with_reducible refine er_eqS ?_
  | with_reducible refine er_neS ?_
  | with_reducible refine er_eqB ?_
  | with_reducible refine er_neB ?_
  | with_reducible refine er_lt ?_
  | with_reducible refine er_le ?_
  | with_reducible refine er_gt ?_
  | with_reducible refine er_ge ?_
  | with_reducible refine er_isN_non ?_
  | with_reducible refine er_isN_bl ?_
  | with_reducible refine er_isN_int ?_
  | with_reducible refine er_isN_str ?_
  | with_reducible refine er_isN_ref ?_
  | with_reducible refine er_notN_non ?_
  | with_reducible refine er_notN_bl ?_
  | with_reducible refine er_notN_int ?_
  | with_reducible refine er_notN_str ?_
  | with_reducible refine er_notN_ref ?_
  | with_reducible refine er_isN ?_
  | with_reducible refine er_notN ?_
  | with_reducible refine ec_int ?_
  | with_reducible refine ec_intB ?_
  | with_reducible refine ec_max2 ?_
  | with_reducible refine ec_min2 ?_
  | with_reducible refine ip_I ?_
  | ((with_reducible refine eg_name ?_); (try dsimp only [L2.wipe, List.set_cons_zero, List.set_cons_succ]))
  | with_reducible refine eg_sub ?_
  | with_reducible refine egs_cons ?_
  | with_reducible refine egs_nil ?_
  | with_reducible refine tru_bl ?_
  | with_reducible refine tru_int ?_
  | with_reducible refine tru_non ?_
  | with_reducible refine iteT ?_
  | with_reducible refine iteF ?_
  | with_reducible refine ite_nt ?_
  | with_reducible refine ite_nf ?_
  | with_reducible refine ex_bl ?_
  | with_reducible refine ex_int ?_
  | with_reducible refine ex_str ?_
  | with_reducible refine ex_strx ?_
  | with_reducible refine ex_ints1 ?_
  | with_reducible refine ex_ints2 ?_)
local macro_rules | `(tactic| k_extra "t1") => `(tactic| first
  | with_reducible refine es_asg ?_
  | with_reducible refine es_if ?_
  | with_reducible refine es_ret ?_
  | with_reducible refine es_drop ?_
  | with_reducible refine es_augS ?_
  | with_reducible refine es_fld ?_)
local macro_rules | `(tactic| k_extra "e") => `(tactic| first
  | ((with_reducible refine es_seq ?_); (try k_extra "t1"); (repeat k_extra "e1"))
  | (k_extra "t1"; (repeat k_extra "e1"))
  | (k_extra "e1"; (repeat k_extra "e1"))
  | ((with_reducible refine es_unf ?_); (refine es_seq ?_); (try k_extra "t1"); (repeat k_extra "e1")))
/-! ### the reader -/
def rF (p : Addr) (i : Nat) : List (Str × V) := [(Str.ofString "data", .ref p), (Str.ofString "at", .int i)]
theorem nda : ¬ (Str.ofString "data" = Str.ofString "at") := by decide +kernel
theorem nad : ¬ (Str.ofString "at" = Str.ofString "data") := by decide +kernel
theorem rF_data (p : Addr) (i : Nat) : (rF p i).lookup (Str.ofString "data") = some (.ref p) := by simp [rF, List.lookup]
theorem rF_at (p : Addr) (i : Nat) : (rF p i).lookup (Str.ofString "at") = some (.int i) := by
  have : (Str.ofString "at" == Str.ofString "data") = false := beq_false_of_ne nad
  simp [rF, List.lookup, this]
theorem rF_init (p : Addr) : putF (Str.ofString "at") (.int 0) (putF (Str.ofString "data") (.ref p) []) = rF p 0 := by simp [putF, rF, nda]
theorem rF_put (p : Addr) (i j : Nat) : putF (Str.ofString "at") (.int j) (rF p i) = rF p j := by simp [putF, rF, nda]
theorem rF_no {p : Addr} {i : Nat} {m : Str} (h1 : ¬ m = Str.ofString "data") (h2 : ¬ m = Str.ofString "at") : (rF p i).lookup m = none := by
  have a : (m == Str.ofString "data") = false := beq_false_of_ne h1
  have b : (m == Str.ofString "at") = false := beq_false_of_ne h2
  simp [rF, List.lookup, a, b]
def S_Reader_init (K : PySem.W.Frag) (A : Ad) : Pm := fun vs G Q _ => ∃ (x dx pd : Addr) (bs : List Int), vs = [.ref x, .ref pd] ∧ G x = some (.ins A.cReader dx []) ∧ SqL K G pd (bs.map V.int) ∧
  ∀ p, G p = none → Q .non (upd (upd G p (.lst (bs.map V.int))) x (.ins A.cReader dx (rF p 0)))
/-! Reader.__init__ -/
def t_Reader_init (K : PySem.W.Frag) (A : Ad) : TS := tSeq (sFld K (tVar 0) (tCB (rListU K) (tCons (tVar 1) tNil)) "data") (sFld K (tVar 0) (tC (.int 0)) "at")
theorem len_Reader_init {K : PySem.W.Frag} {A : Ad} : ∀ vs G Q E, S_Reader_init K A vs G Q E → vs.length = ["self", "data"].length := by
  rintro vs G Q E ⟨x, dx, pd, bs, rfl, _⟩; rfl
theorem ok_Reader_init {K : PySem.W.Frag} {A : Ad} (C : Cf K A) : ∀ vs G Q E, S_Reader_init K A vs G Q E → Es (t_Reader_init K A) { nx := fun _ G' => Q .non G', rt := Q } (L2.start ["self", "data"] vs) G := by
  rintro vs G Q E ⟨x, dx, pd, bs, rfl, hx, hd, q⟩
  change Es _ _ (_ :: _ :: []) _
  k_extra "e"
  refine ec_list (.inl hd) fun p hp => ?_
  have hxp : x ≠ p := ne_new hx hp
  k_extra "e"
  refine ⟨x, _, dx, _, rfl, get_ne hx hxp, C.cl, C.n1, by decide, ?_⟩
  k_extra "e"
  refine ⟨x, _, dx, _, rfl, upd_same, C.cl, C.n2, by simp [putF], ?_⟩
  rw [rF_init, upd_upd]
  exact q p hp
def S_Reader_read_byte (K : PySem.W.Frag) (A : Ad) : Pm := fun vs G Q E => ∃ (x dx p : Addr) (bs : List Int) (i : Nat), vs = [.ref x] ∧ G x = some (.ins A.cReader dx (rF p i)) ∧ G p = some (.lst (bs.map V.int)) ∧
  (∀ b, bs[i]? = some b → Q (.int b) (upd G x (.ins A.cReader dx (rF p (i + 1))))) ∧ (bs.length ≤ i → E (.ref A.cDamagedPacket) none G)
/-! Reader.read_byte -/
def t_Reader_read_byte_1 (K : PySem.W.Frag) (A : Ad) (E : XK) : TS := tSeq (sFldAug K (tVar 0) (tC (.int 1)) (ipI fun i j => i + j) "at") (tRet (tOp (rIx K) (tFld K (tVar 0) "data") (tOp (rSubI) (tFld K (tVar 0) "at") (tC (.int 1)))))
def t_Reader_read_byte (K : PySem.W.Frag) (A : Ad) (E : XK) : TS := tSeq (tIfS (tTest (tOp (rGeI) (tFld K (tVar 0) "at") (tCB (rLenU K) (tCons (tFld K (tVar 0) "data") tNil)))) (tRz A.cDamagedPacket E) tNext) (t_Reader_read_byte_1 K A E)
theorem len_Reader_read_byte {K : PySem.W.Frag} {A : Ad} : ∀ vs G Q E, S_Reader_read_byte K A vs G Q E → vs.length = ["self"].length := by
  rintro vs G Q E ⟨x, dx, p, bs, i, rfl, _⟩; rfl
theorem mon_Reader_read_byte {K : PySem.W.Frag} {A : Ad} : ∀ vs G Q E E', S_Reader_read_byte K A vs G Q E → (∀ c d G', E c d G' → E' c d G') → S_Reader_read_byte K A vs G Q E' := by
  rintro vs G Q E E' ⟨x, dx, p, bs, i, h1, h2, h3, h4, h5⟩ m
  exact ⟨x, dx, p, bs, i, h1, h2, h3, h4, fun z => m _ _ _ (h5 z)⟩
theorem ok_Reader_read_byte {K : PySem.W.Frag} {A : Ad} (C : Cf K A) : ∀ vs G Q E, S_Reader_read_byte K A vs G Q (dn E) → Es (t_Reader_read_byte K A E) { nx := fun _ G' => Q .non G', rt := Q } (L2.start ["self"] vs) G := by
  rintro vs G Q E ⟨x, dx, p, bs, i, rfl, hx, hp, hq, he⟩
  change Es _ _ (_ :: []) _
  have hxp : p ≠ x := fun z => by rw [z, hx] at hp; cases hp
  k_extra "e"
  refine ee_fld ?_
  k_extra "e"
  refine ⟨x, _, dx, _, _, rfl, hx, C.cl, C.n2, rF_at _ _, ?_⟩
  k_extra "e"
  refine ee_fld ?_
  k_extra "e"
  refine ⟨x, _, dx, _, _, rfl, hx, C.cl, C.n1, rF_data _ _, ?_⟩
  k_extra "e"
  refine ec_lenL (SqL.of hp) fun _ => ?_
  k_extra "e"
  rw [List.length_map]
  refine ifd (fun h => ?_) (fun h => ?_)
  · exact es_rz (he (by omega))
  · k_extra "e"
    have hi : i < bs.length := by omega
    refine es_seq (es_fldaug ?_)
    k_extra "e"
    refine ⟨x, _, dx, _, _, rfl, hx, C.cl, C.n2, rF_at _ _, ?_⟩
    k_extra "e"
    refine ⟨dx, _, hx, by simp [rF], ?_⟩
    have e1 : ((i : Int) + 1) = ((i + 1 : Nat) : Int) := rfl
    rw [e1, rF_put]
    k_extra "e"
    refine ee_fld ?_
    k_extra "e"
    refine ⟨x, _, dx, _, _, rfl, upd_same, C.cl, C.n1, rF_data _ _, ?_⟩
    k_extra "e"
    refine ee_fld ?_
    k_extra "e"
    refine ⟨x, _, dx, _, _, rfl, upd_same, C.cl, C.n2, rF_at _ _, ?_⟩
    k_extra "e"
    have e2 : (((i + 1 : Nat) : Int) - 1) = (i : Nat) := by omega
    rw [e2]
    refine er_ixL (SqL.of (get_ne hp hxp)) (atI_nat (j := i) (by rw [List.getElem?_map, List.getElem?_eq_getElem hi]; rfl)) ?_
    exact hq _ (List.getElem?_eq_getElem hi)
def S_Reader_read_number (K : PySem.W.Frag) (A : Ad) : Pm := fun vs G Q E => ∃ (x dx p : Addr) (bs : List Int), vs = [.ref x] ∧ G x = some (.ins A.cReader dx (rF p 0)) ∧ G p = some (.lst (bs.map V.int)) ∧
  (∀ n k, rdG 0 1 0 60 bs = some (n, k) → Q (.int n) (upd G x (.ins A.cReader dx (rF p k)))) ∧ (rdG 0 1 0 60 bs = none → ∀ k, E (.ref A.cDamagedPacket) none (upd G x (.ins A.cReader dx (rF p k))))
/-! Reader.read_number -/
def t_Reader_read_number_1 (K : PySem.W.Frag) (A : Ad) (E : XK) : TS := tSeq (tIfS (tAnd (tTest (tOp (rEqU K) (tVar 4) (tC (.int 0)))) (tTest (tOp (rGtI) (tVar 3) (tC (.int 0))))) (tRz A.cDamagedPacket E) tNext) (tRet (tVar 1))
def t_Reader_read_number_2 (K : PySem.W.Frag) (A : Ad) (E : XK) : TS := tSeq (tIfS (tTest (tOp (rLtU K) (tVar 4) (tC (.int 128)))) (t_Reader_read_number_1 K A E) tNext) (tAsg (tOp (rMulU) (tVar 2) (tC (.int 128))) (gName 2))
def t_Reader_read_number_3 (K : PySem.W.Frag) (A : Ad) (E : XK) : TS := tSeq (tAug 1 (tOp (rMulU) (tOp (rModU) (tVar 4) (tC (.int 128))) (tVar 2)) (ipI fun i j => i + j)) (t_Reader_read_number_2 K A E)
def t_Reader_read_number_4 (K : PySem.W.Frag) (A : Ad) (E : XK) : TS := tSeq (tAsg (tMeth A.cReader "read_byte" (up (S_Reader_read_byte K A)) [] E (tVar 0) tNil) (gName 4)) (t_Reader_read_number_3 K A E)
def t_Reader_read_number_5 (K : PySem.W.Frag) (A : Ad) (E : XK) : TS := tSeq (tFor (iRng1 (tCons (tC (.int 60)) tNil)) (gName 3) (t_Reader_read_number_4 K A E)) (tRz A.cDamagedPacket E)
def t_Reader_read_number_6 (K : PySem.W.Frag) (A : Ad) (E : XK) : TS := tSeq (tAsg (tC (.int 1)) (gName 2)) (t_Reader_read_number_5 K A E)
def t_Reader_read_number (K : PySem.W.Frag) (A : Ad) (E : XK) : TS := tSeq (tAsg (tC (.int 0)) (gName 1)) (t_Reader_read_number_6 K A E)
theorem len_Reader_read_number {K : PySem.W.Frag} {A : Ad} : ∀ vs G Q E, S_Reader_read_number K A vs G Q E → vs.length = ["self"].length := by
  rintro vs G Q E ⟨x, dx, p, bs, rfl, _⟩; rfl
theorem mon_Reader_read_number {K : PySem.W.Frag} {A : Ad} : ∀ vs G Q E E', S_Reader_read_number K A vs G Q E → (∀ c d G', E c d G' → E' c d G') → S_Reader_read_number K A vs G Q E' := by
  rintro vs G Q E E' ⟨x, dx, p, bs, h1, h2, h3, h4, h5⟩ m
  exact ⟨x, dx, p, bs, h1, h2, h3, h4, fun z k => m _ _ _ (h5 z k)⟩
theorem rdG_cons (t f : Int) (i n : Nat) (b : Int) (r : List Int) : rdG t f i (n + 1) (b :: r) = if b < 128 then (if b = 0 ∧ 0 < i then none else some (t + b % 128 * f, i + 1)) else rdG (t + b % 128 * f) (f * 128) (i + 1) n r := rfl
theorem ok_Reader_read_number {K : PySem.W.Frag} {A : Ad} (C : Cf K A) : ∀ vs G Q E, S_Reader_read_number K A vs G Q (dn E) → Es (t_Reader_read_number K A E) { nx := fun _ G' => Q .non G', rt := Q } (L2.start ["self", "total", "factor", "index", "byte"] vs) G := by
  rintro vs G Q E ⟨x, dx, p, bs, rfl, hx, hp, hq, he⟩
  change Es _ _ (_ :: _ :: _ :: _ :: _ :: []) _
  have hxp : p ≠ x := fun z => by rw [z, hx] at hp; cases hp
  k_extra "e"
  k_extra "e"
  k_extra "e"
  refine es_forR1 ?_
  k_extra "e"
  refine ⟨by omega, fun i σ G' => ∃ (t f : Int) (c3 c4 : Option V), σ = [some (.ref x), some (.int t), some (.int f), c3, c4] ∧ G' = upd G x (.ins A.cReader dx (rF p i)) ∧ rdG t f i (60 - i) (bs.drop i) = rdG 0 1 0 60 bs, ⟨0, 1, _, _, rfl, ?_, rfl⟩, ?_, ?_⟩
  · funext b
    by_cases hb : b = x
    · subst hb; rw [upd_same]; exact hx
    · rw [upd_ne hb]
  · rintro i σ G' hi ⟨t, f, c3, c4, rfl, rfl, hr⟩
    have hi60 : i < 60 := by omega
    have e60 : 60 - i = (60 - (i + 1)) + 1 := by omega
    rw [e60] at hr
    k_extra "e"
    refine ee_meth ?_
    k_extra "e"
    refine ⟨x, dx, _, rfl, upd_same, rF_no (by decide +kernel) (by decide +kernel), ?_⟩
    k_extra "e"
    refine ⟨x, dx, p, bs, i, rfl, upd_same, get_ne hp hxp, fun b hb => ?_, fun hl => ?_⟩
    · rw [upd_upd]
      have hd : bs.drop i = b :: bs.drop (i + 1) := by
        rw [List.drop_eq_getElem_cons (List.getElem?_eq_some_iff.mp hb).1]
        congr 1
        exact (List.getElem?_eq_some_iff.mp hb).2
      rw [hd, rdG_cons] at hr
      k_extra "e"
      refine es_seq (es_aug rfl ?_)
      k_extra "e"
      refine er_mod (by decide) ?_
      k_extra "e"
      refine er_mulL (by omega) ?_
      k_extra "e"
      k_extra "e"
      refine ifd (fun h128 => ?_) (fun h128 => ?_)
      · rw [if_pos h128] at hr
        k_extra "e"
        refine ifd (fun h0 => ?_) (fun h0 => ?_)
        · k_extra "e"
          refine ifd (fun h1 => ?_) (fun h1 => ?_)
          · rw [if_pos ⟨h0, by omega⟩] at hr
            exact es_rz (he hr.symm _)
          · rw [if_neg (fun z => h1 (by omega))] at hr
            refine es_next ?_
            k_extra "e"
            exact hq _ _ hr.symm
        · rw [if_neg (fun z => h0 z.1)] at hr
          k_extra "e"
          k_extra "e"
          exact hq _ _ hr.symm
      · rw [if_neg h128] at hr
        k_extra "e"
        k_extra "e"
        refine er_mulR (by decide) ?_
        k_extra "e"
        exact ⟨_, _, _, _, rfl, rfl, hr⟩
    · have hd : bs.drop i = [] := List.drop_of_length_le hl
      rw [hd] at hr
      exact he hr.symm _
  · rintro σ G' ⟨t, f, c3, c4, rfl, rfl, hr⟩
    exact es_rz (he hr.symm _)
end Lw

namespace Lw
open PySem PySem.Spec PyProof.Rows L2
local macro_rules | `(tactic| k_extra "x1") => `(tactic| first
  | with_reducible refine es_seq ?_
  | with_reducible refine es_asg ?_
  | with_reducible refine es_if ?_
  | with_reducible refine es_ret ?_
  | with_reducible refine es_drop ?_
  | with_reducible refine es_next ?_
  | with_reducible refine es_augS ?_
  | with_reducible refine es_fld ?_
  | ((with_reducible show Ee (tVar _) _ _ _); refine ee_var rfl ?_)
  | with_reducible refine ee_c ?_
  | with_reducible refine ee_op ?_
  | with_reducible refine ee_un ?_
  | with_reducible refine eu_neg ?_
  | with_reducible refine ee_cb ?_
  | with_reducible refine ee_call ?_
  | with_reducible refine ea_nil ?_
  | with_reducible refine ea_cons ?_
  | with_reducible refine ee_sl ?_
  | with_reducible refine eo_no ?_
  | with_reducible refine eo_part ?_
  | with_reducible refine ee_tup ?_
  | with_reducible refine ee_lst ?_
  | with_reducible refine et_test ?_
  | with_reducible refine et_tB ?_
  | with_reducible refine et_tru ?_
  | with_reducible refine et_and ?_
  | with_reducible refine et_or ?_
  | with_reducible refine et_not ?_
  | with_reducible refine ee_and ?_
  | with_reducible refine ee_or ?_
  | with_reducible refine ee_not ?_
  | with_reducible refine ee_if ?_
  | with_reducible refine ee_chain ?_
  | with_reducible refine er_addI ?_
  | with_reducible refine er_subI ?_
  | with_reducible refine er_eqI ?_
  | with_reducible refine er_neI ?_
  | with_reducible refine er_eqNI ?_
  | with_reducible refine er_eqS ?_
  | with_reducible refine er_neS ?_
  | with_reducible refine er_eqB ?_
  | with_reducible refine er_neB ?_
  | with_reducible refine er_lt ?_
  | with_reducible refine er_le ?_
  | with_reducible refine er_gt ?_
  | with_reducible refine er_ge ?_
  | with_reducible refine er_isN_non ?_
  | with_reducible refine er_isN_bl ?_
  | with_reducible refine er_isN_int ?_
  | with_reducible refine er_isN_str ?_
  | with_reducible refine er_isN_ref ?_
  | with_reducible refine er_notN_non ?_
  | with_reducible refine er_notN_bl ?_
  | with_reducible refine er_notN_int ?_
  | with_reducible refine er_notN_str ?_
  | with_reducible refine er_notN_ref ?_
  | with_reducible refine er_isN ?_
  | with_reducible refine er_notN ?_
  | with_reducible refine ec_int ?_
  | with_reducible refine ec_intB ?_
  | with_reducible refine ec_max2 ?_
  | with_reducible refine ec_min2 ?_
  | with_reducible refine ip_I ?_
  | ((with_reducible refine eg_name ?_); (try dsimp only [L2.wipe, List.set_cons_zero, List.set_cons_succ]))
  | with_reducible refine eg_sub ?_
  | with_reducible refine egs_cons ?_
  | with_reducible refine egs_nil ?_
  | with_reducible refine tru_bl ?_
  | with_reducible refine tru_int ?_
  | with_reducible refine tru_non ?_
  | with_reducible refine iteT ?_
  | with_reducible refine iteF ?_
  | with_reducible refine ite_nt ?_
  | with_reducible refine ite_nf ?_
  | with_reducible refine ⟨_, rfl, ?_⟩)
local macro_rules | `(tactic| k_extra "s") => `(tactic| ((first | k_extra "x1" | ((with_reducible refine es_unf ?_); refine es_seq ?_)); (repeat k_extra "x1")))
local macro_rules | `(tactic| k_extra "x") => `(tactic| (repeat first | k_extra "x1" | ((with_reducible refine es_unf ?_); refine es_seq ?_)))
local macro_rules | `(tactic| k_extra "start") => `(tactic| dsimp only [L2.start, List.map_cons, List.map_nil, List.length_cons, List.length_nil, Nat.reduceAdd, Nat.reduceSub, List.replicate, List.cons_append, List.nil_append, Nat.zero_add])
local macro_rules | `(tactic| k_extra "e1") => `(tactic| first
  | with_reducible refine es_next ?_
  | ((with_reducible show Ee (tVar _) _ _ _); refine ee_var rfl ?_)
  | with_reducible refine ee_c ?_
  | with_reducible refine ee_op ?_
  | with_reducible refine ee_un ?_
  | with_reducible refine eu_neg ?_
  | with_reducible refine ee_cb ?_
  | with_reducible refine ee_call ?_
  | with_reducible refine ea_nil ?_
  | with_reducible refine ea_cons ?_
  | with_reducible refine ee_sl ?_
  | with_reducible refine eo_no ?_
  | with_reducible refine eo_part ?_
  | with_reducible refine ee_tup ?_
  | with_reducible refine ee_lst ?_
  | with_reducible refine et_test ?_
  | with_reducible refine et_tB ?_
  | with_reducible refine et_tru ?_
  | with_reducible refine et_and ?_
  | with_reducible refine et_or ?_
  | with_reducible refine et_not ?_
  | with_reducible refine ee_and ?_
  | with_reducible refine ee_or ?_
  | with_reducible refine ee_not ?_
  | with_reducible refine ee_if ?_
  | with_reducible refine ee_chain ?_
  | with_reducible refine er_addI ?_
  | with_reducible refine er_subI ?_
  | with_reducible refine er_eqI ?_
  | with_reducible refine er_neI ?_
  | with_reducible refine er_eqNI ?_
  | with_reducible refine er_eqS ?_
  | with_reducible refine er_neS ?_
  | with_reducible refine er_eqB ?_
  | with_reducible refine er_neB ?_
  | with_reducible refine er_lt ?_
  | with_reducible refine er_le ?_
  | with_reducible refine er_gt ?_
  | with_reducible refine er_ge ?_
  | with_reducible refine er_isN_non ?_
  | with_reducible refine er_isN_bl ?_
  | with_reducible refine er_isN_int ?_
  | with_reducible refine er_isN_str ?_
  | with_reducible refine er_isN_ref ?_
  | with_reducible refine er_notN_non ?_
  | with_reducible refine er_notN_bl ?_
  | with_reducible refine er_notN_int ?_
  | with_reducible refine er_notN_str ?_
  | with_reducible refine er_notN_ref ?_
  | with_reducible refine er_isN ?_
  | with_reducible refine er_notN ?_
  | with_reducible refine ec_int ?_
  | with_reducible refine ec_intB ?_
  | with_reducible refine ec_max2 ?_
  | with_reducible refine ec_min2 ?_
  | with_reducible refine ip_I ?_
  | ((with_reducible refine eg_name ?_); (try dsimp only [L2.wipe, List.set_cons_zero, List.set_cons_succ]))
  | with_reducible refine eg_sub ?_
  | with_reducible refine egs_cons ?_
  | with_reducible refine egs_nil ?_
  | with_reducible refine tru_bl ?_
  | with_reducible refine tru_int ?_
  | with_reducible refine tru_non ?_
  | with_reducible refine iteT ?_
  | with_reducible refine iteF ?_
  | with_reducible refine ite_nt ?_
  | with_reducible refine ite_nf ?_
  | with_reducible refine ex_bl ?_
  | with_reducible refine ex_int ?_
  | with_reducible refine ex_str ?_
  | with_reducible refine ex_strx ?_
  | with_reducible refine ex_ints1 ?_
  | with_reducible refine ex_ints2 ?_)
local macro_rules | `(tactic| k_extra "t1") => `(tactic| first
  | with_reducible refine es_asg ?_
  | with_reducible refine es_if ?_
  | with_reducible refine es_ret ?_
  | with_reducible refine es_drop ?_
  | with_reducible refine es_augS ?_
  | with_reducible refine es_fld ?_)
local macro_rules | `(tactic| k_extra "e") => `(tactic| first
  | ((with_reducible refine es_seq ?_); (try k_extra "t1"); (repeat k_extra "e1"))
  | (k_extra "t1"; (repeat k_extra "e1"))
  | (k_extra "e1"; (repeat k_extra "e1"))
  | ((with_reducible refine es_unf ?_); (refine es_seq ?_); (try k_extra "t1"); (repeat k_extra "e1")))
def S__read_size (K : PySem.W.Frag) (A : Ad) : Pm := fun vs G Q _ => ∃ (pd : Addr) (w : List Int) (s : Nat), vs = [.ref pd, .int s] ∧ SqL K G pd (w.map V.int) ∧
  (rd (w.drop s) = none → ∀ G', Ex G G' → Q .non G') ∧ (∀ n k, rd (w.drop s) = some (n, k) → ∀ G' t, Ex G G' → G' t = none → Q (.ref t) (upd G' t (.tup [.int ((s + k : Nat) : Int), .int n])))
/-! _read_size -/
def t__read_size_1 (K : PySem.W.Frag) (A : Ad) : TS := tSeq (tTryO K A.cDamagedPacket (fun W => (tAsg (tMeth A.cReader "read_number" (up (S_Reader_read_number K A)) [] (WA W) (tVar 2) tNil) (gName 3))) (tRet (tC .non))) (tRet (tTup (tCons (tOp (rAddU K) (tVar 1) (tFld K (tVar 2) "at")) (tCons (tVar 3) tNil))))
def t__read_size (K : PySem.W.Frag) (A : Ad) : TS := tSeq (tAsg (tMake A.cReader (up (S_Reader_init K A)) [] E0 (tCons (tSl (rSlU K) (tVar 0) (tPart (tVar 1)) (tPart (tOp (rAddU K) (tVar 1) (tC (.int 60))))) tNil)) (gName 2)) (t__read_size_1 K A)
theorem len__read_size {K : PySem.W.Frag} {A : Ad} : ∀ vs G Q E, S__read_size K A vs G Q E → vs.length = ["data", "start"].length := by
  rintro vs G Q E ⟨pd, w, s, rfl, _⟩; rfl
theorem map_take (xs : List Int) (n : Nat) : (xs.map V.int).take n = (xs.take n).map V.int := List.map_take.symm
theorem map_drop (xs : List Int) (n : Nat) : (xs.map V.int).drop n = (xs.drop n).map V.int := List.map_drop.symm
theorem ok__read_size {K : PySem.W.Frag} {A : Ad} (C : Cf K A) : ∀ vs G Q E, S__read_size K A vs G Q E → Es (t__read_size K A) { nx := fun _ G' => Q .non G', rt := Q } (L2.start ["data", "start", "reader", "size"] vs) G := by
  rintro vs G Q E ⟨pd, w, s, rfl, hw, q1, q2⟩
  change Es _ _ (_ :: _ :: _ :: _ :: []) _
  k_extra "e"
  refine ee_make ?_
  k_extra "e"
  refine ew_L hw fun p0 hp0 => ?_
  have e1 : ((s : Int) + 60) = ((s + 60 : Nat) : Int) := rfl
  rw [e1, cut_mid _ _ _ (by omega), map_drop, map_take, show s + 60 - s = 60 by omega]
  k_extra "e"
  intro x dx hx hd hn
  refine ⟨x, dx, p0, (w.drop s).take 60, rfl, upd_same, SqL.of (get_ne (get_ne upd_same (ne_new upd_same hd)) (ne_new upd_same hx)), fun p hp => ⟨rfl, ?_⟩⟩
  have hxp : x ≠ p := ne_new upd_same hp
  have eG : Ex G (upd (upd (upd (upd (upd G p0 (.lst (((w.drop s).take 60).map V.int))) dx (.own x)) x (.ins A.cReader dx [])) p (.lst (((w.drop s).take 60).map V.int))) x (.ins A.cReader dx (rF p 0))) := by
    have a := (Ex.new (o := .lst (((w.drop s).take 60).map V.int)) hp0)
    have hx0 : G x = none := nul_upd (by exact hx)
    have hd0 : G dx = none := nul_upd hd
    have hp1 : G p = none := nul_upd (nul_upd (nul_upd hp))
    exact ((((a.mut hd0).mut hx0).mut hp1).mut hx0)
  have g1 : upd (upd (upd (upd (upd G p0 (.lst (((w.drop s).take 60).map V.int))) dx (.own x)) x (.ins A.cReader dx [])) p (.lst (((w.drop s).take 60).map V.int))) x (.ins A.cReader dx (rF p 0)) x = some (.ins A.cReader dx (rF p 0)) := upd_same
  have g2 : upd (upd (upd (upd (upd G p0 (.lst (((w.drop s).take 60).map V.int))) dx (.own x)) x (.ins A.cReader dx [])) p (.lst (((w.drop s).take 60).map V.int))) x (.ins A.cReader dx (rF p 0)) p = some (.lst (((w.drop s).take 60).map V.int)) := get_ne upd_same hxp.symm
  have hxG : G x = none := nul_upd (by exact hx)
  generalize upd (upd (upd (upd (upd G p0 (.lst (((w.drop s).take 60).map V.int))) dx (.own x)) x (.ins A.cReader dx [])) p (.lst (((w.drop s).take 60).map V.int))) x (.ins A.cReader dx (rF p 0)) = G1 at eG g1 g2 ⊢
  have eG2 : ∀ k, Ex G (upd G1 x (.ins A.cReader dx (rF p k))) := fun k => eG.mut hxG
  k_extra "e"
  refine es_seq (es_try C.xc fun W hW => ?_)
  dsimp only
  k_extra "e"
  refine ee_meth ?_
  k_extra "e"
  refine ⟨x, dx, _, rfl, g1, rF_no (by decide +kernel) (by decide +kernel), ?_⟩
  k_extra "e"
  refine ⟨x, dx, p, _, rfl, g1, g2, fun n k h => ?_, fun h k => ?_⟩
  · k_extra "e"
    k_extra "e"
    refine ee_fld ?_
    k_extra "e"
    refine ⟨x, _, dx, _, _, rfl, upd_same, C.cl, C.n2, rF_at _ _, ?_⟩
    k_extra "e"
    refine ⟨sz1000 (by simp), fun t ht => ?_⟩
    exact q2 n k h _ t (eG2 k) ht
  · refine dn_wa hW fun σ' => ?_
    k_extra "e"
    exact q1 h _ (eG2 k)
/-! ### numbers, checksums, records -/
def S_write_number (K : PySem.W.Frag) (A : Ad) : Pm := fun vs G Q _ => ∃ n : Nat, vs = [.int n] ∧ n < 16384 ∧ ∀ G' p, Ex G G' → G' p = none → Q (.ref p) (upd G' p (.lst ((num n).map V.int)))
/-! write_number -/
def t_write_number_1 (K : PySem.W.Frag) (A : Ad) : TS := tSeq (tDrop (tBM K "list" (rAppend) (tVar 1) (tCons (tOp (rAddU K) (tOp (rModU) (tVar 0) (tC (.int 128))) (tC (.int 128))) tNil))) (tAsg (tOp (rDivU) (tVar 0) (tC (.int 128))) (gName 0))
def t_write_number_2 (K : PySem.W.Frag) (A : Ad) : TS := tSeq (tWhile (tTest (tOp (rGeI) (tVar 0) (tC (.int 128)))) (t_write_number_1 K A)) (tRet (tOp (rAddU K) (tVar 1) (tLst (tCons (tVar 0) tNil))))
def t_write_number (K : PySem.W.Frag) (A : Ad) : TS := tSeq (tAsg (tLst tNil) (gName 1)) (t_write_number_2 K A)
theorem len_write_number {K : PySem.W.Frag} {A : Ad} : ∀ vs G Q E, S_write_number K A vs G Q E → vs.length = ["number"].length := by
  rintro vs G Q E ⟨n, rfl, _⟩; rfl
theorem ok_write_number {K : PySem.W.Frag} {A : Ad} : ∀ vs G Q E, S_write_number K A vs G Q E → Es (t_write_number K A) { nx := fun _ G' => Q .non G', rt := Q } (L2.start ["number", "data"] vs) G := by
  rintro vs G Q E ⟨n, rfl, hn, q⟩
  change Es _ _ (_ :: _ :: []) _
  k_extra "e"
  refine ⟨Nat.zero_le _, fun l hl => ?_⟩
  k_extra "e"
  refine es_seq (es_while (fun m σ G' => ∃ (k : Nat) (ys : List Int), σ = [some (.int k), some (.ref l)] ∧ k = m ∧ k < 16384 ∧ G' = upd G l (.lst (ys.map V.int)) ∧ ys.length ≤ 100 - (if k < 128 then 0 else 1) ∧ ys ++ num k = num n) n ⟨n, [], rfl, rfl, hn, rfl, by split <;> simp, rfl⟩ ?_)
  rintro m σ G' ⟨k, ys, rfl, rfl, hk, rfl, hy, hs⟩
  k_extra "e"
  refine ifd (fun h => ?_) (fun h => ?_)
  · have h128 : ¬ k < 128 := by omega
    rw [if_neg h128] at hy
    k_extra "e"
    refine ee_bm ?_
    k_extra "e"
    refine ⟨ty_lst upd_same, ?_⟩
    k_extra "e"
    refine er_mod (by decide) ?_
    k_extra "e"
    refine em_append upd_same (by rw [List.length_map]; exact szlt (by omega)) ?_
    rw [upd_upd]
    k_extra "e"
    refine er_div (by decide) ?_
    k_extra "e"
    refine ⟨k / 128, by omega, k / 128, ys ++ [(k : Int) % 128 + 128], rfl, rfl, by omega, ?_, ?_, ?_⟩
    · congr 2; simp
    · rw [if_pos (by omega)]; simp; omega
    · rw [← hs, List.append_assoc]
      congr 1
      unfold num
      rw [if_neg h128, if_pos (by omega)]
      rfl
  · have h128 : k < 128 := by omega
    k_extra "e"
    refine ⟨sz1000 (by simp), fun p hp => ?_⟩
    refine er_addL (get_new upd_same hp) upd_same (by rw [List.length_map]; exact sz1000 (by simp; omega)) fun r hr => ?_
    have e1 : ys.map V.int ++ [V.int (k : Int)] = (num n).map V.int := by
      rw [← hs]; unfold num; rw [if_pos h128, List.map_append]; rfl
    rw [e1]
    exact q _ r ((Ex.new hl).trans (Ex.new hp)) hr
def S_checksum (K : PySem.W.Frag) (A : Ad) : Pm := fun vs G Q _ => ∃ (p : Addr) (d : List Int), vs = [.ref p] ∧ SqL K G p (d.map V.int) ∧ Q (.int (chk d)) G
/-! checksum -/
def t_checksum_1 (K : PySem.W.Frag) (A : Ad) : TS := tSeq (tFor (iList K (tVar 0)) (gName 2) (tAsg (tOp (rModU) (tOp (rAddU K) (tOp (rAddU K) (tOp (rMulU) (tC (.int 31)) (tVar 1)) (tVar 2)) (tC (.int 1))) (tC (.int 4294967296))) (gName 1))) (tRet (tVar 1))
def t_checksum (K : PySem.W.Frag) (A : Ad) : TS := tSeq (tAsg (tC (.int 7)) (gName 1)) (t_checksum_1 K A)
theorem len_checksum {K : PySem.W.Frag} {A : Ad} : ∀ vs G Q E, S_checksum K A vs G Q E → vs.length = ["data"].length := by
  rintro vs G Q E ⟨p, d, rfl, _⟩; rfl
theorem ckF_snoc (t : Int) (d : List Int) (b : Int) : ckF t (d ++ [b]) = (31 * ckF t d + b + 1) % 4294967296 := by unfold ckF; rw [List.foldl_append]; rfl
theorem get_ints {d : List Int} {i : Nat} {x : V} (h : (d.map V.int)[i]? = some x) : ∃ b, d[i]? = some b ∧ x = .int b := by
  rw [List.getElem?_map] at h
  obtain ⟨b, hb, rfl⟩ := Option.map_eq_some_iff.mp h
  exact ⟨b, hb, rfl⟩
theorem take_next {α : Type} {d : List α} {i : Nat} {b : α} (h : d[i]? = some b) : d.take (i + 1) = d.take i ++ [b] := by
  rw [List.take_add_one, h]; rfl
theorem ok_checksum {K : PySem.W.Frag} {A : Ad} : ∀ vs G Q E, S_checksum K A vs G Q E → Es (t_checksum K A) { nx := fun _ G' => Q .non G', rt := Q } (L2.start ["data", "total", "byte"] vs) G := by
  rintro vs G Q E ⟨p, d, rfl, hp, q⟩
  change Es _ _ (_ :: _ :: _ :: []) _
  k_extra "e"
  k_extra "e"
  refine es_forL ?_
  k_extra "e"
  refine ⟨p, _, rfl, hp, fun i σ G' => ∃ c, σ = [some (.ref p), some (.int (ckF 7 (d.take i))), c] ∧ G' = G, ⟨_, rfl, rfl⟩, ?_, ?_, ?_⟩
  · rintro i σ G' ⟨c, rfl, rfl⟩; exact hp
  · rintro i x σ G' hx ⟨c, rfl, rfl⟩
    obtain ⟨b, hb, rfl⟩ := get_ints hx
    k_extra "e"
    k_extra "e"
    refine er_mulL (by decide) ?_
    k_extra "e"
    refine er_mod (by decide) ?_
    k_extra "e"
    exact ⟨_, by rw [take_next hb, ckF_snoc], rfl⟩
  · rintro σ G' ⟨c, rfl, rfl⟩
    rw [List.length_map, List.take_length]
    k_extra "e"
    exact q
def S_write_record (K : PySem.W.Frag) (A : Ad) : Pm := fun vs G Q _ => ∃ (p : Addr) (d : List Int), vs = [.ref p] ∧ SqL K G p (d.map V.int) ∧ d.length < 16384 ∧ ∀ G' r, Ex G G' → G' r = none → Q (.ref r) (upd G' r (.lst ((rcd d).map V.int)))
/-! write_record -/
def t_write_record_1 (K : PySem.W.Frag) (A : Ad) : TS := tSeq (tAsg (tLst (tCons (tOp (rDivU) (tVar 1) (tC (.int 16777216))) (tCons (tOp (rModU) (tOp (rDivU) (tVar 1) (tC (.int 65536))) (tC (.int 256))) (tCons (tOp (rModU) (tOp (rDivU) (tVar 1) (tC (.int 256))) (tC (.int 256))) (tCons (tOp (rModU) (tVar 1) (tC (.int 256))) tNil))))) (gName 2)) (tRet (tOp (rAddU K) (tOp (rAddU K) (tCall (up (S_write_number K A)) [] E0 (tCons (tCB (rLenU K) (tCons (tVar 0) tNil)) tNil)) (tCB (rListU K) (tCons (tVar 0) tNil))) (tVar 2)))
def t_write_record (K : PySem.W.Frag) (A : Ad) : TS := tSeq (tAsg (tCall (up (S_checksum K A)) [] E0 (tCons (tVar 0) tNil)) (gName 1)) (t_write_record_1 K A)
theorem len_write_record {K : PySem.W.Frag} {A : Ad} : ∀ vs G Q E, S_write_record K A vs G Q E → vs.length = ["data"].length := by
  rintro vs G Q E ⟨p, d, rfl, _⟩; rfl
theorem ok_write_record {K : PySem.W.Frag} {A : Ad} : ∀ vs G Q E, S_write_record K A vs G Q E → Es (t_write_record K A) { nx := fun _ G' => Q .non G', rt := Q } (L2.start ["data", "total", "tail"] vs) G := by
  rintro vs G Q E ⟨p, d, rfl, hp, hd, q⟩
  change Es _ _ (_ :: _ :: _ :: []) _
  k_extra "e"
  refine ⟨p, d, rfl, hp, ?_⟩
  k_extra "e"
  k_extra "e"
  refine er_div (by decide) ?_
  k_extra "e"
  refine er_div (by decide) ?_
  k_extra "e"
  refine er_mod (by decide) ?_
  k_extra "e"
  refine er_div (by decide) ?_
  k_extra "e"
  refine er_mod (by decide) ?_
  k_extra "e"
  refine er_mod (by decide) ?_
  k_extra "e"
  refine ⟨sz1000 (by simp), fun t ht => ?_⟩
  k_extra "e"
  k_extra "e"
  refine ec_lenL ((Ex.new ht).sl hp) fun _ => ?_
  rw [List.length_map]
  k_extra "e"
  refine ⟨d.length, rfl, hd, fun G1 r1 e1 hr1 => ?_⟩
  k_extra "e"
  have e0 := ((Ex.new ht).trans e1).trans (Ex.new (o := .lst ((num d.length).map V.int)) hr1)
  refine ec_list (.inl (e0.sl hp)) fun r2 hr2 => ?_
  refine er_addL (get_new upd_same hr2) upd_same (by rw [List.length_map, List.length_map]; exact szM (by have := num_le d.length; omega)) fun r3 hr3 => ?_
  k_extra "e"
  refine er_addL upd_same (get_new (get_new (get_new (e1 _ _ upd_same) hr1) hr2) hr3) (by rw [List.length_append, List.length_map, List.length_map]; exact szM (by have := num_le d.length; simp; omega)) fun r4 hr4 => ?_
  have e5 : (num d.length).map V.int ++ d.map V.int ++ [V.int (chk d / 16777216), V.int (chk d / 65536 % 256), V.int (chk d / 256 % 256), V.int (chk d % 256)] = (rcd d).map V.int := by
    unfold rcd; rw [List.map_append, List.map_append]; rfl
  rw [e5]
  exact q _ r4 ((e0.trans (Ex.new hr2)).trans (Ex.new hr3)) hr4
end Lw

namespace Lw
open PySem PySem.Spec PyProof.Rows L2
/-! ### lists of ints, and lists of those, as data -/
theorem lay_ints : ∀ ns : List Int, PyData.canLayAll0 (ns.map PyData.int) = true := by
  intro ns; induction ns with
  | nil => rfl
  | cons n r ih => rw [List.map_cons]; simp only [PyData.canLayAll0, PyData.canLay0, ih, Bool.and_self, Bool.true_and]
theorem dep_ints : ∀ ns : List Int, PyData.depthAll (ns.map PyData.int) = 0 := by
  intro ns; induction ns with
  | nil => rfl
  | cons n r ih => rw [List.map_cons]; simp only [PyData.depthAll, PyData.depth, ih]; rfl
theorem sh_ints (ns : List Int) : SeqAt.shaped (.list (ns.map PyData.int)) = true := by
  unfold SeqAt.shaped
  simp only [PyData.canLay0, PyData.depth, lay_ints, dep_ints]
  decide
theorem eqv_all : ∀ ns ms : List Int, PyData.eqvAll (ns.map PyData.int) (ms.map PyData.int) = decide (ns = ms)
  | [], [] => by simp [PyData.eqvAll]
  | [], _ :: _ => by simp [PyData.eqvAll]
  | _ :: _, [] => by simp [PyData.eqvAll]
  | n :: ns, m :: ms => by
    rw [List.map_cons, List.map_cons, PyData.eqvAll, eqv_all ns ms, PyData.eqv]
    by_cases h : n = m <;> by_cases h' : ns = ms <;> simp [h, h']
theorem eqv_int2 (ns ms : List Int) : PyData.eqv (.list (ns.map PyData.int)) (.list (ms.map PyData.int)) = decide (ns = ms) := by rw [PyData.eqv]; exact eqv_all ns ms
theorem int_depth (n : Int) : (PyData.int n).depth < 8 := by simp [PyData.depth]
theorem ints_depth (ns : List Int) : (PyData.list (ns.map PyData.int)).depth < 8 := by simp [PyData.depth, dep_ints]
theorem dep_il : ∀ ds : List (List Int), PyData.depthAll (ds.map fun d => PyData.list (d.map PyData.int)) ≤ 1 := by
  intro ds; induction ds with
  | nil => simp [PyData.depthAll]
  | cons n r ih => rw [List.map_cons]; simp only [PyData.depthAll, PyData.depth, dep_ints]; omega
/-- two lists of ints compared -/
theorem er_neIs {K : PySem.W.Frag} {G : Hp} {Q : V → Hp → Prop} {p r : Addr} {xs ys : List Int} (h : SqL K G p (xs.map V.int)) (h' : SqL K G r (ys.map V.int)) (q : Q (.bl (!decide (xs = ys))) G) : Er (rNeU K) (.ref p) (.ref r) G Q :=
  er_neD (d := .list (xs.map PyData.int)) (d' := .list (ys.map PyData.int)) (.lst h (dps_ints xs)) (.lst h' (dps_ints ys)) (sh_ints xs) (sh_ints ys) (by rw [eqv_int2]; exact q)
theorem er_eqIs {K : PySem.W.Frag} {G : Hp} {Q : V → Hp → Prop} {p r : Addr} {xs ys : List Int} (h : SqL K G p (xs.map V.int)) (h' : SqL K G r (ys.map V.int)) (q : Q (.bl (decide (xs = ys))) G) : Er (rEqU K) (.ref p) (.ref r) G Q :=
  er_eqD (d := .list (xs.map PyData.int)) (d' := .list (ys.map PyData.int)) (.lst h (dps_ints xs)) (.lst h' (dps_ints ys)) (sh_ints xs) (sh_ints ys) (by rw [eqv_int2]; exact q)
end Lw

namespace Lw
open PySem PySem.Spec PyProof.Rows L2
local macro_rules | `(tactic| k_extra "x1") => `(tactic| first
  | with_reducible refine es_seq ?_
  | with_reducible refine es_asg ?_
  | with_reducible refine es_if ?_
  | with_reducible refine es_ret ?_
  | with_reducible refine es_drop ?_
  | with_reducible refine es_next ?_
  | with_reducible refine es_augS ?_
  | with_reducible refine es_fld ?_
  | ((with_reducible show Ee (tVar _) _ _ _); refine ee_var rfl ?_)
  | with_reducible refine ee_c ?_
  | with_reducible refine ee_op ?_
  | with_reducible refine ee_un ?_
  | with_reducible refine eu_neg ?_
  | with_reducible refine ee_cb ?_
  | with_reducible refine ee_call ?_
  | with_reducible refine ea_nil ?_
  | with_reducible refine ea_cons ?_
  | with_reducible refine ee_sl ?_
  | with_reducible refine eo_no ?_
  | with_reducible refine eo_part ?_
  | with_reducible refine ee_tup ?_
  | with_reducible refine ee_lst ?_
  | with_reducible refine et_test ?_
  | with_reducible refine et_tB ?_
  | with_reducible refine et_tru ?_
  | with_reducible refine et_and ?_
  | with_reducible refine et_or ?_
  | with_reducible refine et_not ?_
  | with_reducible refine ee_and ?_
  | with_reducible refine ee_or ?_
  | with_reducible refine ee_not ?_
  | with_reducible refine ee_if ?_
  | with_reducible refine ee_chain ?_
  | with_reducible refine er_addI ?_
  | with_reducible refine er_subI ?_
  | with_reducible refine er_eqI ?_
  | with_reducible refine er_neI ?_
  | with_reducible refine er_eqNI ?_
  | with_reducible refine er_eqS ?_
  | with_reducible refine er_neS ?_
  | with_reducible refine er_eqB ?_
  | with_reducible refine er_neB ?_
  | with_reducible refine er_lt ?_
  | with_reducible refine er_le ?_
  | with_reducible refine er_gt ?_
  | with_reducible refine er_ge ?_
  | with_reducible refine er_isN_non ?_
  | with_reducible refine er_isN_bl ?_
  | with_reducible refine er_isN_int ?_
  | with_reducible refine er_isN_str ?_
  | with_reducible refine er_isN_ref ?_
  | with_reducible refine er_notN_non ?_
  | with_reducible refine er_notN_bl ?_
  | with_reducible refine er_notN_int ?_
  | with_reducible refine er_notN_str ?_
  | with_reducible refine er_notN_ref ?_
  | with_reducible refine er_isN ?_
  | with_reducible refine er_notN ?_
  | with_reducible refine ec_int ?_
  | with_reducible refine ec_intB ?_
  | with_reducible refine ec_max2 ?_
  | with_reducible refine ec_min2 ?_
  | with_reducible refine ip_I ?_
  | ((with_reducible refine eg_name ?_); (try dsimp only [L2.wipe, List.set_cons_zero, List.set_cons_succ]))
  | with_reducible refine eg_sub ?_
  | with_reducible refine egs_cons ?_
  | with_reducible refine egs_nil ?_
  | with_reducible refine tru_bl ?_
  | with_reducible refine tru_int ?_
  | with_reducible refine tru_non ?_
  | with_reducible refine iteT ?_
  | with_reducible refine iteF ?_
  | with_reducible refine ite_nt ?_
  | with_reducible refine ite_nf ?_
  | with_reducible refine ⟨_, rfl, ?_⟩)
local macro_rules | `(tactic| k_extra "s") => `(tactic| ((first | k_extra "x1" | ((with_reducible refine es_unf ?_); refine es_seq ?_)); (repeat k_extra "x1")))
local macro_rules | `(tactic| k_extra "x") => `(tactic| (repeat first | k_extra "x1" | ((with_reducible refine es_unf ?_); refine es_seq ?_)))
local macro_rules | `(tactic| k_extra "start") => `(tactic| dsimp only [L2.start, List.map_cons, List.map_nil, List.length_cons, List.length_nil, Nat.reduceAdd, Nat.reduceSub, List.replicate, List.cons_append, List.nil_append, Nat.zero_add])
local macro_rules | `(tactic| k_extra "e1") => `(tactic| first
  | with_reducible refine es_next ?_
  | ((with_reducible show Ee (tVar _) _ _ _); refine ee_var rfl ?_)
  | with_reducible refine ee_c ?_
  | with_reducible refine ee_op ?_
  | with_reducible refine ee_un ?_
  | with_reducible refine eu_neg ?_
  | with_reducible refine ee_cb ?_
  | with_reducible refine ee_call ?_
  | with_reducible refine ea_nil ?_
  | with_reducible refine ea_cons ?_
  | with_reducible refine ee_sl ?_
  | with_reducible refine eo_no ?_
  | with_reducible refine eo_part ?_
  | with_reducible refine ee_tup ?_
  | with_reducible refine ee_lst ?_
  | with_reducible refine et_test ?_
  | with_reducible refine et_tB ?_
  | with_reducible refine et_tru ?_
  | with_reducible refine et_and ?_
  | with_reducible refine et_or ?_
  | with_reducible refine et_not ?_
  | with_reducible refine ee_and ?_
  | with_reducible refine ee_or ?_
  | with_reducible refine ee_not ?_
  | with_reducible refine ee_if ?_
  | with_reducible refine ee_chain ?_
  | with_reducible refine er_addI ?_
  | with_reducible refine er_subI ?_
  | with_reducible refine er_eqI ?_
  | with_reducible refine er_neI ?_
  | with_reducible refine er_eqNI ?_
  | with_reducible refine er_eqS ?_
  | with_reducible refine er_neS ?_
  | with_reducible refine er_eqB ?_
  | with_reducible refine er_neB ?_
  | with_reducible refine er_lt ?_
  | with_reducible refine er_le ?_
  | with_reducible refine er_gt ?_
  | with_reducible refine er_ge ?_
  | with_reducible refine er_isN_non ?_
  | with_reducible refine er_isN_bl ?_
  | with_reducible refine er_isN_int ?_
  | with_reducible refine er_isN_str ?_
  | with_reducible refine er_isN_ref ?_
  | with_reducible refine er_notN_non ?_
  | with_reducible refine er_notN_bl ?_
  | with_reducible refine er_notN_int ?_
  | with_reducible refine er_notN_str ?_
  | with_reducible refine er_notN_ref ?_
  | with_reducible refine er_isN ?_
  | with_reducible refine er_notN ?_
  | with_reducible refine ec_int ?_
  | with_reducible refine ec_intB ?_
  | with_reducible refine ec_max2 ?_
  | with_reducible refine ec_min2 ?_
  | with_reducible refine ip_I ?_
  | ((with_reducible refine eg_name ?_); (try dsimp only [L2.wipe, List.set_cons_zero, List.set_cons_succ]))
  | with_reducible refine eg_sub ?_
  | with_reducible refine egs_cons ?_
  | with_reducible refine egs_nil ?_
  | with_reducible refine tru_bl ?_
  | with_reducible refine tru_int ?_
  | with_reducible refine tru_non ?_
  | with_reducible refine iteT ?_
  | with_reducible refine iteF ?_
  | with_reducible refine ite_nt ?_
  | with_reducible refine ite_nf ?_
  | with_reducible refine ex_bl ?_
  | with_reducible refine ex_int ?_
  | with_reducible refine ex_str ?_
  | with_reducible refine ex_strx ?_
  | with_reducible refine ex_ints1 ?_
  | with_reducible refine ex_ints2 ?_)
local macro_rules | `(tactic| k_extra "t1") => `(tactic| first
  | with_reducible refine es_asg ?_
  | with_reducible refine es_if ?_
  | with_reducible refine es_ret ?_
  | with_reducible refine es_drop ?_
  | with_reducible refine es_augS ?_
  | with_reducible refine es_fld ?_)
local macro_rules | `(tactic| k_extra "e") => `(tactic| first
  | ((with_reducible refine es_seq ?_); (try k_extra "t1"); (repeat k_extra "e1"))
  | (k_extra "t1"; (repeat k_extra "e1"))
  | (k_extra "e1"; (repeat k_extra "e1"))
  | ((with_reducible refine es_unf ?_); (refine es_seq ?_); (try k_extra "t1"); (repeat k_extra "e1")))
def recD (ds : List (List Int)) : List PyData := ds.map fun d => .list (d.map PyData.int)
def S_read_records (K : PySem.W.Frag) (A : Ad) : Pm := fun vs G Q _ => ∃ (pd : Addr) (w : List Int) (ds : List (List Int)) (tail : List Int), vs = [.ref pd] ∧ SqL K G pd (w.map V.int) ∧ w = alls ds ++ tail ∧ (∀ d ∈ ds, d.length ≤ 2000) ∧ ds.length ≤ 1000 ∧ Bad tail ∧
  ∀ G' t, Ex G G' → Dp K G' (.ref t) (.tuple [.list (recD ds), .int (alls ds).length]) → Q (.ref t) G'
/-! read_records -/
def t_read_records_1 (K : PySem.W.Frag) (A : Ad) : TS := tSeq (tAsg (tVar 7) (gName 2)) (tAsg (tCall (up (S__read_size K A)) [] E0 (tCons (tVar 0) (tCons (tVar 2) tNil))) (gName 3))
def t_read_records_2 (K : PySem.W.Frag) (A : Ad) : TS := tSeq (tDrop (tBM K "list" (rAppend) (tVar 1) (tCons (tVar 6) tNil))) (t_read_records_1 K A)
def t_read_records_3 (K : PySem.W.Frag) (A : Ad) : TS := tSeq (tIfS (tOr (tTest (tOp (rGtI) (tVar 7) (tCB (rLenU K) (tCons (tVar 0) tNil)))) (tTest (tOp (rNeU K) (tSl (rSlU K) (tCall (up (S_write_record K A)) [] E0 (tCons (tVar 6) tNil)) (tPart (tUn (rU fun i => .int (-i)) (tC (.int 4)))) tNoPart) (tSl (rSlU K) (tVar 0) (tPart (tOp (rSubI) (tVar 7) (tC (.int 4)))) (tPart (tVar 7)))))) tBreak tNext) (t_read_records_2 K A)
def t_read_records_4 (K : PySem.W.Frag) (A : Ad) : TS := tSeq (tAsg (tOp (rAddU K) (tOp (rAddU K) (tVar 4) (tVar 5)) (tC (.int 4))) (gName 7)) (t_read_records_3 K A)
def t_read_records_5 (K : PySem.W.Frag) (A : Ad) : TS := tSeq (tAsg (tSl (rSlU K) (tVar 0) (tPart (tVar 4)) (tPart (tOp (rAddU K) (tVar 4) (tVar 5)))) (gName 6)) (t_read_records_4 K A)
def t_read_records_6 (K : PySem.W.Frag) (A : Ad) : TS := tSeq (tAsg (tVar 3) (gTup K 2 (gCons (gName 4) (gCons (gName 5) gNil)))) (t_read_records_5 K A)
def t_read_records_7 (K : PySem.W.Frag) (A : Ad) : TS := tSeq (tWhile (tTest (tOp (rNotN) (tVar 3) (tC .non))) (t_read_records_6 K A)) (tRet (tTup (tCons (tVar 1) (tCons (tVar 2) tNil))))
def t_read_records_8 (K : PySem.W.Frag) (A : Ad) : TS := tSeq (tAsg (tCall (up (S__read_size K A)) [] E0 (tCons (tVar 0) (tCons (tVar 2) tNil))) (gName 3)) (t_read_records_7 K A)
def t_read_records_9 (K : PySem.W.Frag) (A : Ad) : TS := tSeq (tAsg (tC (.int 0)) (gName 2)) (t_read_records_8 K A)
def t_read_records (K : PySem.W.Frag) (A : Ad) : TS := tSeq (tAsg (tLst tNil) (gName 1)) (t_read_records_9 K A)
theorem len_read_records {K : PySem.W.Frag} {A : Ad} : ∀ vs G Q E, S_read_records K A vs G Q E → vs.length = ["data"].length := by
  rintro vs G Q E ⟨pd, w, ds, tail, rfl, _⟩; rfl
def Fo (K : PySem.W.Frag) (w : List Int) (s : Nat) (f : V) (G : Hp) : Prop := (f = .non ∧ rd (w.drop s) = none) ∨ ∃ (t : Addr) (n : Int) (k : Nat), f = .ref t ∧ SqT K G t [.int ((s + k : Nat) : Int), .int n] ∧ rd (w.drop s) = some (n, k)
/-- the state at the while's head -/
def Rw (K : PySem.W.Frag) (G : Hp) (pd : Addr) (w : List Int) (ds : List (List Int)) (i : Nat) (σ : L2.St) (G' : Hp) : Prop := ∃ (r : Addr) (f : V) (c4 c5 c6 c7 : Option V) (F : Hp) (xs : List V),
  σ = [some (.ref pd), some (.ref r), some (.int (alls (ds.take i)).length), some f, c4, c5, c6, c7] ∧ i ≤ ds.length ∧ Fo K w (alls (ds.take i)).length f G' ∧ Ex G F ∧ F r = none ∧ DpAll K F xs (recD (ds.take i)) ∧ G' r = some (.lst xs) ∧ Ex F G'
theorem drop_alls {ds : List (List Int)} {i : Nat} {d : List Int} (tail : List Int) (h : ds[i]? = some d) : (alls ds ++ tail).drop (alls (ds.take i)).length = rcd d ++ (alls (ds.drop (i + 1)) ++ tail) := by
  have hi := (List.getElem?_eq_some_iff.mp h)
  obtain ⟨hl, he⟩ := hi
  have e : ds = ds.take i ++ d :: ds.drop (i + 1) := by
    rw [← he, ← List.drop_eq_getElem_cons hl, List.take_append_drop]
  have e2 : alls ds = alls (ds.take i) ++ (rcd d ++ alls (ds.drop (i + 1))) := by
    conv => lhs; rw [e]
    unfold alls
    rw [List.map_append, List.flatten_append]; rfl
  rw [e2, List.append_assoc, List.append_assoc, List.drop_left]
theorem drop_end (ds : List (List Int)) (tail : List Int) : (alls ds ++ tail).drop (alls (ds.take ds.length)).length = tail := by rw [List.take_length, List.drop_left]
section
variable {K : PySem.W.Frag} {A : Ad} {G G' : Hp} {pd : Addr} {w tail : List Int} {ds : List (List Int)} {i : Nat} {σ : L2.St} {Q : V → Hp → Prop}
theorem rec_fin {r : Addr} {f : V} {c4 c5 c6 c7 : Option V} {F : Hp} {xs : List V} (q : ∀ G' t, Ex G G' → Dp K G' (.ref t) (.tuple [.list (recD ds), .int (alls ds).length]) → Q (.ref t) G')
    (e : Ex G F) (hr : F r = none) (hd : DpAll K F xs (recD ds)) (hx : G' r = some (.lst xs)) (ex : Ex F G') :
    Es (tRet (tTup (tCons (tVar 1) (tCons (tVar 2) tNil)))) { nx := fun _ G' => Q .non G', rt := Q } [some (.ref pd), some (.ref r), some (.int (alls ds).length), some f, c4, c5, c6, c7] G' := by
  k_extra "e"
  refine ⟨sz1000 (by simp), fun t ht => ?_⟩
  refine q _ t ((e.trans ex).trans (Ex.new ht)) (.tup (SqT.of upd_same) (.cons (.lst (SqL.of (get_new hx ht)) ((ex.trans (Ex.new ht)).dps hd)) (.cons (.int _) .nil)))
end
theorem ok_read_records {K : PySem.W.Frag} {A : Ad} (C : Cf K A) : ∀ vs G Q E, S_read_records K A vs G Q E → Es (t_read_records K A) { nx := fun _ G' => Q .non G', rt := Q } (L2.start ["data", "records", "start", "found", "begin", "size", "record", "end"] vs) G := by
  rintro vs G Q E ⟨pd, w, ds, tail, rfl, hw, ew, hds, hn, hb, q⟩
  change Es _ _ (_ :: _ :: _ :: _ :: _ :: _ :: _ :: _ :: []) _
  k_extra "e"
  refine ⟨Nat.zero_le _, fun r hr => ?_⟩
  k_extra "e"
  k_extra "e"
  k_extra "e"
  -- what is read at a place
  have size : ∀ {G1 : Hp} {s : Nat} {R : V → Hp → Prop} {E : XK}, Ex G G1 → (∀ f G2, Ex G1 G2 → Fo K w s f G2 → R f G2) → S__read_size K A [.ref pd, .int s] G1 R E := fun {G1 s R E} e k =>
    ⟨pd, w, s, rfl, e.sl hw, fun h G2 e2 => k _ _ e2 (.inl ⟨rfl, h⟩), fun n k' h G2 t e2 ht => k _ _ (e2.trans (Ex.new ht)) (.inr ⟨t, n, k', rfl, SqT.of upd_same, h⟩)⟩
  have er := Ex.new (o := .lst []) hr
  refine size (s := 0) er fun f G1 e1 hf => ?_
  k_extra "e"
  refine es_seq (es_while (fun m σ G' => ∃ i, m = ds.length - i ∧ Rw K G pd w ds i σ G') ds.length ⟨0, rfl, r, f, _, _, _, _, G, [], rfl, Nat.zero_le _, hf, Ex.refl _, hr, .nil, e1 _ _ upd_same, er.trans e1⟩ ?_)
  rintro m σ G2 ⟨i, rfl, r, f, c4, c5, c6, c7, F, xs, rfl, hi, hf, eF, hFr, hD, hx, ex⟩
  have eG2 := eF.trans ex
  rcases hf with ⟨rfl, hf⟩ | ⟨t, n, k, rfl, ht, hf⟩
  · -- nothing more is found
    k_extra "e"
    have hi2 : i = ds.length := by
      rcases Nat.lt_or_ge i ds.length with h | h
      · exfalso
        have hd : ds[i]? = some ds[i] := List.getElem?_eq_getElem h
        rw [ew, drop_alls tail hd, rd_rcd (by have := hds _ (List.mem_of_getElem? hd); omega)] at hf
        cases hf
      · omega
    subst hi2
    rw [List.take_length] at hD
    rw [List.take_length]
    exact rec_fin q eF hFr hD hx ex
  · k_extra "e"
    k_extra "e"
    refine eg_tup ht rfl ?_
    k_extra "e"
    k_extra "e"
    obtain ⟨s, hs⟩ : ∃ s, s = (alls (ds.take i)).length := ⟨_, rfl⟩
    rw [← hs] at ht hf ⊢
    rcases Nat.lt_or_ge i ds.length with h | h
    · -- a whole record
      have hd : ds[i]? = some ds[i] := List.getElem?_eq_getElem h
      generalize ds[i] = d at hd
      have hd2 := hds _ (List.mem_of_getElem? hd)
      have hdr := drop_alls tail hd
      rw [← ew, ← hs] at hdr
      rw [hdr, rd_rcd (by omega)] at hf
      obtain ⟨rfl, rfl⟩ := Prod.mk.inj (Option.some.inj hf)
      have hk := num_le d.length
      have hsn : (alls (ds.take (i + 1))).length = s + (rcd d).length := by rw [take_next hd, alls_snoc, List.length_append, hs]
      have hwl : s + (rcd d).length ≤ w.length := by
        have := congrArg List.length hdr
        rw [List.length_drop, List.length_append] at this
        have := rcd_len d
        omega
      have hrl := rcd_len d
      have e1 : ((s + (num d.length).length : Nat) : Int) + (d.length : Int) = ((s + (num d.length).length + d.length : Nat) : Int) := rfl
      rw [e1]
      refine ew_L (eG2.sl hw) fun p hp => ?_
      have ec : cutV (w.map V.int) (some ((s + (num d.length).length : Nat) : Int)) (some ((s + (num d.length).length + d.length : Nat) : Int)) = d.map V.int := by
        rw [cut_mid _ _ _ (by omega), map_drop, map_take, ← List.drop_drop, hdr, rcd_drop, show s + (num d.length).length + d.length - (s + (num d.length).length) = d.length by omega, List.take_left]
      rw [ec]
      have e3 := Ex.new (o := .lst (d.map V.int)) hp
      k_extra "e"
      k_extra "e"
      k_extra "e"
      refine ec_lenL ((eG2.trans e3).sl hw) fun _ => ?_
      rw [List.length_map]
      k_extra "e"
      have e2 : ((s + (num d.length).length : Nat) : Int) + (d.length : Int) + 4 = ((s + (rcd d).length : Nat) : Int) := by rw [hrl]; omega
      rw [e2]
      refine iff_ (decide_eq_false (by omega)) ?_
      k_extra "e"
      refine ⟨p, d, rfl, SqL.of upd_same, by omega, fun G3 p3 e4 hp3 => ?_⟩
      have e5 := (e3.trans e4).trans (Ex.new (o := .lst ((rcd d).map V.int)) hp3)
      k_extra "e"
      refine ew_L (SqL.of upd_same) fun p4 hp4 => ?_
      have ec4 : cutV ((rcd d).map V.int) (some (-4)) none = (tl4 (chk d)).map V.int := by
        rw [cut_m4 _ (by rw [List.length_map, hrl]; omega), List.length_map, map_drop]
        congr 1
        have := rcd_drop2 d []
        rw [List.append_nil, List.append_nil] at this
        rw [← this]
        congr 1
        omega
      rw [ec4]
      k_extra "e"
      have e6 := e5.trans (Ex.new (o := .lst ((tl4 (chk d)).map V.int)) hp4)
      refine ew_L ((eG2.trans e6).sl hw) fun p5 hp5 => ?_
      have ec5 : cutV (w.map V.int) (some (((s + (rcd d).length : Nat) : Int) - 4)) (some ((s + (rcd d).length : Nat) : Int)) = (tl4 (chk d)).map V.int := by
        have e7 : (((s + (rcd d).length : Nat) : Int) - 4) = ((s + ((num d.length).length + d.length) : Nat) : Int) := by omega
        rw [e7, cut_mid _ _ _ (by omega), map_drop, map_take, ← List.drop_drop, hdr, rcd_drop2, show s + (rcd d).length - (s + ((num d.length).length + d.length)) = (tl4 (chk d)).length by rw [tl4_len]; omega, List.take_left]
      rw [ec5]
      refine er_neIs (SqL.of (get_new upd_same hp5)) (SqL.of upd_same) ?_
      k_extra "e"
      refine iff_ (by simp) ?_
      refine es_next ?_
      have e8 := e6.trans (Ex.new (o := .lst ((tl4 (chk d)).map V.int)) hp5)
      k_extra "e"
      refine ee_bm ?_
      k_extra "e"
      refine ⟨ty_lst (e8 _ _ hx), ?_⟩
      k_extra "e"
      refine em_append (e8 _ _ hx) (szlt (by have := dps_len hD; simp [recD] at this; omega)) ?_
      -- the state behind the turn
      have hpr : p ≠ r := new_ne hx hp
      have hp8 := ((e4.trans (Ex.new (o := .lst ((rcd d).map V.int)) hp3)).trans (Ex.new (o := .lst ((tl4 (chk d)).map V.int)) hp4)).trans (Ex.new (o := .lst ((tl4 (chk d)).map V.int)) hp5) p _ upd_same
      have hF8 : Ex F (upd (upd (upd G3 p3 (.lst ((rcd d).map V.int))) p4 (.lst ((tl4 (chk d)).map V.int))) p5 (.lst ((tl4 (chk d)).map V.int))) := ex.trans e8
      generalize upd (upd (upd G3 p3 (.lst ((rcd d).map V.int))) p4 (.lst ((tl4 (chk d)).map V.int))) p5 (.lst ((tl4 (chk d)).map V.int)) = G8 at hF8 hp8 ⊢
      have hFp : F p = none := ex.nul hp
      have eF' : Ex (upd F p (.lst (d.map V.int))) (upd G8 r (.lst (xs ++ [.ref p]))) := (hF8.putL hp8).mut (nul_ne hFr hpr.symm)
      k_extra "e"
      k_extra "e"
      refine size (s := s + (rcd d).length) ((eF.trans (Ex.new hFp)).trans eF') fun f G9 e9 hf9 => ?_
      k_extra "e"
      rw [← hsn] at hf9 ⊢
      refine ⟨ds.length - (i + 1), by omega, i + 1, rfl, r, f, _, _, _, _, upd F p (.lst (d.map V.int)), xs ++ [.ref p], rfl, by omega, hf9, eF.trans (Ex.new hFp), nul_ne hFr hpr.symm, ?_, e9 _ _ upd_same, eF'.trans e9⟩
      · rw [take_next hd]
        unfold recD
        rw [List.map_append]
        exact dps_app ((Ex.new hFp).dps hD) (.cons (.lst (SqL.of upd_same) (dps_ints d)) .nil)
    · -- what stands behind is no record
      have hi2 : i = ds.length := by omega
      subst hi2
      have hdr := drop_end ds tail
      rw [← ew, ← hs] at hdr
      rw [hdr] at hf
      rw [List.take_length] at hD hs
      have fin : ∀ {G9 : Hp} {c4 c5 c6 c7 : Option V}, Ex G2 G9 → Es (tRet (tTup (tCons (tVar 1) (tCons (tVar 2) tNil)))) { nx := fun _ G' => Q .non G', rt := Q } [some (.ref pd), some (.ref r), some (.int s), some (.ref t), c4, c5, c6, c7] G9 := fun {G9 c4 c5 c6 c7} e9 => by
        rw [hs]
        exact rec_fin q eF hFr hD (e9 _ _ hx) (ex.trans e9)
      rcases hb with hb | ⟨n', k', hb, hn', hk', hb2⟩
      · rw [hb] at hf; cases hf
      rw [hb] at hf
      obtain ⟨rfl, rfl⟩ := Prod.mk.inj (Option.some.inj hf)
      have hwl : s + tail.length = w.length := by
        rw [ew, List.length_append, hs]
      have e1 : ((s + k' : Nat) : Int) + (n' : Int) = ((s + k' + n' : Nat) : Int) := rfl
      rw [e1]
      refine ew_L (eG2.sl hw) fun p hp => ?_
      have ec : cutV (w.map V.int) (some ((s + k' : Nat) : Int)) (some ((s + k' + n' : Nat) : Int)) = ((tail.drop k').take n').map V.int := by
        rw [cut_mid _ _ _ (by omega), map_drop, map_take, ← List.drop_drop, hdr, show s + k' + n' - (s + k') = n' by omega]
      rw [ec]
      have e3 := Ex.new (o := .lst (((tail.drop k').take n').map V.int)) hp
      k_extra "e"
      k_extra "e"
      k_extra "e"
      refine ec_lenL ((eG2.trans e3).sl hw) fun _ => ?_
      rw [List.length_map]
      k_extra "e"
      have e2 : ((s + k' : Nat) : Int) + (n' : Int) + 4 = ((s + (k' + n' + 4) : Nat) : Int) := by omega
      rw [e2]
      refine ifd (fun hlt => ?_) (fun hlt => ?_)
      · k_extra "e"
        refine es_brk ?_
        exact fin e3
      · have hge : k' + n' + 4 ≤ tail.length := by omega
        have hne := hb2.resolve_left (by omega)
        k_extra "e"
        refine ⟨p, _, rfl, SqL.of upd_same, by rw [List.length_take]; omega, fun G3 p3 e4 hp3 => ?_⟩
        have hrl := rcd_len ((tail.drop k').take n')
        have e5 := (e3.trans e4).trans (Ex.new (o := .lst ((rcd ((tail.drop k').take n')).map V.int)) hp3)
        k_extra "e"
        refine ew_L (SqL.of upd_same) fun p4 hp4 => ?_
        have ec4 : cutV ((rcd ((tail.drop k').take n')).map V.int) (some (-4)) none = (tl4 (chk ((tail.drop k').take n'))).map V.int := by
          rw [cut_m4 _ (by rw [List.length_map, hrl]; omega), List.length_map, map_drop]
          congr 1
          have := rcd_drop2 ((tail.drop k').take n') []
          rw [List.append_nil, List.append_nil] at this
          rw [← this]
          congr 1
          omega
        rw [ec4]
        k_extra "e"
        have e6 := e5.trans (Ex.new (o := .lst ((tl4 (chk ((tail.drop k').take n'))).map V.int)) hp4)
        refine ew_L ((eG2.trans e6).sl hw) fun p5 hp5 => ?_
        have ec5 : cutV (w.map V.int) (some (((s + (k' + n' + 4) : Nat) : Int) - 4)) (some ((s + (k' + n' + 4) : Nat) : Int)) = ((tail.drop (k' + n')).take 4).map V.int := by
          have e7 : (((s + (k' + n' + 4) : Nat) : Int) - 4) = ((s + (k' + n') : Nat) : Int) := by omega
          rw [e7, cut_mid _ _ _ (by omega), map_drop, map_take, ← List.drop_drop, hdr, show s + (k' + n' + 4) - (s + (k' + n')) = 4 by omega]
        rw [ec5]
        refine er_neIs (SqL.of (get_new upd_same hp5)) (SqL.of upd_same) ?_
        k_extra "e"
        refine ift (by simp [hne]) ?_
        refine es_brk ?_
        exact fin (e6.trans (Ex.new hp5))
end Lw

namespace Lw
open PySem PySem.Spec PyProof.Rows L2
/-! ### what is new in a heap; two pieces together -/
def newp (G G' : Hp) : Hp := fun b => match G b with
  | none => G' b
  | some _ => none
def un (F R : Hp) : Hp := fun b => match F b with
  | some o => some o
  | none => R b
theorem newp_of {G G' : Hp} {b : Addr} {o : HO} (h : newp G G' b = some o) : G b = none ∧ G' b = some o := by
  unfold newp at h
  split at h
  · rename_i e; exact ⟨e, h⟩
  · cases h
theorem newp_get {G G' : Hp} {b : Addr} {o : HO} (h : G b = none) (h' : G' b = some o) : newp G G' b = some o := by unfold newp; rw [h]; exact h'
theorem un_l {F R : Hp} : Ex F (un F R) := fun b o h => by unfold un; rw [h]
theorem un_r {F R : Hp} {b : Addr} {o : HO} (h : F b = none) (h' : R b = some o) : un F R b = some o := by unfold un; rw [h]; exact h'
theorem un_of {F R : Hp} {b : Addr} {o : HO} (h : un F R b = some o) : F b = some o ∨ R b = some o := by
  unfold un at h
  split at h
  · rename_i e; exact .inl (e.trans h)
  · exact .inr h
theorem un_ex {F G G' : Hp} (e : Ex F G) (e' : Ex G G') : Ex (un F (newp G G')) G' := fun b o h => by
  rcases un_of h with h | h
  · exact e' _ _ (e _ _ h)
  · exact (newp_of h).2
theorem un_fr {F G G' : Hp} (e' : Ex G G') : Fr F G (un F (newp G G')) G' := fun R d e => by
  refine ⟨e.trans e', fun b => ?_⟩
  cases h : R b with
  | none => exact .inr rfl
  | some o =>
    refine .inl ?_
    have hF := (d b).resolve_right (by rw [h]; simp)
    unfold un newp
    rw [hF, e _ _ h]
theorem un_grow {F G G' G'' : Hp} (e : Ex G' G'') : Ex (un F (newp G G')) (un F (newp G G'')) := fun b o h => by
  rcases un_of h with h' | h'
  · exact un_l _ _ h'
  · obtain ⟨h1, h2⟩ := newp_of h'
    cases hF : F b with
    | some u => have := un_l (R := newp G G') _ _ hF; rw [this] at h; cases h; exact un_l _ _ hF
    | none => exact un_r hF (newp_get h1 (e _ _ h2))
theorem un_at {F G G' : Hp} {b : Addr} {o : HO} (e : Ex F G) (h : G b = none) (h' : G' b = some o) : un F (newp G G') b = some o := un_r (e.nul h) (newp_get h h')
theorem Ap.alloc {T : Hp} {L : List Hp} {G G' : Hp} (a : Ap (T :: L) G) (e : Ex G G') : Ap (un T (newp G G') :: L) G' :=
  Ap.fr (L1 := []) a (un_fr e) (un_ex (a.ex T List.mem_cons_self) e)
theorem Ap.new1 {T : Hp} {L : List Hp} {G : Hp} {p : Addr} {o : HO} (a : Ap (T :: L) G) (h : G p = none) : Ap (upd T p o :: L) (upd G p o) :=
  Ap.fr (L1 := []) a (Fr.new h) (a.ex T List.mem_cons_self).put
theorem Ap.mut1 {T : Hp} {L : List Hp} {G : Hp} {p : Addr} {o u : HO} (a : Ap (T :: L) G) (h : T p = some u) : Ap (upd T p o :: L) (upd G p o) :=
  Ap.fr (L1 := []) a (Fr.mut h) (a.ex T List.mem_cons_self).put
theorem Ap.fr2 {T : Hp} {L : List Hp} {F F' G G' : Hp} (a : Ap (T :: F :: L) G) (f : Fr F G F' G') (e : Ex F' G') : Ap (T :: F' :: L) G' := Ap.fr (L1 := [T]) a f e
/-! ### File.write -/
theorem Ap.sub {L L' : List Hp} {G : Hp} (a : Ap L G) (h : L'.Sublist L) : Ap L' G := ⟨fun F hF => a.ex F (h.subset hF), a.dis.sublist h⟩
/-- all that is new, as a piece -/
theorem Ap.grab {T : Hp} {L : List Hp} {G G' : Hp} (a : Ap (T :: L) G) (e : Ex G G') : Ap (T :: newp G G' :: L) G' := by
  have b := a.junk e
  have d : ∀ F ∈ T :: L, Dis (newp G G') F := fun F hF x => by
    cases h : newp G G' x with
    | none => exact .inl rfl
    | some o => exact .inr ((a.ex F hF).nul (newp_of h).1)
  have n : Ap (newp G G' :: T :: L) G' := ⟨fun F hF => by
    rcases List.mem_cons.mp hF with rfl | hF
    · exact fun b o h => (newp_of h).2
    · exact b.ex F hF, List.pairwise_cons.mpr ⟨d, b.dis⟩⟩
  exact n.perm (List.Perm.swap _ _ _)
theorem Ap.add2 {T : Hp} {L : List Hp} {G : Hp} {p : Addr} {o : HO} (a : Ap (T :: L) G) (h : G p = none) : Ap (T :: one p o :: L) (upd G p o) := (a.add h).perm (List.Perm.swap _ _ _)
theorem one_at {p : Addr} {o : HO} : one p o p = some o := upd_same
end Lw

namespace Lw
open PySem PySem.Spec PyProof.Rows L2
local macro_rules | `(tactic| k_extra "x1") => `(tactic| first
  | with_reducible refine es_seq ?_
  | with_reducible refine es_asg ?_
  | with_reducible refine es_if ?_
  | with_reducible refine es_ret ?_
  | with_reducible refine es_drop ?_
  | with_reducible refine es_next ?_
  | with_reducible refine es_augS ?_
  | with_reducible refine es_fld ?_
  | ((with_reducible show Ee (tVar _) _ _ _); refine ee_var rfl ?_)
  | with_reducible refine ee_c ?_
  | with_reducible refine ee_op ?_
  | with_reducible refine ee_un ?_
  | with_reducible refine eu_neg ?_
  | with_reducible refine ee_cb ?_
  | with_reducible refine ee_call ?_
  | with_reducible refine ea_nil ?_
  | with_reducible refine ea_cons ?_
  | with_reducible refine ee_sl ?_
  | with_reducible refine eo_no ?_
  | with_reducible refine eo_part ?_
  | with_reducible refine ee_tup ?_
  | with_reducible refine ee_lst ?_
  | with_reducible refine et_test ?_
  | with_reducible refine et_tB ?_
  | with_reducible refine et_tru ?_
  | with_reducible refine et_and ?_
  | with_reducible refine et_or ?_
  | with_reducible refine et_not ?_
  | with_reducible refine ee_and ?_
  | with_reducible refine ee_or ?_
  | with_reducible refine ee_not ?_
  | with_reducible refine ee_if ?_
  | with_reducible refine ee_chain ?_
  | with_reducible refine er_addI ?_
  | with_reducible refine er_subI ?_
  | with_reducible refine er_eqI ?_
  | with_reducible refine er_neI ?_
  | with_reducible refine er_eqNI ?_
  | with_reducible refine er_eqS ?_
  | with_reducible refine er_neS ?_
  | with_reducible refine er_eqB ?_
  | with_reducible refine er_neB ?_
  | with_reducible refine er_lt ?_
  | with_reducible refine er_le ?_
  | with_reducible refine er_gt ?_
  | with_reducible refine er_ge ?_
  | with_reducible refine er_isN_non ?_
  | with_reducible refine er_isN_bl ?_
  | with_reducible refine er_isN_int ?_
  | with_reducible refine er_isN_str ?_
  | with_reducible refine er_isN_ref ?_
  | with_reducible refine er_notN_non ?_
  | with_reducible refine er_notN_bl ?_
  | with_reducible refine er_notN_int ?_
  | with_reducible refine er_notN_str ?_
  | with_reducible refine er_notN_ref ?_
  | with_reducible refine er_isN ?_
  | with_reducible refine er_notN ?_
  | with_reducible refine ec_int ?_
  | with_reducible refine ec_intB ?_
  | with_reducible refine ec_max2 ?_
  | with_reducible refine ec_min2 ?_
  | with_reducible refine ip_I ?_
  | ((with_reducible refine eg_name ?_); (try dsimp only [L2.wipe, List.set_cons_zero, List.set_cons_succ]))
  | with_reducible refine eg_sub ?_
  | with_reducible refine egs_cons ?_
  | with_reducible refine egs_nil ?_
  | with_reducible refine tru_bl ?_
  | with_reducible refine tru_int ?_
  | with_reducible refine tru_non ?_
  | with_reducible refine iteT ?_
  | with_reducible refine iteF ?_
  | with_reducible refine ite_nt ?_
  | with_reducible refine ite_nf ?_
  | with_reducible refine ⟨_, rfl, ?_⟩)
local macro_rules | `(tactic| k_extra "s") => `(tactic| ((first | k_extra "x1" | ((with_reducible refine es_unf ?_); refine es_seq ?_)); (repeat k_extra "x1")))
local macro_rules | `(tactic| k_extra "x") => `(tactic| (repeat first | k_extra "x1" | ((with_reducible refine es_unf ?_); refine es_seq ?_)))
local macro_rules | `(tactic| k_extra "start") => `(tactic| dsimp only [L2.start, List.map_cons, List.map_nil, List.length_cons, List.length_nil, Nat.reduceAdd, Nat.reduceSub, List.replicate, List.cons_append, List.nil_append, Nat.zero_add])
local macro_rules | `(tactic| k_extra "e1") => `(tactic| first
  | with_reducible refine es_next ?_
  | ((with_reducible show Ee (tVar _) _ _ _); refine ee_var rfl ?_)
  | with_reducible refine ee_c ?_
  | with_reducible refine ee_op ?_
  | with_reducible refine ee_un ?_
  | with_reducible refine eu_neg ?_
  | with_reducible refine ee_cb ?_
  | with_reducible refine ee_call ?_
  | with_reducible refine ea_nil ?_
  | with_reducible refine ea_cons ?_
  | with_reducible refine ee_sl ?_
  | with_reducible refine eo_no ?_
  | with_reducible refine eo_part ?_
  | with_reducible refine ee_tup ?_
  | with_reducible refine ee_lst ?_
  | with_reducible refine et_test ?_
  | with_reducible refine et_tB ?_
  | with_reducible refine et_tru ?_
  | with_reducible refine et_and ?_
  | with_reducible refine et_or ?_
  | with_reducible refine et_not ?_
  | with_reducible refine ee_and ?_
  | with_reducible refine ee_or ?_
  | with_reducible refine ee_not ?_
  | with_reducible refine ee_if ?_
  | with_reducible refine ee_chain ?_
  | with_reducible refine er_addI ?_
  | with_reducible refine er_subI ?_
  | with_reducible refine er_eqI ?_
  | with_reducible refine er_neI ?_
  | with_reducible refine er_eqNI ?_
  | with_reducible refine er_eqS ?_
  | with_reducible refine er_neS ?_
  | with_reducible refine er_eqB ?_
  | with_reducible refine er_neB ?_
  | with_reducible refine er_lt ?_
  | with_reducible refine er_le ?_
  | with_reducible refine er_gt ?_
  | with_reducible refine er_ge ?_
  | with_reducible refine er_isN_non ?_
  | with_reducible refine er_isN_bl ?_
  | with_reducible refine er_isN_int ?_
  | with_reducible refine er_isN_str ?_
  | with_reducible refine er_isN_ref ?_
  | with_reducible refine er_notN_non ?_
  | with_reducible refine er_notN_bl ?_
  | with_reducible refine er_notN_int ?_
  | with_reducible refine er_notN_str ?_
  | with_reducible refine er_notN_ref ?_
  | with_reducible refine er_isN ?_
  | with_reducible refine er_notN ?_
  | with_reducible refine ec_int ?_
  | with_reducible refine ec_intB ?_
  | with_reducible refine ec_max2 ?_
  | with_reducible refine ec_min2 ?_
  | with_reducible refine ip_I ?_
  | ((with_reducible refine eg_name ?_); (try dsimp only [L2.wipe, List.set_cons_zero, List.set_cons_succ]))
  | with_reducible refine eg_sub ?_
  | with_reducible refine egs_cons ?_
  | with_reducible refine egs_nil ?_
  | with_reducible refine tru_bl ?_
  | with_reducible refine tru_int ?_
  | with_reducible refine tru_non ?_
  | with_reducible refine iteT ?_
  | with_reducible refine iteF ?_
  | with_reducible refine ite_nt ?_
  | with_reducible refine ite_nf ?_
  | with_reducible refine ex_bl ?_
  | with_reducible refine ex_int ?_
  | with_reducible refine ex_str ?_
  | with_reducible refine ex_strx ?_
  | with_reducible refine ex_ints1 ?_
  | with_reducible refine ex_ints2 ?_)
local macro_rules | `(tactic| k_extra "t1") => `(tactic| first
  | with_reducible refine es_asg ?_
  | with_reducible refine es_if ?_
  | with_reducible refine es_ret ?_
  | with_reducible refine es_drop ?_
  | with_reducible refine es_augS ?_
  | with_reducible refine es_fld ?_)
local macro_rules | `(tactic| k_extra "e") => `(tactic| first
  | ((with_reducible refine es_seq ?_); (try k_extra "t1"); (repeat k_extra "e1"))
  | (k_extra "t1"; (repeat k_extra "e1"))
  | (k_extra "e1"; (repeat k_extra "e1"))
  | ((with_reducible refine es_unf ?_); (refine es_seq ?_); (try k_extra "t1"); (repeat k_extra "e1")))
def S__law_number (K : PySem.W.Frag) (A : Ad) : Pm := fun vs G Q _ => ∃ n : Nat, vs = [.int n] ∧ n < 16384 ∧ ∀ G' p, Ex G G' → G' p = none → Q (.ref p) (upd G' p (.lst ((num n).map V.int)))
/-! _law_number -/
def t__law_number_1 (K : PySem.W.Frag) (A : Ad) : TS := tSeq (tDrop (tBM K "list" (rAppend) (tVar 1) (tCons (tOp (rAddU K) (tC (.int 128)) (tOp (rModU) (tVar 0) (tC (.int 128)))) tNil))) (tAsg (tOp (rDivU) (tVar 0) (tC (.int 128))) (gName 0))
def t__law_number_2 (K : PySem.W.Frag) (A : Ad) : TS := tSeq (tWhile (tTest (tOp (rGtI) (tVar 0) (tC (.int 127)))) (t__law_number_1 K A)) (tRet (tOp (rAddU K) (tVar 1) (tLst (tCons (tVar 0) tNil))))
def t__law_number (K : PySem.W.Frag) (A : Ad) : TS := tSeq (tAsg (tLst tNil) (gName 1)) (t__law_number_2 K A)
theorem len__law_number {K : PySem.W.Frag} {A : Ad} : ∀ vs G Q E, S__law_number K A vs G Q E → vs.length = ["number"].length := by
  rintro vs G Q E ⟨n, rfl, _⟩; rfl
theorem ok__law_number {K : PySem.W.Frag} {A : Ad} : ∀ vs G Q E, S__law_number K A vs G Q E → Es (t__law_number K A) { nx := fun _ G' => Q .non G', rt := Q } (L2.start ["number", "data"] vs) G := by
  rintro vs G Q E ⟨n, rfl, hn, q⟩
  change Es _ _ (_ :: _ :: []) _
  k_extra "e"
  refine ⟨Nat.zero_le _, fun l hl => ?_⟩
  k_extra "e"
  refine es_seq (es_while (fun m σ G' => ∃ (k : Nat) (ys : List Int), σ = [some (.int k), some (.ref l)] ∧ k = m ∧ k < 16384 ∧ G' = upd G l (.lst (ys.map V.int)) ∧ ys.length ≤ 100 - (if k < 128 then 0 else 1) ∧ ys ++ num k = num n) n ⟨n, [], rfl, rfl, hn, rfl, by split <;> simp, rfl⟩ ?_)
  rintro m σ G' ⟨k, ys, rfl, rfl, hk, rfl, hy, hs⟩
  k_extra "e"
  refine ifd (fun h => ?_) (fun h => ?_)
  · have h128 : ¬ k < 128 := by omega
    rw [if_neg h128] at hy
    k_extra "e"
    refine ee_bm ?_
    k_extra "e"
    refine ⟨ty_lst upd_same, ?_⟩
    k_extra "e"
    refine er_mod (by decide) ?_
    k_extra "e"
    refine em_append upd_same (by rw [List.length_map]; exact szlt (by omega)) ?_
    rw [upd_upd]
    k_extra "e"
    refine er_div (by decide) ?_
    k_extra "e"
    refine ⟨k / 128, by omega, k / 128, ys ++ [(k : Int) % 128 + 128], rfl, rfl, by omega, ?_, ?_, ?_⟩
    · congr 2; simp [Int.add_comm]
    · rw [if_pos (by omega)]; simp; omega
    · rw [← hs, List.append_assoc]
      congr 1
      unfold num
      rw [if_neg h128, if_pos (by omega)]
      rfl
  · have h128 : k < 128 := by omega
    k_extra "e"
    refine ⟨sz1000 (by simp), fun p hp => ?_⟩
    refine er_addL (get_new upd_same hp) upd_same (by rw [List.length_map]; exact sz1000 (by simp; omega)) fun r hr => ?_
    have e1 : ys.map V.int ++ [V.int (k : Int)] = (num n).map V.int := by
      rw [← hs]; unfold num; rw [if_pos h128, List.map_append]; rfl
    rw [e1]
    exact q _ r ((Ex.new hl).trans (Ex.new hp)) hr
def S__law_checksum (K : PySem.W.Frag) (A : Ad) : Pm := fun vs G Q _ => ∃ (p : Addr) (d : List Int), vs = [.ref p] ∧ SqL K G p (d.map V.int) ∧ Q (.int (chk d)) G
/-! _law_checksum -/
def t__law_checksum_1 (K : PySem.W.Frag) (A : Ad) : TS := tSeq (tFor (iList K (tVar 0)) (gName 2) (tAsg (tOp (rModU) (tOp (rAddU K) (tOp (rAddU K) (tOp (rMulU) (tC (.int 31)) (tVar 1)) (tVar 2)) (tC (.int 1))) (tC (.int 4294967296))) (gName 1))) (tRet (tVar 1))
def t__law_checksum (K : PySem.W.Frag) (A : Ad) : TS := tSeq (tAsg (tC (.int 7)) (gName 1)) (t__law_checksum_1 K A)
theorem len__law_checksum {K : PySem.W.Frag} {A : Ad} : ∀ vs G Q E, S__law_checksum K A vs G Q E → vs.length = ["data"].length := by
  rintro vs G Q E ⟨p, d, rfl, _⟩; rfl
theorem ok__law_checksum {K : PySem.W.Frag} {A : Ad} : ∀ vs G Q E, S__law_checksum K A vs G Q E → Es (t__law_checksum K A) { nx := fun _ G' => Q .non G', rt := Q } (L2.start ["data", "total", "byte"] vs) G := by
  rintro vs G Q E ⟨p, d, rfl, hp, q⟩
  change Es _ _ (_ :: _ :: _ :: []) _
  k_extra "e"
  k_extra "e"
  refine es_forL ?_
  k_extra "e"
  refine ⟨p, _, rfl, hp, fun i σ G' => ∃ c, σ = [some (.ref p), some (.int (ckF 7 (d.take i))), c] ∧ G' = G, ⟨_, rfl, rfl⟩, ?_, ?_, ?_⟩
  · rintro i σ G' ⟨c, rfl, rfl⟩; exact hp
  · rintro i x σ G' hx ⟨c, rfl, rfl⟩
    obtain ⟨b, hb, rfl⟩ := get_ints hx
    k_extra "e"
    k_extra "e"
    refine er_mulL (by decide) ?_
    k_extra "e"
    refine er_mod (by decide) ?_
    k_extra "e"
    exact ⟨_, by rw [take_next hb, ckF_snoc], rfl⟩
  · rintro σ G' ⟨c, rfl, rfl⟩
    rw [List.length_map, List.take_length]
    k_extra "e"
    exact q
def S__law_record (K : PySem.W.Frag) (A : Ad) : Pm := fun vs G Q _ => ∃ (p : Addr) (d : List Int), vs = [.ref p] ∧ G p = some (.lst (d.map V.int)) ∧ d.length < 16384 ∧ ∀ G' r, Ex G G' → G' r = none → Q (.ref r) (upd G' r (.lst ((rcd d).map V.int)))
/-! _law_record -/
def t__law_record (K : PySem.W.Frag) (A : Ad) : TS := tSeq (tAsg (tCall (up (S__law_checksum K A)) [] E0 (tCons (tVar 0) tNil)) (gName 1)) (tRet (tOp (rAddU K) (tOp (rAddU K) (tCall (up (S__law_number K A)) [] E0 (tCons (tCB (rLenU K) (tCons (tVar 0) tNil)) tNil)) (tVar 0)) (tLst (tCons (tOp (rDivU) (tVar 1) (tC (.int 16777216))) (tCons (tOp (rModU) (tOp (rDivU) (tVar 1) (tC (.int 65536))) (tC (.int 256))) (tCons (tOp (rModU) (tOp (rDivU) (tVar 1) (tC (.int 256))) (tC (.int 256))) (tCons (tOp (rModU) (tVar 1) (tC (.int 256))) tNil)))))))
theorem len__law_record {K : PySem.W.Frag} {A : Ad} : ∀ vs G Q E, S__law_record K A vs G Q E → vs.length = ["data"].length := by
  rintro vs G Q E ⟨p, d, rfl, _⟩; rfl
theorem ok__law_record {K : PySem.W.Frag} {A : Ad} : ∀ vs G Q E, S__law_record K A vs G Q E → Es (t__law_record K A) { nx := fun _ G' => Q .non G', rt := Q } (L2.start ["data", "total"] vs) G := by
  rintro vs G Q E ⟨p, d, rfl, hp0, hd, q⟩
  change Es _ _ (_ :: _ :: []) _
  k_extra "e"
  refine ⟨p, d, rfl, SqL.of hp0, ?_⟩
  k_extra "e"
  k_extra "e"
  refine ec_lenL (SqL.of hp0) fun _ => ?_
  rw [List.length_map]
  k_extra "e"
  refine ⟨d.length, rfl, hd, fun G1 r1 e1 hr1 => ?_⟩
  k_extra "e"
  have e0 := e1.trans (Ex.new (o := .lst ((num d.length).map V.int)) hr1)
  refine er_addL upd_same (e0 _ _ hp0) (by rw [List.length_map, List.length_map]; exact szM (by have := num_le d.length; omega)) fun r3 hr3 => ?_
  k_extra "e"
  refine er_div (by decide) ?_
  k_extra "e"
  refine er_div (by decide) ?_
  k_extra "e"
  refine er_mod (by decide) ?_
  k_extra "e"
  refine er_div (by decide) ?_
  k_extra "e"
  refine er_mod (by decide) ?_
  k_extra "e"
  refine er_mod (by decide) ?_
  k_extra "e"
  refine ⟨sz1000 (by simp), fun t ht => ?_⟩
  refine er_addL (get_new upd_same ht) upd_same (by rw [List.length_append, List.length_map, List.length_map]; exact szM (by have := num_le d.length; simp; omega)) fun r4 hr4 => ?_
  have e5 : (num d.length).map V.int ++ d.map V.int ++ [V.int (chk d / 16777216), V.int (chk d / 65536 % 256), V.int (chk d / 256 % 256), V.int (chk d % 256)] = (rcd d).map V.int := by
    unfold rcd; rw [List.map_append, List.map_append]; rfl
  rw [e5]
  exact q _ r4 ((e0.trans (Ex.new hr3)).trans (Ex.new ht)) hr4
end Lw

namespace Lw
open PySem PySem.Spec PyProof.Rows L2
local macro_rules | `(tactic| k_extra "x1") => `(tactic| first
  | with_reducible refine es_seq ?_
  | with_reducible refine es_asg ?_
  | with_reducible refine es_if ?_
  | with_reducible refine es_ret ?_
  | with_reducible refine es_drop ?_
  | with_reducible refine es_next ?_
  | with_reducible refine es_augS ?_
  | with_reducible refine es_fld ?_
  | ((with_reducible show Ee (tVar _) _ _ _); refine ee_var rfl ?_)
  | with_reducible refine ee_c ?_
  | with_reducible refine ee_op ?_
  | with_reducible refine ee_un ?_
  | with_reducible refine eu_neg ?_
  | with_reducible refine ee_cb ?_
  | with_reducible refine ee_call ?_
  | with_reducible refine ea_nil ?_
  | with_reducible refine ea_cons ?_
  | with_reducible refine ee_sl ?_
  | with_reducible refine eo_no ?_
  | with_reducible refine eo_part ?_
  | with_reducible refine ee_tup ?_
  | with_reducible refine ee_lst ?_
  | with_reducible refine et_test ?_
  | with_reducible refine et_tB ?_
  | with_reducible refine et_tru ?_
  | with_reducible refine et_and ?_
  | with_reducible refine et_or ?_
  | with_reducible refine et_not ?_
  | with_reducible refine ee_and ?_
  | with_reducible refine ee_or ?_
  | with_reducible refine ee_not ?_
  | with_reducible refine ee_if ?_
  | with_reducible refine ee_chain ?_
  | with_reducible refine er_addI ?_
  | with_reducible refine er_subI ?_
  | with_reducible refine er_eqI ?_
  | with_reducible refine er_neI ?_
  | with_reducible refine er_eqNI ?_
  | with_reducible refine er_eqS ?_
  | with_reducible refine er_neS ?_
  | with_reducible refine er_eqB ?_
  | with_reducible refine er_neB ?_
  | with_reducible refine er_lt ?_
  | with_reducible refine er_le ?_
  | with_reducible refine er_gt ?_
  | with_reducible refine er_ge ?_
  | with_reducible refine er_isN_non ?_
  | with_reducible refine er_isN_bl ?_
  | with_reducible refine er_isN_int ?_
  | with_reducible refine er_isN_str ?_
  | with_reducible refine er_isN_ref ?_
  | with_reducible refine er_notN_non ?_
  | with_reducible refine er_notN_bl ?_
  | with_reducible refine er_notN_int ?_
  | with_reducible refine er_notN_str ?_
  | with_reducible refine er_notN_ref ?_
  | with_reducible refine er_isN ?_
  | with_reducible refine er_notN ?_
  | with_reducible refine ec_int ?_
  | with_reducible refine ec_intB ?_
  | with_reducible refine ec_max2 ?_
  | with_reducible refine ec_min2 ?_
  | with_reducible refine ip_I ?_
  | ((with_reducible refine eg_name ?_); (try dsimp only [L2.wipe, List.set_cons_zero, List.set_cons_succ]))
  | with_reducible refine eg_sub ?_
  | with_reducible refine egs_cons ?_
  | with_reducible refine egs_nil ?_
  | with_reducible refine tru_bl ?_
  | with_reducible refine tru_int ?_
  | with_reducible refine tru_non ?_
  | with_reducible refine iteT ?_
  | with_reducible refine iteF ?_
  | with_reducible refine ite_nt ?_
  | with_reducible refine ite_nf ?_
  | with_reducible refine ⟨_, rfl, ?_⟩)
local macro_rules | `(tactic| k_extra "s") => `(tactic| ((first | k_extra "x1" | ((with_reducible refine es_unf ?_); refine es_seq ?_)); (repeat k_extra "x1")))
local macro_rules | `(tactic| k_extra "x") => `(tactic| (repeat first | k_extra "x1" | ((with_reducible refine es_unf ?_); refine es_seq ?_)))
local macro_rules | `(tactic| k_extra "start") => `(tactic| dsimp only [L2.start, List.map_cons, List.map_nil, List.length_cons, List.length_nil, Nat.reduceAdd, Nat.reduceSub, List.replicate, List.cons_append, List.nil_append, Nat.zero_add])
local macro_rules | `(tactic| k_extra "e1") => `(tactic| first
  | with_reducible refine es_next ?_
  | ((with_reducible show Ee (tVar _) _ _ _); refine ee_var rfl ?_)
  | with_reducible refine ee_c ?_
  | with_reducible refine ee_op ?_
  | with_reducible refine ee_un ?_
  | with_reducible refine eu_neg ?_
  | with_reducible refine ee_cb ?_
  | with_reducible refine ee_call ?_
  | with_reducible refine ea_nil ?_
  | with_reducible refine ea_cons ?_
  | with_reducible refine ee_sl ?_
  | with_reducible refine eo_no ?_
  | with_reducible refine eo_part ?_
  | with_reducible refine ee_tup ?_
  | with_reducible refine ee_lst ?_
  | with_reducible refine et_test ?_
  | with_reducible refine et_tB ?_
  | with_reducible refine et_tru ?_
  | with_reducible refine et_and ?_
  | with_reducible refine et_or ?_
  | with_reducible refine et_not ?_
  | with_reducible refine ee_and ?_
  | with_reducible refine ee_or ?_
  | with_reducible refine ee_not ?_
  | with_reducible refine ee_if ?_
  | with_reducible refine ee_chain ?_
  | with_reducible refine er_addI ?_
  | with_reducible refine er_subI ?_
  | with_reducible refine er_eqI ?_
  | with_reducible refine er_neI ?_
  | with_reducible refine er_eqNI ?_
  | with_reducible refine er_eqS ?_
  | with_reducible refine er_neS ?_
  | with_reducible refine er_eqB ?_
  | with_reducible refine er_neB ?_
  | with_reducible refine er_lt ?_
  | with_reducible refine er_le ?_
  | with_reducible refine er_gt ?_
  | with_reducible refine er_ge ?_
  | with_reducible refine er_isN_non ?_
  | with_reducible refine er_isN_bl ?_
  | with_reducible refine er_isN_int ?_
  | with_reducible refine er_isN_str ?_
  | with_reducible refine er_isN_ref ?_
  | with_reducible refine er_notN_non ?_
  | with_reducible refine er_notN_bl ?_
  | with_reducible refine er_notN_int ?_
  | with_reducible refine er_notN_str ?_
  | with_reducible refine er_notN_ref ?_
  | with_reducible refine er_isN ?_
  | with_reducible refine er_notN ?_
  | with_reducible refine ec_int ?_
  | with_reducible refine ec_intB ?_
  | with_reducible refine ec_max2 ?_
  | with_reducible refine ec_min2 ?_
  | with_reducible refine ip_I ?_
  | ((with_reducible refine eg_name ?_); (try dsimp only [L2.wipe, List.set_cons_zero, List.set_cons_succ]))
  | with_reducible refine eg_sub ?_
  | with_reducible refine egs_cons ?_
  | with_reducible refine egs_nil ?_
  | with_reducible refine tru_bl ?_
  | with_reducible refine tru_int ?_
  | with_reducible refine tru_non ?_
  | with_reducible refine iteT ?_
  | with_reducible refine iteF ?_
  | with_reducible refine ite_nt ?_
  | with_reducible refine ite_nf ?_
  | with_reducible refine ex_bl ?_
  | with_reducible refine ex_int ?_
  | with_reducible refine ex_str ?_
  | with_reducible refine ex_strx ?_
  | with_reducible refine ex_ints1 ?_
  | with_reducible refine ex_ints2 ?_)
local macro_rules | `(tactic| k_extra "t1") => `(tactic| first
  | with_reducible refine es_asg ?_
  | with_reducible refine es_if ?_
  | with_reducible refine es_ret ?_
  | with_reducible refine es_drop ?_
  | with_reducible refine es_augS ?_
  | with_reducible refine es_fld ?_)
local macro_rules | `(tactic| k_extra "e") => `(tactic| first
  | ((with_reducible refine es_seq ?_); (try k_extra "t1"); (repeat k_extra "e1"))
  | (k_extra "t1"; (repeat k_extra "e1"))
  | (k_extra "e1"; (repeat k_extra "e1"))
  | ((with_reducible refine es_unf ?_); (refine es_seq ?_); (try k_extra "t1"); (repeat k_extra "e1")))
section
variable {K : PySem.W.Frag} {A : Ad} {T G : Hp} {L : List Hp} {a l : Addr} {ds : List Int} {i : Int}
theorem nxA {lim : Int} {Q : V → Hp → Prop} {E : XK} (h : StT T a l ds i) (ap : Ap (T :: L) G) (hl : 0 < lim)
    (q : ∀ x i', 0 ≤ x → x < lim → StT (upd T a (.lst [.ref l, .int i'])) a l ds i' → Ap (upd T a (.lst [.ref l, .int i']) :: L) (upd G a (.lst [.ref l, .int i'])) → Q (.int x) (upd G a (.lst [.ref l, .int i']))) : S__law_next K A [.ref a, .int lim] G Q E :=
  nx_call (h.up (ap.ex T List.mem_cons_self)) hl fun x i' h0 h1 h2 => q x i' h0 h1 (h.put h2) (ap.mut1 h.at_)
end
def S__law_bytes (K : PySem.W.Frag) (A : Ad) : Pm := fun vs G Q _ => ∃ (a l : Addr) (ds : List Int) (i : Int) (T : Hp) (L : List Hp), vs = [.ref a] ∧ StT T a l ds i ∧ Ap (T :: L) G ∧
  ∀ G' T' i' p bs, StT T' a l ds i' → Ap (T' :: one p (.lst (bs.map V.int)) :: L) G' → By bs → bs.length ≤ 2000 → Q (.ref p) G'
/-! _law_bytes -/
def t__law_bytes_1 (K : PySem.W.Frag) (A : Ad) : TS := tSeq (tAsg (tCall (up (S__law_next K A)) [] E0 (tCons (tVar 0) (tCons (tC (.int 256)) tNil))) (gName 3)) (tRet (tLc (iRng1 (tCons (tVar 1) tNil)) (gName 4) tYes (tOp (rModU) (tOp (rAddU K) (tVar 3) (tOp (rMulU) (tOp (rMulU) (tC (.int 41)) (tVar 4)) (tVar 4))) (tC (.int 256))) [4]))
def t__law_bytes_2 (K : PySem.W.Frag) (A : Ad) : TS := tSeq (tIfS (tTest (tOp (rLtU K) (tVar 2) (tC (.int 6)))) (tAsg (tOp (rAddU K) (tC (.int 120)) (tCall (up (S__law_next K A)) [] E0 (tCons (tVar 0) (tCons (tC (.int 181)) tNil)))) (gName 1)) (tIfS (tTest (tOp (rLtU K) (tVar 2) (tC (.int 10)))) (tAsg (tOp (rAddU K) (tC (.int 6)) (tCall (up (S__law_next K A)) [] E0 (tCons (tVar 0) (tCons (tC (.int 114)) tNil)))) (gName 1)) (tIfS (tTest (tOp (rEqU K) (tVar 2) (tC (.int 10)))) (tAsg (tOp (rAddU K) (tC (.int 301)) (tCall (up (S__law_next K A)) [] E0 (tCons (tVar 0) (tCons (tC (.int 1700)) tNil)))) (gName 1)) tNext))) (t__law_bytes_1 K A)
def t__law_bytes_3 (K : PySem.W.Frag) (A : Ad) : TS := tSeq (tAsg (tCall (up (S__law_next K A)) [] E0 (tCons (tVar 0) (tCons (tC (.int 24)) tNil))) (gName 2)) (t__law_bytes_2 K A)
def t__law_bytes (K : PySem.W.Frag) (A : Ad) : TS := tSeq (tAsg (tCall (up (S__law_next K A)) [] E0 (tCons (tVar 0) (tCons (tC (.int 6)) tNil))) (gName 1)) (t__law_bytes_3 K A)
theorem len__law_bytes {K : PySem.W.Frag} {A : Ad} : ∀ vs G Q E, S__law_bytes K A vs G Q E → vs.length = ["state"].length := by
  rintro vs G Q E ⟨a, l, ds, i, T, L, rfl, _⟩; rfl
def bsO (s : Int) (i : Nat) : List Int := (List.range i).map fun (k : Nat) => (s + 41 * (k : Int) * (k : Int)) % 256
theorem bsO_snoc (s : Int) (i : Nat) : bsO s (i + 1) = bsO s i ++ [(s + 41 * (i : Int) * (i : Int)) % 256] := by unfold bsO; rw [List.range_succ, List.map_append]; rfl
theorem bsO_len (s : Int) (i : Nat) : (bsO s i).length = i := by unfold bsO; rw [List.length_map, List.length_range]
theorem bsO_by (s : Int) (i : Nat) : By (bsO s i) := fun b h => by
  unfold bsO at h
  obtain ⟨k, _, rfl⟩ := List.mem_map.mp h
  omega
section
variable {K : PySem.W.Frag} {A : Ad} {T G : Hp} {L : List Hp} {a l : Addr} {ds : List Int} {i : Int} {Q : V → Hp → Prop}
theorem by_end {c : Int} {c2 c3 c4 : Option V} (h : StT T a l ds i) (ap : Ap (T :: L) G) (h0 : 0 ≤ c) (h1 : c ≤ 2000)
    (q : ∀ G' T' i' p bs, StT T' a l ds i' → Ap (T' :: one p (.lst (bs.map V.int)) :: L) G' → By bs → bs.length ≤ 2000 → Q (.ref p) G') :
    Es (t__law_bytes_1 K A) { nx := fun _ G' => Q .non G', rt := Q } [some (.ref a), some (.int c), c2, c3, c4] G := by
  k_extra "e"
  refine nxA h ap (by decide) fun s i' hs0 hs1 h' ap' => ?_
  k_extra "e"
  k_extra "e"
  refine ee_lcR1 ?_
  k_extra "e"
  refine ⟨by omega, fun p hp => ⟨fun j acc G' => acc = (bsO s j).map V.int ∧ G' = upd G a (.lst [.ref l, .int i']) ∧ j ≤ 2000, ⟨rfl, rfl, by decide⟩, ?_, ?_, ?_⟩⟩
  · rintro j acc G' ⟨rfl, rfl, hj⟩
    exact ⟨hp, by rw [List.length_map, bsO_len]; exact szlt (by omega)⟩
  · rintro j acc G' hj ⟨rfl, rfl, hj2⟩
    refine ⟨rfl, et_yes ?_⟩
    refine iteT ?_
    dsimp only [L2.wipe, List.set_cons_zero, List.set_cons_succ]
    k_extra "e"
    refine er_mulL (by decide) ?_
    k_extra "e"
    refine er_mulR (by omega) ?_
    k_extra "e"
    refine er_mod (by decide) ?_
    exact ⟨upd_same, _, Ex.refl _, by rw [bsO_snoc, List.map_append]; rfl, rfl, by omega⟩
  · rintro acc G' ⟨rfl, rfl, hj⟩
    exact q _ _ i' p _ h' (ap'.add2 hp) (bsO_by _ _) (by rw [bsO_len]; omega)
end
theorem ok__law_bytes {K : PySem.W.Frag} {A : Ad} : ∀ vs G Q E, S__law_bytes K A vs G Q E → Es (t__law_bytes K A) { nx := fun _ G' => Q .non G', rt := Q } (L2.start ["state", "count", "pick", "start", "k"] vs) G := by
  rintro vs G Q E ⟨a, l, ds, i, T, L, rfl, h, ap, q⟩
  change Es _ _ (_ :: _ :: _ :: _ :: _ :: []) _
  k_extra "e"
  refine nxA h ap (by decide) fun c i1 hc0 hc1 h1 ap1 => ?_
  k_extra "e"
  k_extra "e"
  refine nxA h1 ap1 (by decide) fun pk i2 hp0 hp1 h2 ap2 => ?_
  clear h ap h1 ap1
  k_extra "e"
  k_extra "e"
  refine ifd (fun _ => ?_) (fun _ => ?_)
  · k_extra "e"
    refine nxA h2 ap2 (by decide) fun y i3 hy0 hy1 h3 ap3 => ?_
    k_extra "e"
    exact by_end h3 ap3 (by omega) (by omega) q
  · k_extra "e"
    refine ifd (fun _ => ?_) (fun _ => ?_)
    · k_extra "e"
      refine nxA h2 ap2 (by decide) fun y i3 hy0 hy1 h3 ap3 => ?_
      k_extra "e"
      exact by_end h3 ap3 (by omega) (by omega) q
    · k_extra "e"
      refine ifd (fun _ => ?_) (fun _ => ?_)
      · k_extra "e"
        refine nxA h2 ap2 (by decide) fun y i3 hy0 hy1 h3 ap3 => ?_
        k_extra "e"
        exact by_end h3 ap3 (by omega) (by omega) q
      · k_extra "e"
        exact by_end h2 ap2 (by omega) (by omega) q
/-! ### what is laid behind -/
theorem by_app {x y : List Int} (h : By x) (h' : By y) : By (x ++ y) := fun b hb => (List.mem_append.mp hb).elim (h b) (h' b)
theorem by_num {n : Nat} (h : n < 16384) : By (num n) := fun b hb => by
  unfold num at hb
  split at hb <;> simp at hb
  · omega
  · omega
theorem by_tl4 {c : Int} (h : 0 ≤ c ∧ c < 4294967296) : By (tl4 c) := fun b hb => by
  unfold tl4 at hb
  simp at hb
  omega
theorem by_rcd {d : List Int} (h : By d) (hl : d.length ≤ 2000) : By (rcd d) := by
  unfold rcd; exact by_app (by_app (by_num (by omega)) h) (by_tl4 (chk_bd _))
theorem set_mid {α : Type} {x : List α} {j : Nat} {c : α} (h : j < x.length) : x.take j ++ [c] ++ x.drop (j + 1) = x.set j c := by
  rw [List.set_eq_take_append_cons_drop, if_pos h, List.append_assoc]; rfl
theorem bad2 {d : List Int} (hb : By d) (hl : d.length ≤ 2000) {j : Nat} {b c : Int} (hj : (num d.length).length + d.length ≤ j) (hg : (rcd d)[j]? = some b) (n : c ≠ b) (r : List Int) : Bad ((rcd d).take j ++ [c] ++ (rcd d).drop (j + 1) ++ r) := by
  have hlt := (List.getElem?_eq_some_iff.mp hg).1
  have hr := rcd_len d
  rw [set_mid hlt]
  have e : (rcd d).set j c = num d.length ++ d ++ (tl4 (chk d)).set (j - (num d.length ++ d).length) c := by
    unfold rcd
    rw [List.set_append, if_neg (by rw [List.length_append]; omega)]
  rw [e]
  refine bad_tail hl (by rw [List.length_set]; rfl) (fun q => n ?_) r
  have g : (tl4 (chk d))[j - (num d.length ++ d).length]? = some b := by
    rw [← hg]
    unfold rcd
    rw [List.getElem?_append_right (by rw [List.length_append]; omega)]
  have g2 : ((tl4 (chk d)).set (j - (num d.length ++ d).length) c)[j - (num d.length ++ d).length]? = some c := by
    rw [List.getElem?_set_self (by rw [tl4_len, List.length_append]; omega)]
  rw [← q, g] at g2
  exact (Option.some.inj g2).symm
theorem bad3 {d : List Int} (hb : By d) (hl : d.length ≤ 2000) {j : Nat} {b c : Int} (hj : (num d.length).length ≤ j) (hj2 : j < (num d.length).length + d.length) (hg : (rcd d)[j]? = some b) (hc : 0 ≤ c ∧ c < 256) (n : c ≠ b) (r : List Int) : Bad ((rcd d).take j ++ [c] ++ (rcd d).drop (j + 1) ++ r) := by
  have hlt := (List.getElem?_eq_some_iff.mp hg).1
  rw [set_mid hlt]
  have e : (rcd d).set j c = num d.length ++ d.set (j - (num d.length).length) c ++ tl4 (chk d) := by
    unfold rcd
    rw [List.set_append, if_pos (by rw [List.length_append]; omega), List.set_append, if_neg (by omega)]
  rw [e]
  refine bad_sum hl hb (b := b) ?_ hc n r
  rw [← hg]
  unfold rcd
  rw [List.getElem?_append_left (by rw [List.length_append]; omega), List.getElem?_append_right (by omega)]
def S__law_behind (K : PySem.W.Frag) (A : Ad) : Pm := fun vs G Q _ => ∃ (a l : Addr) (ds : List Int) (i : Int) (T : Hp) (L : List Hp), vs = [.ref a] ∧ StT T a l ds i ∧ Ap (T :: L) G ∧
  ∀ G' T' i' p tail, StT T' a l ds i' → Ap (T' :: one p (.lst (tail.map V.int)) :: L) G' → Bad tail → tail.length ≤ 10000 → Q (.ref p) G'
/-! _law_behind -/
def t__law_behind_1 (K : PySem.W.Frag) (A : Ad) : TS := tSeq (tAsg (tOp (rSubI) (tOp (rSubI) (tCB (rLenU K) (tCons (tVar 2) tNil)) (tC (.int 1))) (tCall (up (S__law_next K A)) [] E0 (tCons (tVar 0) (tCons (tC (.int 4)) tNil)))) (gName 5)) (tRet (tOp (rAddU K) (tOp (rAddU K) (tOp (rAddU K) (tSl (rSlU K) (tVar 2) tNoPart (tPart (tVar 5))) (tLst (tCons (tOp (rModU) (tOp (rAddU K) (tOp (rAddU K) (tOp (rIx K) (tVar 2) (tVar 5)) (tC (.int 1))) (tCall (up (S__law_next K A)) [] E0 (tCons (tVar 0) (tCons (tC (.int 255)) tNil)))) (tC (.int 256))) tNil))) (tSl (rSlU K) (tVar 2) (tPart (tOp (rAddU K) (tVar 5) (tC (.int 1)))) tNoPart)) (tVar 3)))
def t__law_behind_2 (K : PySem.W.Frag) (A : Ad) : TS := tSeq (tAsg (tOp (rSubI) (tOp (rSubI) (tCB (rLenU K) (tCons (tVar 2) tNil)) (tC (.int 5))) (tCall (up (S__law_next K A)) [] E0 (tCons (tVar 0) (tCons (tCB (rLenU K) (tCons (tVar 1) tNil)) tNil)))) (gName 5)) (tRet (tOp (rAddU K) (tOp (rAddU K) (tOp (rAddU K) (tSl (rSlU K) (tVar 2) tNoPart (tPart (tVar 5))) (tLst (tCons (tOp (rModU) (tOp (rAddU K) (tOp (rAddU K) (tOp (rIx K) (tVar 2) (tVar 5)) (tC (.int 1))) (tCall (up (S__law_next K A)) [] E0 (tCons (tVar 0) (tCons (tC (.int 255)) tNil)))) (tC (.int 256))) tNil))) (tSl (rSlU K) (tVar 2) (tPart (tOp (rAddU K) (tVar 5) (tC (.int 1)))) tNoPart)) (tVar 3)))
def t__law_behind_3 (K : PySem.W.Frag) (A : Ad) : TS := tSeq (tAsg (tOp (rAddU K) (tOp (rAddU K) (tLst (tCons (tOp (rAddU K) (tOp (rIx K) (tVar 6) (tOp (rSubI) (tCB (rLenU K) (tCons (tVar 6) tNil)) (tC (.int 1)))) (tC (.int 128))) tNil)) (tOp (rMulU) (tLst (tCons (tC (.int 128)) tNil)) (tCall (up (S__law_next K A)) [] E0 (tCons (tVar 0) (tCons (tC (.int 3)) tNil))))) (tLst (tCons (tC (.int 0)) tNil))) (gName 7)) (tRet (tOp (rAddU K) (tOp (rAddU K) (tOp (rAddU K) (tSl (rSlU K) (tVar 6) tNoPart (tPart (tOp (rSubI) (tCB (rLenU K) (tCons (tVar 6) tNil)) (tC (.int 1))))) (tVar 7)) (tSl (rSlU K) (tVar 2) (tPart (tCB (rLenU K) (tCons (tVar 6) tNil))) tNoPart)) (tVar 3)))
def t__law_behind_4 (K : PySem.W.Frag) (A : Ad) : TS := tSeq (tAsg (tCall (up (S__law_number K A)) [] E0 (tCons (tCB (rLenU K) (tCons (tVar 1) tNil)) tNil)) (gName 6)) (t__law_behind_3 K A)
def t__law_behind_5 (K : PySem.W.Frag) (A : Ad) : TS := tSeq (tIfS (tAnd (tTest (tOp (rEqU K) (tVar 4) (tC (.int 3)))) (tTest (tOp (rGtI) (tCB (rLenU K) (tCons (tVar 1) tNil)) (tC (.int 0))))) (t__law_behind_2 K A) tNext) (t__law_behind_4 K A)
def t__law_behind_6 (K : PySem.W.Frag) (A : Ad) : TS := tSeq (tIfS (tTest (tOp (rEqU K) (tVar 4) (tC (.int 2)))) (t__law_behind_1 K A) tNext) (t__law_behind_5 K A)
def t__law_behind_7 (K : PySem.W.Frag) (A : Ad) : TS := tSeq (tIfS (tTest (tOp (rEqU K) (tVar 4) (tC (.int 1)))) (tRet (tSl (rSlU K) (tVar 2) tNoPart (tPart (tCall (up (S__law_next K A)) [] E0 (tCons (tVar 0) (tCons (tCB (rLenU K) (tCons (tVar 2) tNil)) tNil)))))) tNext) (t__law_behind_6 K A)
def t__law_behind_8 (K : PySem.W.Frag) (A : Ad) : TS := tSeq (tIfS (tTest (tOp (rEqU K) (tVar 4) (tC (.int 0)))) (tRet (tLst tNil)) tNext) (t__law_behind_7 K A)
def t__law_behind_9 (K : PySem.W.Frag) (A : Ad) : TS := tSeq (tAsg (tCall (up (S__law_next K A)) [] E0 (tCons (tVar 0) (tCons (tC (.int 5)) tNil))) (gName 4)) (t__law_behind_8 K A)
def t__law_behind_10 (K : PySem.W.Frag) (A : Ad) : TS := tSeq (tAsg (tOp (rIx K) (tLst (tCons (tLst tNil) (tCons (tOp (rAddU K) (tCall (up (S__law_record K A)) [] E0 (tCons (tLst (tCons (tC (.int 1)) (tCons (tC (.int 2)) (tCons (tC (.int 3)) tNil)))) tNil)) (tCall (up (S__law_record K A)) [] E0 (tCons (tLst tNil) tNil))) tNil))) (tCall (up (S__law_next K A)) [] E0 (tCons (tVar 0) (tCons (tC (.int 2)) tNil)))) (gName 3)) (t__law_behind_9 K A)
def t__law_behind_11 (K : PySem.W.Frag) (A : Ad) : TS := tSeq (tAsg (tCall (up (S__law_record K A)) [] E0 (tCons (tVar 1) tNil)) (gName 2)) (t__law_behind_10 K A)
def t__law_behind (K : PySem.W.Frag) (A : Ad) : TS := tSeq (tAsg (tCall (up (S__law_bytes K A)) [] E0 (tCons (tVar 0) tNil)) (gName 1)) (t__law_behind_11 K A)
theorem len__law_behind {K : PySem.W.Frag} {A : Ad} : ∀ vs G Q E, S__law_behind K A vs G Q E → vs.length = ["state"].length := by
  rintro vs G Q E ⟨a, l, ds, i, T, L, rfl, _⟩; rfl
section
variable {K : PySem.W.Frag} {A : Ad} {T G N R B : Hp} {L : List Hp} {a l pd pr pf : Addr} {ds d fu : List Int} {i : Int} {Q : V → Hp → Prop} {c4 c5 c6 c7 : Option V}
theorem get_rcd {x : List Int} {j : Nat} (h : j < x.length) : (x.map V.int)[j]? = some (.int x[j]) := by rw [List.getElem?_map, List.getElem?_eq_getElem h]; rfl
/-- a byte is another one: the list that is made -/
theorem other_byte {at_ : Nat} {D : Ek} (h : StT T a l ds i) (ap : Ap (T :: N :: R :: L) G) (hR : R pr = some (.lst ((rcd d).map V.int))) (hN : N pf = some (.lst (fu.map V.int))) (hl : d.length ≤ 2000) (hb : By d) (hat : at_ < (rcd d).length)
    (q : ∀ G' T' i' p c, StT T' a l ds i' → Ap (T' :: one p (.lst (((rcd d).take at_ ++ [c] ++ (rcd d).drop (at_ + 1) ++ fu).map V.int)) :: N :: R :: L) G' → 0 ≤ c → c < 256 → (∀ b, (rcd d)[at_]? = some b → c ≠ b) → D.rt (.ref p) G') (hf : fu.length ≤ 20) :
    Es (tRet (tOp (rAddU K) (tOp (rAddU K) (tOp (rAddU K) (tSl (rSlU K) (tVar 2) tNoPart (tPart (tVar 5))) (tLst (tCons (tOp (rModU) (tOp (rAddU K) (tOp (rAddU K) (tOp (rIx K) (tVar 2) (tVar 5)) (tC (.int 1))) (tCall (up (S__law_next K A)) [] E0 (tCons (tVar 0) (tCons (tC (.int 255)) tNil)))) (tC (.int 256))) tNil))) (tSl (rSlU K) (tVar 2) (tPart (tOp (rAddU K) (tVar 5) (tC (.int 1)))) tNoPart)) (tVar 3)))
      D [some (.ref a), some (.ref pd), some (.ref pr), some (.ref pf), c4, some (.int (at_ : Int)), c6, c7] G := by
  have eR : ∀ {T' : Hp} {M : List Hp} {G' : Hp}, Ap (T' :: M) G' → R ∈ M → G' pr = some (.lst ((rcd d).map V.int)) := fun ap hm => ap.ex R (List.mem_cons_of_mem _ hm) _ _ hR
  have eN : ∀ {T' : Hp} {M : List Hp} {G' : Hp}, Ap (T' :: M) G' → N ∈ M → G' pf = some (.lst (fu.map V.int)) := fun ap hm => ap.ex N (List.mem_cons_of_mem _ hm) _ _ hN
  have hrl := rcd_len d
  have hnl := num_le d.length
  have hby := by_rcd hb hl _ (List.getElem_mem hat)
  k_extra "e"
  refine ew_L (SqL.of (eR ap (by simp))) fun p1 hp1 => ?_
  rw [cut_toN, map_take]
  have ap1 := ap.add2 (o := .lst (((rcd d).take at_).map V.int)) hp1
  k_extra "e"
  refine er_ixL (SqL.of (eR ap1 (by simp))) (atI_nat (get_rcd hat)) ?_
  k_extra "e"
  refine nxA h ap1 (by decide) fun y i2 hy0 hy1 h2 ap2 => ?_
  k_extra "e"
  refine er_mod (by decide) ?_
  k_extra "e"
  refine ⟨sz1000 (by simp), fun p2 hp2 => ?_⟩
  have ap3 := ap2.add2 (o := .lst [.int (((rcd d)[at_] + 1 + y) % 256)]) hp2
  refine er_addL (ap3.ex (one p1 (.lst (((rcd d).take at_).map V.int))) (by simp) _ _ one_at) upd_same (by rw [List.length_map, List.length_take]; exact szM (by simp; omega)) fun p3 hp3 => ?_
  have ap4 := ap3.add2 (o := .lst (((rcd d).take at_).map V.int ++ [.int (((rcd d)[at_] + 1 + y) % 256)])) hp3
  k_extra "e"
  refine ew_L (SqL.of (eR ap4 (by simp))) fun p4 hp4 => ?_
  have e1 : ((at_ : Int) + 1) = ((at_ + 1 : Nat) : Int) := rfl
  rw [e1, cut_from, map_drop]
  have ap5 := ap4.add2 (o := .lst (((rcd d).drop (at_ + 1)).map V.int)) hp4
  refine er_addL (get_new upd_same hp4) upd_same (by rw [List.length_append, List.length_map, List.length_map, List.length_take, List.length_drop]; exact szM (by simp; omega)) fun p5 hp5 => ?_
  have ap6 := ap5.add2 (o := .lst (((rcd d).take at_).map V.int ++ [.int (((rcd d)[at_] + 1 + y) % 256)] ++ ((rcd d).drop (at_ + 1)).map V.int)) hp5
  k_extra "e"
  refine er_addL upd_same (eN ap6 (by simp)) (by simp only [List.length_append, List.length_map, List.length_take, List.length_drop]; exact szM (by simp; omega)) fun p6 hp6 => ?_
  have e2 : ((rcd d).take at_).map V.int ++ [.int (((rcd d)[at_] + 1 + y) % 256)] ++ ((rcd d).drop (at_ + 1)).map V.int ++ fu.map V.int = ((rcd d).take at_ ++ [((rcd d)[at_] + 1 + y) % 256] ++ (rcd d).drop (at_ + 1) ++ fu).map V.int := by
    simp only [List.map_append, List.map_cons, List.map_nil]
  rw [e2] at *
  have ap7 := ap6.add2 (o := .lst (((rcd d).take at_ ++ [((rcd d)[at_] + 1 + y) % 256] ++ (rcd d).drop (at_ + 1) ++ fu).map V.int)) hp6
  refine q _ _ i2 p6 (((rcd d)[at_] + 1 + y) % 256) h2 (ap7.sub ?_) (by omega) (by omega) (fun b hb => ?_)
  · exact .cons₂ _ (.cons₂ _ (.cons _ (.cons _ (.cons _ (.cons _ (.cons _ (List.Sublist.refl _)))))))
  · rw [List.getElem?_eq_getElem hat] at hb
    obtain rfl := Option.some.inj hb
    omega
end
end Lw

namespace Lw
open PySem PySem.Spec PyProof.Rows L2
local macro_rules | `(tactic| k_extra "x1") => `(tactic| first
  | with_reducible refine es_seq ?_
  | with_reducible refine es_asg ?_
  | with_reducible refine es_if ?_
  | with_reducible refine es_ret ?_
  | with_reducible refine es_drop ?_
  | with_reducible refine es_next ?_
  | with_reducible refine es_augS ?_
  | with_reducible refine es_fld ?_
  | ((with_reducible show Ee (tVar _) _ _ _); refine ee_var rfl ?_)
  | with_reducible refine ee_c ?_
  | with_reducible refine ee_op ?_
  | with_reducible refine ee_un ?_
  | with_reducible refine eu_neg ?_
  | with_reducible refine ee_cb ?_
  | with_reducible refine ee_call ?_
  | with_reducible refine ea_nil ?_
  | with_reducible refine ea_cons ?_
  | with_reducible refine ee_sl ?_
  | with_reducible refine eo_no ?_
  | with_reducible refine eo_part ?_
  | with_reducible refine ee_tup ?_
  | with_reducible refine ee_lst ?_
  | with_reducible refine et_test ?_
  | with_reducible refine et_tB ?_
  | with_reducible refine et_tru ?_
  | with_reducible refine et_and ?_
  | with_reducible refine et_or ?_
  | with_reducible refine et_not ?_
  | with_reducible refine ee_and ?_
  | with_reducible refine ee_or ?_
  | with_reducible refine ee_not ?_
  | with_reducible refine ee_if ?_
  | with_reducible refine ee_chain ?_
  | with_reducible refine er_addI ?_
  | with_reducible refine er_subI ?_
  | with_reducible refine er_eqI ?_
  | with_reducible refine er_neI ?_
  | with_reducible refine er_eqNI ?_
  | with_reducible refine er_eqS ?_
  | with_reducible refine er_neS ?_
  | with_reducible refine er_eqB ?_
  | with_reducible refine er_neB ?_
  | with_reducible refine er_lt ?_
  | with_reducible refine er_le ?_
  | with_reducible refine er_gt ?_
  | with_reducible refine er_ge ?_
  | with_reducible refine er_isN_non ?_
  | with_reducible refine er_isN_bl ?_
  | with_reducible refine er_isN_int ?_
  | with_reducible refine er_isN_str ?_
  | with_reducible refine er_isN_ref ?_
  | with_reducible refine er_notN_non ?_
  | with_reducible refine er_notN_bl ?_
  | with_reducible refine er_notN_int ?_
  | with_reducible refine er_notN_str ?_
  | with_reducible refine er_notN_ref ?_
  | with_reducible refine er_isN ?_
  | with_reducible refine er_notN ?_
  | with_reducible refine ec_int ?_
  | with_reducible refine ec_intB ?_
  | with_reducible refine ec_max2 ?_
  | with_reducible refine ec_min2 ?_
  | with_reducible refine ip_I ?_
  | ((with_reducible refine eg_name ?_); (try dsimp only [L2.wipe, List.set_cons_zero, List.set_cons_succ]))
  | with_reducible refine eg_sub ?_
  | with_reducible refine egs_cons ?_
  | with_reducible refine egs_nil ?_
  | with_reducible refine tru_bl ?_
  | with_reducible refine tru_int ?_
  | with_reducible refine tru_non ?_
  | with_reducible refine iteT ?_
  | with_reducible refine iteF ?_
  | with_reducible refine ite_nt ?_
  | with_reducible refine ite_nf ?_
  | with_reducible refine ⟨_, rfl, ?_⟩)
local macro_rules | `(tactic| k_extra "s") => `(tactic| ((first | k_extra "x1" | ((with_reducible refine es_unf ?_); refine es_seq ?_)); (repeat k_extra "x1")))
local macro_rules | `(tactic| k_extra "x") => `(tactic| (repeat first | k_extra "x1" | ((with_reducible refine es_unf ?_); refine es_seq ?_)))
local macro_rules | `(tactic| k_extra "start") => `(tactic| dsimp only [L2.start, List.map_cons, List.map_nil, List.length_cons, List.length_nil, Nat.reduceAdd, Nat.reduceSub, List.replicate, List.cons_append, List.nil_append, Nat.zero_add])
local macro_rules | `(tactic| k_extra "e1") => `(tactic| first
  | with_reducible refine es_next ?_
  | ((with_reducible show Ee (tVar _) _ _ _); refine ee_var rfl ?_)
  | with_reducible refine ee_c ?_
  | with_reducible refine ee_op ?_
  | with_reducible refine ee_un ?_
  | with_reducible refine eu_neg ?_
  | with_reducible refine ee_cb ?_
  | with_reducible refine ee_call ?_
  | with_reducible refine ea_nil ?_
  | with_reducible refine ea_cons ?_
  | with_reducible refine ee_sl ?_
  | with_reducible refine eo_no ?_
  | with_reducible refine eo_part ?_
  | with_reducible refine ee_tup ?_
  | with_reducible refine ee_lst ?_
  | with_reducible refine et_test ?_
  | with_reducible refine et_tB ?_
  | with_reducible refine et_tru ?_
  | with_reducible refine et_and ?_
  | with_reducible refine et_or ?_
  | with_reducible refine et_not ?_
  | with_reducible refine ee_and ?_
  | with_reducible refine ee_or ?_
  | with_reducible refine ee_not ?_
  | with_reducible refine ee_if ?_
  | with_reducible refine ee_chain ?_
  | with_reducible refine er_addI ?_
  | with_reducible refine er_subI ?_
  | with_reducible refine er_eqI ?_
  | with_reducible refine er_neI ?_
  | with_reducible refine er_eqNI ?_
  | with_reducible refine er_eqS ?_
  | with_reducible refine er_neS ?_
  | with_reducible refine er_eqB ?_
  | with_reducible refine er_neB ?_
  | with_reducible refine er_lt ?_
  | with_reducible refine er_le ?_
  | with_reducible refine er_gt ?_
  | with_reducible refine er_ge ?_
  | with_reducible refine er_isN_non ?_
  | with_reducible refine er_isN_bl ?_
  | with_reducible refine er_isN_int ?_
  | with_reducible refine er_isN_str ?_
  | with_reducible refine er_isN_ref ?_
  | with_reducible refine er_notN_non ?_
  | with_reducible refine er_notN_bl ?_
  | with_reducible refine er_notN_int ?_
  | with_reducible refine er_notN_str ?_
  | with_reducible refine er_notN_ref ?_
  | with_reducible refine er_isN ?_
  | with_reducible refine er_notN ?_
  | with_reducible refine ec_int ?_
  | with_reducible refine ec_intB ?_
  | with_reducible refine ec_max2 ?_
  | with_reducible refine ec_min2 ?_
  | with_reducible refine ip_I ?_
  | ((with_reducible refine eg_name ?_); (try dsimp only [L2.wipe, List.set_cons_zero, List.set_cons_succ]))
  | with_reducible refine eg_sub ?_
  | with_reducible refine egs_cons ?_
  | with_reducible refine egs_nil ?_
  | with_reducible refine tru_bl ?_
  | with_reducible refine tru_int ?_
  | with_reducible refine tru_non ?_
  | with_reducible refine iteT ?_
  | with_reducible refine iteF ?_
  | with_reducible refine ite_nt ?_
  | with_reducible refine ite_nf ?_
  | with_reducible refine ex_bl ?_
  | with_reducible refine ex_int ?_
  | with_reducible refine ex_str ?_
  | with_reducible refine ex_strx ?_
  | with_reducible refine ex_ints1 ?_
  | with_reducible refine ex_ints2 ?_)
local macro_rules | `(tactic| k_extra "t1") => `(tactic| first
  | with_reducible refine es_asg ?_
  | with_reducible refine es_if ?_
  | with_reducible refine es_ret ?_
  | with_reducible refine es_drop ?_
  | with_reducible refine es_augS ?_
  | with_reducible refine es_fld ?_)
local macro_rules | `(tactic| k_extra "e") => `(tactic| first
  | ((with_reducible refine es_seq ?_); (try k_extra "t1"); (repeat k_extra "e1"))
  | (k_extra "t1"; (repeat k_extra "e1"))
  | (k_extra "e1"; (repeat k_extra "e1"))
  | ((with_reducible refine es_unf ?_); (refine es_seq ?_); (try k_extra "t1"); (repeat k_extra "e1")))
section
variable {K : PySem.W.Frag} {A : Ad} {T G N R B : Hp} {L : List Hp} {a l pd pr pf : Addr} {ds d fu : List Int} {i : Int} {Q : V → Hp → Prop} {c4 c5 c6 c7 : Option V}
theorem sub4 {T N R B x : Hp} {L : List Hp} : (T :: x :: L).Sublist (T :: x :: N :: R :: B :: L) := .cons₂ _ (.cons₂ _ (.cons _ (.cons _ (.cons _ (List.Sublist.refl _)))))
theorem beh_needless (h : StT T a l ds i) (ap : Ap (T :: N :: R :: B :: L) G) (hB : B pd = some (.lst (d.map V.int))) (hR : R pr = some (.lst ((rcd d).map V.int))) (hN : N pf = some (.lst (fu.map V.int))) (hl : d.length ≤ 2000) (hf : fu.length ≤ 20)
    (q : ∀ G' T' i' p tail, StT T' a l ds i' → Ap (T' :: one p (.lst (tail.map V.int)) :: L) G' → Bad tail → tail.length ≤ 10000 → Q (.ref p) G') :
    Es (t__law_behind_4 K A) { nx := fun _ G' => Q .non G', rt := Q } [some (.ref a), some (.ref pd), some (.ref pr), some (.ref pf), c4, c5, c6, c7] G := by
  have eB : ∀ {T' : Hp} {M : List Hp} {G' : Hp}, Ap (T' :: M) G' → B ∈ M → G' pd = some (.lst (d.map V.int)) := fun ap hm => ap.ex B (List.mem_cons_of_mem _ hm) _ _ hB
  have eR : ∀ {T' : Hp} {M : List Hp} {G' : Hp}, Ap (T' :: M) G' → R ∈ M → G' pr = some (.lst ((rcd d).map V.int)) := fun ap hm => ap.ex R (List.mem_cons_of_mem _ hm) _ _ hR
  have eN : ∀ {T' : Hp} {M : List Hp} {G' : Hp}, Ap (T' :: M) G' → N ∈ M → G' pf = some (.lst (fu.map V.int)) := fun ap hm => ap.ex N (List.mem_cons_of_mem _ hm) _ _ hN
  have hrl := rcd_len d
  have hnl := num_le d.length
  k_extra "e"
  refine ec_lenL (SqL.of (eB ap (by simp))) fun _ => ?_
  rw [List.length_map]
  k_extra "e"
  refine ⟨d.length, rfl, by omega, fun G1 ps e1 hps => ?_⟩
  have ap1 := (ap.junk e1).add2 (o := .lst ((num d.length).map V.int)) hps
  k_extra "e"
  k_extra "e"
  have gS : ∀ {T' : Hp} {M : List Hp} {G' : Hp}, Ap (T' :: M) G' → one ps (.lst ((num d.length).map V.int)) ∈ M → G' ps = some (.lst ((num d.length).map V.int)) := fun ap hm => ap.ex _ (List.mem_cons_of_mem _ hm) _ _ one_at
  refine ec_lenL (SqL.of (gS ap1 (by simp))) fun _ => ?_
  rw [List.length_map]
  k_extra "e"
  have e2 : (((num d.length).length : Nat) : Int) - 1 = (((num d.length).length - 1 : Nat) : Int) := by omega
  have hlast : (num d.length).length - 1 < (num d.length).length := by omega
  rw [e2]
  refine er_ixL (SqL.of (gS ap1 (by simp))) (atI_nat (get_rcd hlast)) ?_
  k_extra "e"
  refine ⟨sz1000 (by simp), fun p1 hp1 => ?_⟩
  have ap2 := ap1.add2 (o := .lst [.int ((num d.length)[(num d.length).length - 1] + 128)]) hp1
  k_extra "e"
  refine ⟨sz1000 (by simp), fun p2 hp2 => ?_⟩
  have ap3 := ap2.add2 (o := .lst [.int 128]) hp2
  k_extra "e"
  refine nxA h ap3 (by decide) fun z i2 hz0 hz1 h2 ap4 => ?_
  obtain ⟨z, rfl⟩ := Int.eq_ofNat_of_zero_le hz0
  refine er_rep (ap4.ex (one p2 (.lst [.int 128])) (by simp) _ _ one_at) (by omega) (by omega) (sz1000 (by simp; omega)) fun p3 hp3 => ?_
  have er3 : (List.replicate (z : Int).toNat [V.int 128]).flatten = (List.replicate z (128 : Int)).map V.int := by
    rw [Int.toNat_natCast, List.map_replicate]
    clear hz0 hz1 h2 ap4 hp3
    induction z with
    | zero => rfl
    | succ n ih => rw [List.replicate_succ, List.flatten_cons, ih]; rfl
  rw [er3] at *
  have ap5 := ap4.add2 (o := .lst ((List.replicate z (128 : Int)).map V.int)) hp3
  refine er_addL (ap5.ex (one p1 (.lst [.int ((num d.length)[(num d.length).length - 1] + 128)])) (by simp) _ _ one_at) upd_same (sz1000 (by simp; omega)) fun p4 hp4 => ?_
  have ap6 := ap5.add2 (o := .lst ([.int ((num d.length)[(num d.length).length - 1] + 128)] ++ (List.replicate z (128 : Int)).map V.int)) hp4
  k_extra "e"
  refine ⟨sz1000 (by simp), fun p5 hp5 => ?_⟩
  have ap7 := ap6.add2 (o := .lst [.int 0]) hp5
  refine er_addL (get_new upd_same hp5) upd_same (sz1000 (by simp; omega)) fun p6 hp6 => ?_
  have ap8 := ap7.add2 (o := .lst ([.int ((num d.length)[(num d.length).length - 1] + 128)] ++ (List.replicate z (128 : Int)).map V.int ++ [.int 0])) hp6
  k_extra "e"
  k_extra "e"
  refine ec_lenL (SqL.of (gS ap8 (by simp))) fun _ => ?_
  rw [List.length_map]
  k_extra "e"
  rw [e2]
  refine ew_L (SqL.of (gS ap8 (by simp))) fun p7 hp7 => ?_
  rw [cut_toN, map_take]
  have ap9 := ap8.add2 (o := .lst (((num d.length).take ((num d.length).length - 1)).map V.int)) hp7
  k_extra "e"
  refine er_addL upd_same (ap9.ex (one p6 (.lst ([.int ((num d.length)[(num d.length).length - 1] + 128)] ++ (List.replicate z (128 : Int)).map V.int ++ [.int 0]))) (by simp) _ _ one_at) (sz1000 (by simp; omega)) fun p8 hp8 => ?_
  have ap10 := ap9.add2 (o := .lst (((num d.length).take ((num d.length).length - 1)).map V.int ++ ([.int ((num d.length)[(num d.length).length - 1] + 128)] ++ (List.replicate z (128 : Int)).map V.int ++ [.int 0]))) hp8
  k_extra "e"
  refine ec_lenL (SqL.of (gS ap10 (by simp))) fun _ => ?_
  rw [List.length_map]
  k_extra "e"
  refine ew_L (SqL.of (eR ap10 (by simp))) fun p9 hp9 => ?_
  rw [cut_from, map_drop]
  have ap11 := ap10.add2 (o := .lst (((rcd d).drop (num d.length).length).map V.int)) hp9
  refine er_addL (get_new upd_same hp9) upd_same (szM (by simp; omega)) fun p10 hp10 => ?_
  have ap12 := ap11.add2 (o := .lst (((num d.length).take ((num d.length).length - 1)).map V.int ++ ([.int ((num d.length)[(num d.length).length - 1] + 128)] ++ (List.replicate z (128 : Int)).map V.int ++ [.int 0]) ++ ((rcd d).drop (num d.length).length).map V.int)) hp10
  k_extra "e"
  refine er_addL upd_same (eN ap12 (by simp)) (szM (by simp; omega)) fun p11 hp11 => ?_
  have eF : ((num d.length).take ((num d.length).length - 1)).map V.int ++ ([.int ((num d.length)[(num d.length).length - 1] + 128)] ++ (List.replicate z (128 : Int)).map V.int ++ [.int 0]) ++ ((rcd d).drop (num d.length).length).map V.int ++ fu.map V.int
      = ((num d.length).take ((num d.length).length - 1) ++ ([((num d.length).getD ((num d.length).length - 1) 0) + 128] ++ List.replicate z 128 ++ [0]) ++ ((rcd d).drop (num d.length).length ++ fu)).map V.int := by
    rw [List.getD_eq_getElem?_getD, List.getElem?_eq_getElem hlast]
    simp only [List.map_append, List.map_cons, List.map_nil, Option.getD_some, List.append_assoc, List.cons_append, List.nil_append]
  rw [eF] at *
  have ap13 := ap12.add2 (o := .lst (((num d.length).take ((num d.length).length - 1) ++ ([((num d.length).getD ((num d.length).length - 1) 0) + 128] ++ List.replicate z 128 ++ [0]) ++ ((rcd d).drop (num d.length).length ++ fu)).map V.int)) hp11
  refine q _ _ i2 p11 _ h2 (ap13.sub ?_) (bad_needless (n := d.length) (z := z) hl (by omega) ((rcd d).drop (num d.length).length ++ fu)) (by simp; omega)
  exact .cons₂ _ (.cons₂ _ (.cons _ (.cons _ (.cons _ (.cons _ (.cons _ (.cons _ (.cons _ (.cons _ (.cons _ (.cons _ (.cons _ (.cons _ (.cons _ (.cons _ (List.Sublist.refl _))))))))))))))))
theorem beh_pick (h : StT T a l ds i) (ap : Ap (T :: N :: R :: B :: L) G) (hB : B pd = some (.lst (d.map V.int))) (hR : R pr = some (.lst ((rcd d).map V.int))) (hN : N pf = some (.lst (fu.map V.int))) (hl : d.length ≤ 2000) (hb : By d) (hf : fu.length ≤ 20)
    (q : ∀ G' T' i' p tail, StT T' a l ds i' → Ap (T' :: one p (.lst (tail.map V.int)) :: L) G' → Bad tail → tail.length ≤ 10000 → Q (.ref p) G') :
    Es (t__law_behind_9 K A) { nx := fun _ G' => Q .non G', rt := Q } [some (.ref a), some (.ref pd), some (.ref pr), some (.ref pf), c4, c5, c6, c7] G := by
  have eB : ∀ {T' : Hp} {M : List Hp} {G' : Hp}, Ap (T' :: M) G' → B ∈ M → G' pd = some (.lst (d.map V.int)) := fun ap hm => ap.ex B (List.mem_cons_of_mem _ hm) _ _ hB
  have eR : ∀ {T' : Hp} {M : List Hp} {G' : Hp}, Ap (T' :: M) G' → R ∈ M → G' pr = some (.lst ((rcd d).map V.int)) := fun ap hm => ap.ex R (List.mem_cons_of_mem _ hm) _ _ hR
  have hrl := rcd_len d
  have hnl := num_le d.length
  k_extra "e"
  refine nxA h ap (by decide) fun pk i1 hp0 hp1 h1 ap1 => ?_
  clear ap h
  k_extra "e"
  k_extra "e"
  refine ifd (fun _ => ?_) (fun _ => ?_)
  · k_extra "e"
    refine ⟨Nat.zero_le _, fun p hp => ?_⟩
    exact q _ _ i1 p [] h1 ((ap1.add2 hp).sub sub4) bad_nil (Nat.zero_le _)
  k_extra "e"
  k_extra "e"
  refine ifd (fun _ => ?_) (fun _ => ?_)
  · k_extra "e"
    refine ec_lenL (SqL.of (eR ap1 (by simp))) fun _ => ?_
    rw [List.length_map]
    k_extra "e"
    refine nxA h1 ap1 (by omega) fun x i2 hx0 hx1 h2 ap2 => ?_
    obtain ⟨x, rfl⟩ := Int.eq_ofNat_of_zero_le hx0
    k_extra "e"
    refine ew_L (SqL.of (eR ap2 (by simp))) fun p hp => ?_
    rw [cut_toN, map_take]
    exact q _ _ i2 p _ h2 ((ap2.add2 hp).sub sub4) (bad_pre hl (by omega)) (by rw [List.length_take]; omega)
  k_extra "e"
  k_extra "e"
  refine ifd (fun _ => ?_) (fun _ => ?_)
  · k_extra "e"
    refine ec_lenL (SqL.of (eR ap1 (by simp))) fun _ => ?_
    rw [List.length_map]
    k_extra "e"
    refine nxA h1 ap1 (by decide) fun x i2 hx0 hx1 h2 ap2 => ?_
    obtain ⟨x, rfl⟩ := Int.eq_ofNat_of_zero_le hx0
    k_extra "e"
    have e1 : (((rcd d).length : Nat) : Int) - 1 - (x : Int) = (((rcd d).length - 1 - x : Nat) : Int) := by omega
    rw [e1]
    refine other_byte (at_ := (rcd d).length - 1 - x) h2 ap2 hR hN hl hb (by omega) (fun G' T' i' p c h' ap' hc0 hc1 hne => ?_) hf
    have hlt : (rcd d).length - 1 - x < (rcd d).length := by omega
    refine q _ _ i' p _ h' (ap'.sub sub4) (bad2 (j := (rcd d).length - 1 - x) hb hl (by omega) (List.getElem?_eq_getElem hlt) (hne _ (List.getElem?_eq_getElem hlt)) fu) (by simp; omega)
  k_extra "e"
  k_extra "e"
  refine ifd (fun _ => ?_) (fun _ => ?_)
  · k_extra "e"
    refine ec_lenL (SqL.of (eB ap1 (by simp))) fun _ => ?_
    rw [List.length_map]
    k_extra "e"
    refine ifd (fun hpos => ?_) (fun _ => ?_)
    · k_extra "e"
      refine ec_lenL (SqL.of (eR ap1 (by simp))) fun _ => ?_
      rw [List.length_map]
      k_extra "e"
      refine ec_lenL (SqL.of (eB ap1 (by simp))) fun _ => ?_
      rw [List.length_map]
      k_extra "e"
      refine nxA h1 ap1 (by omega) fun x i2 hx0 hx1 h2 ap2 => ?_
      obtain ⟨x, rfl⟩ := Int.eq_ofNat_of_zero_le hx0
      k_extra "e"
      have e1 : (((rcd d).length : Nat) : Int) - 5 - (x : Int) = (((rcd d).length - 5 - x : Nat) : Int) := by omega
      rw [e1]
      refine other_byte (at_ := (rcd d).length - 5 - x) h2 ap2 hR hN hl hb (by omega) (fun G' T' i' p c h' ap' hc0 hc1 hne => ?_) hf
      have hlt : (rcd d).length - 5 - x < (rcd d).length := by omega
      refine q _ _ i' p _ h' (ap'.sub sub4) (bad3 (j := (rcd d).length - 5 - x) hb hl (by omega) (by omega) (List.getElem?_eq_getElem hlt) ⟨hc0, hc1⟩ (hne _ (List.getElem?_eq_getElem hlt)) fu) (by simp; omega)
    · k_extra "e"
      exact beh_needless h1 ap1 hB hR hN hl hf q
  · k_extra "e"
    exact beh_needless h1 ap1 hB hR hN hl hf q
end
theorem ok__law_behind {K : PySem.W.Frag} {A : Ad} : ∀ vs G Q E, S__law_behind K A vs G Q E → Es (t__law_behind K A) { nx := fun _ G' => Q .non G', rt := Q } (L2.start ["state", "data", "record", "further", "pick", "at", "size", "needless"] vs) G := by
  rintro vs G Q E ⟨a, l, ds, i, T, L, rfl, h, ap, q⟩
  change Es _ _ (_ :: _ :: _ :: _ :: _ :: _ :: _ :: _ :: []) _
  k_extra "e"
  refine ⟨a, l, ds, i, T, L, rfl, h, ap, fun G1 T1 i1 pd d h1 ap1 hb hl => ?_⟩
  clear h ap
  have gd : G1 pd = some (.lst (d.map V.int)) := ap1.ex (one pd (.lst (d.map V.int))) (by simp) _ _ one_at
  k_extra "e"
  k_extra "e"
  refine ⟨pd, d, rfl, gd, by omega, fun G2 pr e2 hpr => ?_⟩
  have ap2 := (ap1.junk e2).add2 (o := .lst ((rcd d).map V.int)) hpr
  k_extra "e"
  generalize upd G2 pr (.lst ((rcd d).map V.int)) = G3 at ap2 ⊢
  k_extra "e"
  refine ⟨Nat.zero_le _, fun p0 hp0 => ?_⟩
  k_extra "e"
  refine ⟨sz1000 (by simp), fun p1 hp1 => ?_⟩
  k_extra "e"
  refine ⟨p1, [1, 2, 3], rfl, upd_same, by decide, fun G4 p2 e4 hp2 => ?_⟩
  k_extra "e"
  refine ⟨Nat.zero_le _, fun p3 hp3 => ?_⟩
  k_extra "e"
  refine ⟨p3, [], rfl, upd_same, by decide, fun G5 p4 e5 hp4 => ?_⟩
  refine er_addL (get_new (e5 _ _ (get_new upd_same hp3)) hp4) upd_same (sz1000 (by decide)) fun p5 hp5 => ?_
  k_extra "e"
  refine ⟨sz1000 (by simp), fun p6 hp6 => ?_⟩
  k_extra "e"
  rw [← List.map_append] at *
  have e34 : Ex (upd (upd G3 p0 (.lst [])) p1 (.lst [.int 1, .int 2, .int 3])) G5 := ((e4.trans (Ex.new hp2)).trans (Ex.new hp3)).trans e5
  have e56 : Ex G5 (upd (upd (upd G5 p4 (.lst ((rcd []).map V.int))) p5 (.lst ((rcd [1, 2, 3] ++ rcd []).map V.int))) p6 (.lst [.ref p0, .ref p5])) := ((Ex.new hp4).trans (Ex.new hp5)).trans (Ex.new hp6)
  have e36 := ((Ex.new (o := .lst []) hp0).trans (Ex.new (o := .lst [.int 1, .int 2, .int 3]) hp1)).trans (e34.trans e56)
  have g0 := (e34.trans e56) p0 _ (get_new upd_same hp1)
  have g5 : upd (upd (upd G5 p4 (.lst ((rcd []).map V.int))) p5 (.lst ((rcd [1, 2, 3] ++ rcd []).map V.int))) p6 (.lst [.ref p0, .ref p5]) p5 = some (.lst ((rcd [1, 2, 3] ++ rcd []).map V.int)) := get_new upd_same hp6
  have g6 : upd (upd (upd G5 p4 (.lst ((rcd []).map V.int))) p5 (.lst ((rcd [1, 2, 3] ++ rcd []).map V.int))) p6 (.lst [.ref p0, .ref p5]) p6 = some (.lst [.ref p0, .ref p5]) := upd_same
  have n5 : G3 p5 = none := by
    have : G5 p5 = none := nul_upd hp5
    exact ((Ex.new (o := .lst []) hp0).trans (Ex.new (o := .lst [.int 1, .int 2, .int 3]) hp1)).trans e34 |>.nul this
  have n6 : G3 p6 = none := by
    have : G5 p6 = none := nul_upd (nul_upd hp6)
    exact ((Ex.new (o := .lst []) hp0).trans (Ex.new (o := .lst [.int 1, .int 2, .int 3]) hp1)).trans e34 |>.nul this
  generalize upd (upd (upd G5 p4 (.lst ((rcd []).map V.int))) p5 (.lst ((rcd [1, 2, 3] ++ rcd []).map V.int))) p6 (.lst [.ref p0, .ref p5]) = G7 at e36 g0 g5 g6 ⊢
  have ap7 := ap2.grab e36
  refine nxA h1 ap7 (by decide) fun x i2 hx0 hx1 h2 ap8 => ?_
  have N0 : newp G3 G7 p0 = some (.lst []) := newp_get hp0 g0
  have N5 := newp_get n5 g5
  have N6 := newp_get n6 g6
  have g6' := ap8.ex (newp G3 G7) (by simp) _ _ N6
  rcases (show x = 0 ∨ x = 1 by omega) with rfl | rfl
  · refine er_ixL (SqL.of g6') (atI_nat (j := 0) rfl) ?_
    k_extra "e"
    exact beh_pick (fu := []) h2 ap8 one_at one_at N0 hl hb (Nat.zero_le _) q
  · refine er_ixL (SqL.of g6') (atI_nat (j := 1) rfl) ?_
    k_extra "e"
    exact beh_pick h2 ap8 one_at one_at N5 hl hb (by decide) q
end Lw

namespace Lw
open PySem PySem.Spec PyProof.Rows L2
local macro_rules | `(tactic| k_extra "x1") => `(tactic| first
  | with_reducible refine es_seq ?_
  | with_reducible refine es_asg ?_
  | with_reducible refine es_if ?_
  | with_reducible refine es_ret ?_
  | with_reducible refine es_drop ?_
  | with_reducible refine es_next ?_
  | with_reducible refine es_augS ?_
  | with_reducible refine es_fld ?_
  | ((with_reducible show Ee (tVar _) _ _ _); refine ee_var rfl ?_)
  | with_reducible refine ee_c ?_
  | with_reducible refine ee_op ?_
  | with_reducible refine ee_un ?_
  | with_reducible refine eu_neg ?_
  | with_reducible refine ee_cb ?_
  | with_reducible refine ee_call ?_
  | with_reducible refine ea_nil ?_
  | with_reducible refine ea_cons ?_
  | with_reducible refine ee_sl ?_
  | with_reducible refine eo_no ?_
  | with_reducible refine eo_part ?_
  | with_reducible refine ee_tup ?_
  | with_reducible refine ee_lst ?_
  | with_reducible refine et_test ?_
  | with_reducible refine et_tB ?_
  | with_reducible refine et_tru ?_
  | with_reducible refine et_and ?_
  | with_reducible refine et_or ?_
  | with_reducible refine et_not ?_
  | with_reducible refine ee_and ?_
  | with_reducible refine ee_or ?_
  | with_reducible refine ee_not ?_
  | with_reducible refine ee_if ?_
  | with_reducible refine ee_chain ?_
  | with_reducible refine er_addI ?_
  | with_reducible refine er_subI ?_
  | with_reducible refine er_eqI ?_
  | with_reducible refine er_neI ?_
  | with_reducible refine er_eqNI ?_
  | with_reducible refine er_eqS ?_
  | with_reducible refine er_neS ?_
  | with_reducible refine er_eqB ?_
  | with_reducible refine er_neB ?_
  | with_reducible refine er_lt ?_
  | with_reducible refine er_le ?_
  | with_reducible refine er_gt ?_
  | with_reducible refine er_ge ?_
  | with_reducible refine er_isN_non ?_
  | with_reducible refine er_isN_bl ?_
  | with_reducible refine er_isN_int ?_
  | with_reducible refine er_isN_str ?_
  | with_reducible refine er_isN_ref ?_
  | with_reducible refine er_notN_non ?_
  | with_reducible refine er_notN_bl ?_
  | with_reducible refine er_notN_int ?_
  | with_reducible refine er_notN_str ?_
  | with_reducible refine er_notN_ref ?_
  | with_reducible refine er_isN ?_
  | with_reducible refine er_notN ?_
  | with_reducible refine ec_int ?_
  | with_reducible refine ec_intB ?_
  | with_reducible refine ec_max2 ?_
  | with_reducible refine ec_min2 ?_
  | with_reducible refine ip_I ?_
  | ((with_reducible refine eg_name ?_); (try dsimp only [L2.wipe, List.set_cons_zero, List.set_cons_succ]))
  | with_reducible refine eg_sub ?_
  | with_reducible refine egs_cons ?_
  | with_reducible refine egs_nil ?_
  | with_reducible refine tru_bl ?_
  | with_reducible refine tru_int ?_
  | with_reducible refine tru_non ?_
  | with_reducible refine iteT ?_
  | with_reducible refine iteF ?_
  | with_reducible refine ite_nt ?_
  | with_reducible refine ite_nf ?_
  | with_reducible refine ⟨_, rfl, ?_⟩)
local macro_rules | `(tactic| k_extra "s") => `(tactic| ((first | k_extra "x1" | ((with_reducible refine es_unf ?_); refine es_seq ?_)); (repeat k_extra "x1")))
local macro_rules | `(tactic| k_extra "x") => `(tactic| (repeat first | k_extra "x1" | ((with_reducible refine es_unf ?_); refine es_seq ?_)))
local macro_rules | `(tactic| k_extra "start") => `(tactic| dsimp only [L2.start, List.map_cons, List.map_nil, List.length_cons, List.length_nil, Nat.reduceAdd, Nat.reduceSub, List.replicate, List.cons_append, List.nil_append, Nat.zero_add])
local macro_rules | `(tactic| k_extra "e1") => `(tactic| first
  | with_reducible refine es_next ?_
  | ((with_reducible show Ee (tVar _) _ _ _); refine ee_var rfl ?_)
  | with_reducible refine ee_c ?_
  | with_reducible refine ee_op ?_
  | with_reducible refine ee_un ?_
  | with_reducible refine eu_neg ?_
  | with_reducible refine ee_cb ?_
  | with_reducible refine ee_call ?_
  | with_reducible refine ea_nil ?_
  | with_reducible refine ea_cons ?_
  | with_reducible refine ee_sl ?_
  | with_reducible refine eo_no ?_
  | with_reducible refine eo_part ?_
  | with_reducible refine ee_tup ?_
  | with_reducible refine ee_lst ?_
  | with_reducible refine et_test ?_
  | with_reducible refine et_tB ?_
  | with_reducible refine et_tru ?_
  | with_reducible refine et_and ?_
  | with_reducible refine et_or ?_
  | with_reducible refine et_not ?_
  | with_reducible refine ee_and ?_
  | with_reducible refine ee_or ?_
  | with_reducible refine ee_not ?_
  | with_reducible refine ee_if ?_
  | with_reducible refine ee_chain ?_
  | with_reducible refine er_addI ?_
  | with_reducible refine er_subI ?_
  | with_reducible refine er_eqI ?_
  | with_reducible refine er_neI ?_
  | with_reducible refine er_eqNI ?_
  | with_reducible refine er_eqS ?_
  | with_reducible refine er_neS ?_
  | with_reducible refine er_eqB ?_
  | with_reducible refine er_neB ?_
  | with_reducible refine er_lt ?_
  | with_reducible refine er_le ?_
  | with_reducible refine er_gt ?_
  | with_reducible refine er_ge ?_
  | with_reducible refine er_isN_non ?_
  | with_reducible refine er_isN_bl ?_
  | with_reducible refine er_isN_int ?_
  | with_reducible refine er_isN_str ?_
  | with_reducible refine er_isN_ref ?_
  | with_reducible refine er_notN_non ?_
  | with_reducible refine er_notN_bl ?_
  | with_reducible refine er_notN_int ?_
  | with_reducible refine er_notN_str ?_
  | with_reducible refine er_notN_ref ?_
  | with_reducible refine er_isN ?_
  | with_reducible refine er_notN ?_
  | with_reducible refine ec_int ?_
  | with_reducible refine ec_intB ?_
  | with_reducible refine ec_max2 ?_
  | with_reducible refine ec_min2 ?_
  | with_reducible refine ip_I ?_
  | ((with_reducible refine eg_name ?_); (try dsimp only [L2.wipe, List.set_cons_zero, List.set_cons_succ]))
  | with_reducible refine eg_sub ?_
  | with_reducible refine egs_cons ?_
  | with_reducible refine egs_nil ?_
  | with_reducible refine tru_bl ?_
  | with_reducible refine tru_int ?_
  | with_reducible refine tru_non ?_
  | with_reducible refine iteT ?_
  | with_reducible refine iteF ?_
  | with_reducible refine ite_nt ?_
  | with_reducible refine ite_nf ?_
  | with_reducible refine ex_bl ?_
  | with_reducible refine ex_int ?_
  | with_reducible refine ex_str ?_
  | with_reducible refine ex_strx ?_
  | with_reducible refine ex_ints1 ?_
  | with_reducible refine ex_ints2 ?_)
local macro_rules | `(tactic| k_extra "t1") => `(tactic| first
  | with_reducible refine es_asg ?_
  | with_reducible refine es_if ?_
  | with_reducible refine es_ret ?_
  | with_reducible refine es_drop ?_
  | with_reducible refine es_augS ?_
  | with_reducible refine es_fld ?_)
local macro_rules | `(tactic| k_extra "e") => `(tactic| first
  | ((with_reducible refine es_seq ?_); (try k_extra "t1"); (repeat k_extra "e1"))
  | (k_extra "t1"; (repeat k_extra "e1"))
  | (k_extra "e1"; (repeat k_extra "e1"))
  | ((with_reducible refine es_unf ?_); (refine es_seq ?_); (try k_extra "t1"); (repeat k_extra "e1")))
def S_law (K : PySem.W.Frag) (A : Ad) : Pm := fun vs G Q _ => ∃ (a : Addr) (ns : List Int), vs = [.ref a] ∧ SqL K G a (ns.map V.int) ∧ ns.length ≤ 63 ∧ ∀ G', Q (.bl true) G'
/-! law -/
def t_law_1 (K : PySem.W.Frag) (A : Ad) : TS := tSeq (tAsg (tOp (rAddU K) (tVar 3) (tCall (up (S__law_record K A)) [] E0 (tCons (tVar 5) tNil))) (gName 3)) (tDrop (tBM K "list" (rAppend) (tVar 4) (tCons (tCB (rLenU K) (tCons (tVar 3) tNil)) tNil)))
def t_law_2 (K : PySem.W.Frag) (A : Ad) : TS := tSeq (tIfS (tTest (tOp (rNeU K) (tVar 6) (tVar 5))) (tRet (tC (.bl false))) tNext) (t_law_1 K A)
def t_law_3 (K : PySem.W.Frag) (A : Ad) : TS := tSeq (tIfS (tOr (tNot (tTru K (tCall (up (S__law_same K A)) [] E0 (tCons (tCall (up (S_checksum K A)) [] E0 (tCons (tVar 6) tNil)) (tCons (tCall (up (S__law_checksum K A)) [] E0 (tCons (tVar 5) tNil)) tNil))))) (tNot (tTru K (tCall (up (S__law_same K A)) [] E0 (tCons (tCall (up (S_write_record K A)) [] E0 (tCons (tVar 6) tNil)) (tCons (tCall (up (S__law_record K A)) [] E0 (tCons (tVar 5) tNil)) tNil)))))) (tRet (tC (.bl false))) tNext) (t_law_2 K A)
def t_law_4 (K : PySem.W.Frag) (A : Ad) : TS := tSeq (tAsg (tCB (rListU K) (tCons (tVar 5) tNil)) (gName 6)) (t_law_3 K A)
def t_law_5 (K : PySem.W.Frag) (A : Ad) : TS := tSeq (tAsg (tSl (rSlU K) (tVar 3) tNoPart (tPart (tVar 9))) (gName 6)) (tIfS (tOr (tNot (tTru K (tCall (up (S__law_same K A)) [] E0 (tCons (tCall (up (S_read_records K A)) [] E0 (tCons (tVar 6) tNil)) (tCons (tTup (tCons (tSl (rSlU K) (tVar 2) tNoPart (tPart (tVar 10))) (tCons (tOp (rIx K) (tVar 4) (tVar 10)) tNil))) tNil))))) (tTest (tOp (rNeU K) (tVar 6) (tSl (rSlU K) (tVar 3) tNoPart (tPart (tVar 9)))))) (tRet (tC (.bl false))) tNext)
def t_law_6 (K : PySem.W.Frag) (A : Ad) : TS := tSeq (tAsg (tOp (rSubI) (tCB (rLenU K) (tCons (tLc (iList K (tVar 4)) (gName 11) (tTest (tOp (rLeI) (tVar 11) (tVar 9))) (tVar 11) [11]) tNil)) (tC (.int 1))) (gName 10)) (t_law_5 K A)
def t_law_7 (K : PySem.W.Frag) (A : Ad) : TS := tSeq (tAsg (tCall (up (S__law_next K A)) [] E0 (tCons (tVar 1) (tCons (tOp (rAddU K) (tCB (rLenU K) (tCons (tVar 3) tNil)) (tC (.int 1))) tNil))) (gName 9)) (t_law_6 K A)
def t_law_8 (K : PySem.W.Frag) (A : Ad) : TS := tSeq (tFor (iRng1 (tCons (tC (.int 4)) tNil)) (gName 8) (t_law_7 K A)) (tRet (tAndV (tCall (up (S__law_same K A)) [] E0 (tCons (tCall (up (S_read_records K A)) [] E0 (tCons (tLst tNil) tNil)) (tCons (tTup (tCons (tLst tNil) (tCons (tC (.int 0)) tNil))) tNil))) (tCall (up (S__law_same K A)) [] E0 (tCons (tCall (up (S_write_record K A)) [] E0 (tCons (tLst tNil) tNil)) (tCons (tLst (tCons (tC (.int 0)) (tCons (tC (.int 0)) (tCons (tC (.int 0)) (tCons (tC (.int 0)) (tCons (tC (.int 7)) tNil)))))) tNil)))))
def t_law_9 (K : PySem.W.Frag) (A : Ad) : TS := tSeq (tIfS (tOr (tNot (tTru K (tCall (up (S__law_same K A)) [] E0 (tCons (tCall (up (S_read_records K A)) [] E0 (tCons (tVar 6) tNil)) (tCons (tTup (tCons (tVar 2) (tCons (tCB (rLenU K) (tCons (tVar 3) tNil)) tNil))) tNil))))) (tTest (tOp (rNeU K) (tVar 6) (tVar 7)))) (tRet (tC (.bl false))) tNext) (t_law_8 K A)
def t_law_10 (K : PySem.W.Frag) (A : Ad) : TS := tSeq (tAsg (tCB (rListU K) (tCons (tVar 7) tNil)) (gName 6)) (t_law_9 K A)
def t_law_11 (K : PySem.W.Frag) (A : Ad) : TS := tSeq (tAsg (tOp (rAddU K) (tVar 3) (tCall (up (S__law_behind K A)) [] E0 (tCons (tVar 1) tNil))) (gName 7)) (t_law_10 K A)
def t_law_12 (K : PySem.W.Frag) (A : Ad) : TS := tSeq (tFor (iList K (tVar 2)) (gName 5) (t_law_4 K A)) (t_law_11 K A)
def t_law_13 (K : PySem.W.Frag) (A : Ad) : TS := tSeq (tAsg (tLst (tCons (tC (.int 0)) tNil)) (gName 4)) (t_law_12 K A)
def t_law_14 (K : PySem.W.Frag) (A : Ad) : TS := tSeq (tAsg (tLst tNil) (gName 3)) (t_law_13 K A)
def t_law_15 (K : PySem.W.Frag) (A : Ad) : TS := tSeq (tAsg (tLc (iRng1 (tCons (tCall (up (S__law_next K A)) [] E0 (tCons (tVar 1) (tCons (tC (.int 11)) tNil))) tNil)) (gName 8) tYes (tCall (up (S__law_bytes K A)) [] E0 (tCons (tVar 1) tNil)) [8]) (gName 2)) (t_law_14 K A)
def t_law (K : PySem.W.Frag) (A : Ad) : TS := tSeq (tAsg (tLst (tCons (tCall (up (S__law_draws K A)) [] E0 (tCons (tVar 0) tNil)) (tCons (tC (.int 20)) tNil))) (gName 1)) (t_law_15 K A)
theorem len_law {K : PySem.W.Frag} {A : Ad} : ∀ vs G Q E, S_law K A vs G Q E → vs.length = ["script"].length := by
  rintro vs G Q E ⟨a, ns, rfl, _⟩; rfl
/-- the lists of numbers that a list holds -/
inductive Els (F : Hp) : List V → List (List Int) → Prop
  | nil : Els F [] []
  | cons {p : Addr} {d : List Int} {vs : List V} {ds : List (List Int)} : F p = some (.lst (d.map V.int)) → Els F vs ds → Els F (.ref p :: vs) (d :: ds)
theorem Els.up {F G : Hp} (e : Ex F G) : ∀ {vs : List V} {ds : List (List Int)}, Els F vs ds → Els G vs ds
  | _, _, .nil => .nil
  | _, _, .cons h t => .cons (e _ _ h) (Els.up e t)
theorem Els.snoc {F : Hp} {p : Addr} {d : List Int} (h : F p = some (.lst (d.map V.int))) : ∀ {vs : List V} {ds : List (List Int)}, Els F vs ds → Els F (vs ++ [.ref p]) (ds ++ [d])
  | _, _, .nil => .cons h .nil
  | _, _, .cons h' t => .cons h' (Els.snoc h t)
theorem Els.len {F : Hp} : ∀ {vs : List V} {ds : List (List Int)}, Els F vs ds → vs.length = ds.length
  | _, _, .nil => rfl
  | _, _, .cons _ t => by rw [List.length_cons, List.length_cons, Els.len t]
theorem Els.take {F : Hp} : ∀ {vs : List V} {ds : List (List Int)} (n : Nat), Els F vs ds → Els F (vs.take n) (ds.take n)
  | _, _, 0, _ => .nil
  | _, _, n + 1, .nil => .nil
  | _, _, n + 1, .cons h t => .cons h (Els.take n t)
theorem Els.get {F : Hp} : ∀ {vs : List V} {ds : List (List Int)} {i : Nat} {v : V}, Els F vs ds → vs[i]? = some v → ∃ p d, v = .ref p ∧ ds[i]? = some d ∧ F p = some (.lst (d.map V.int))
  | _, _, 0, _, .cons h _, e => by obtain rfl := Option.some.inj e; exact ⟨_, _, rfl, rfl, h⟩
  | _, _, i + 1, _, .cons _ t, e => Els.get (i := i) t e
theorem Els.dps {K : PySem.W.Frag} {F : Hp} : ∀ {vs : List V} {ds : List (List Int)}, Els F vs ds → DpAll K F vs (recD ds)
  | _, _, .nil => .nil
  | _, _, .cons h t => .cons (.lst (SqL.of h) (dps_ints _)) (Els.dps t)
def GoodR (ds : List (List Int)) : Prop := ∀ d ∈ ds, By d ∧ d.length ≤ 2000
theorem rec_depth (ds : List (List Int)) (n : Int) : (PyData.tuple [.list (recD ds), .int n]).depth < 8 := by
  have := dep_il ds
  simp only [PyData.depth, PyData.depthAll, recD]
  omega
theorem Ap.join {T F G : Hp} {L : List Hp} {p : Addr} {o : HO} (ap : Ap (T :: one p o :: F :: L) G) : Ap (T :: upd F p o :: L) G := by
  obtain ⟨e, d⟩ := ap
  rw [List.pairwise_cons, List.pairwise_cons, List.pairwise_cons] at d
  obtain ⟨d1, d2, d3, d4⟩ := d
  have put : ∀ {R : Hp}, Dis F R → Dis (one p o) R → Dis (upd F p o) R := fun {R} x y => x.put (by
    rcases y p with z | z
    · rw [one_at] at z; cases z
    · exact z)
  refine ⟨fun X hX => ?_, ?_⟩
  · rcases List.mem_cons.mp hX with rfl | hX
    · exact e _ (by simp)
    rcases List.mem_cons.mp hX with rfl | hX
    · exact (e F (by simp)).putL (e (one p o) (by simp) _ _ one_at)
    · exact e _ (by simp [hX])
  · rw [List.pairwise_cons, List.pairwise_cons]
    refine ⟨fun X hX => ?_, fun X hX => put (d3 X hX) (d2 X (by simp [hX])), d4⟩
    rcases List.mem_cons.mp hX with rfl | hX
    · exact (put (d1 F (by simp)).symm (d1 _ (by simp)).symm).symm
    · exact d1 X (by simp [hX])
def del (G : Hp) (p : Addr) : Hp := fun b => if b = p then none else G b
theorem Ap.del {G : Hp} {L : List Hp} {p : Addr} {o : HO} (ap : Ap (one p o :: L) G) : Ap L (del G p) := by
  obtain ⟨e, d⟩ := ap
  rw [List.pairwise_cons] at d
  refine ⟨fun F hF b u h => ?_, d.2⟩
  unfold Lw.del
  rw [if_neg]
  · exact e F (List.mem_cons_of_mem _ hF) _ _ h
  · rintro rfl
    rcases d.1 F hF b with z | z
    · rw [one_at] at z; cases z
    · rw [h] at z; cases z
theorem del_ex {G : Hp} {p : Addr} {o : HO} (h : G p = some o) : Ex (upd (del G p) p o) G := fun b u e => by
  by_cases q : b = p
  · subst q; rw [upd_same] at e; cases e; exact h
  · rw [upd_ne q] at e; unfold del at e; rw [if_neg q] at e; exact e
theorem del_at {G : Hp} {p : Addr} : del G p p = none := if_pos rfl
section
variable {K : PySem.W.Frag} {A : Ad} {T G N F H0 : Hp} {L : List Hp} {a0 a l pr pd psz : Addr} {ds : List Int} {i : Int} {Q : V → Hp → Prop} {acc : List V} {rs : List (List Int)} {c5 c6 c7 c8 c9 c10 c11 : Option V}
theorem same_is {E : XK} {p r : Addr} {xs : List Int} (h : SqL K G p (xs.map V.int)) (h' : SqL K G r (xs.map V.int)) (q : Q (.bl true) G) : S__law_same K A [.ref p, .ref r] G Q E :=
  same_call (d := .list (xs.map PyData.int)) (.lst h (dps_ints xs)) (.lst h' (dps_ints xs)) (ints_depth _) q
/-- the end of the law -/
theorem law_tail {D : Ek} {c0 c1 c2 c3 c4 : Option V} (q : ∀ G', D.rt (.bl true) G') : Es (tRet (tAndV (tCall (up (S__law_same K A)) [] E0 (tCons (tCall (up (S_read_records K A)) [] E0 (tCons (tLst tNil) tNil)) (tCons (tTup (tCons (tLst tNil) (tCons (tC (.int 0)) tNil))) tNil))) (tCall (up (S__law_same K A)) [] E0 (tCons (tCall (up (S_write_record K A)) [] E0 (tCons (tLst tNil) tNil)) (tCons (tLst (tCons (tC (.int 0)) (tCons (tC (.int 0)) (tCons (tC (.int 0)) (tCons (tC (.int 0)) (tCons (tC (.int 7)) tNil)))))) tNil)))))
    D [c0, c1, c2, c3, c4, c5, c6, c7, c8, c9, c10, c11] G := by
  k_extra "e"
  refine ⟨Nat.zero_le _, fun p1 hp1 => ?_⟩
  k_extra "e"
  refine ⟨p1, [], [], [], rfl, SqL.of upd_same, rfl, (fun d h => by cases h), Nat.zero_le _, bad_nil, fun G2 t e2 ht => ?_⟩
  k_extra "e"
  refine ⟨Nat.zero_le _, fun p3 hp3 => ?_⟩
  k_extra "e"
  refine ⟨sz1000 (by simp), fun p4 hp4 => ?_⟩
  k_extra "e"
  refine same_call (((Ex.new hp3).trans (Ex.new hp4)).dp ht) (.tup (SqT.of upd_same) (.cons (.lst (SqL.of (get_new upd_same hp4)) .nil) (.cons (.int _) .nil))) (rec_depth [] _) ?_
  k_extra "e"
  refine ⟨Nat.zero_le _, fun p5 hp5 => ?_⟩
  k_extra "e"
  refine ⟨p5, [], rfl, SqL.of upd_same, by decide, fun G6 p6 e6 hp6 => ?_⟩
  k_extra "e"
  refine ⟨sz1000 (by simp), fun p7 hp7 => ?_⟩
  k_extra "e"
  refine same_is (xs := [0, 0, 0, 0, 7]) (SqL.of (get_new upd_same hp7)) (SqL.of upd_same) ?_
  exact q _
/-- at one of four places the records are cut -/
theorem law_cut {D : Ek} {j : Nat} (h : StT T a l ds i) (ap : Ap (T :: N :: one pr (.lst acc) :: F :: []) G) (hF : Els F acc rs) (hg : GoodR rs) (hn : rs.length ≤ 1000) (hN : N pd = some (.lst ((alls rs).map V.int))) (hZ : N psz = some (.lst ((begs 0 rs).map V.int))) (hal : (alls rs).length ≤ 1000000)
    (q : ∀ T' i' c6 c9 c10 c11 G', StT T' a l ds i' → Ap (T' :: N :: one pr (.lst acc) :: F :: []) G' → D.nx [some (.ref a0), some (.ref a), some (.ref pr), some (.ref pd), some (.ref psz), c5, c6, c7, some (.int (j : Nat)), c9, c10, c11] G') :
    Es (t_law_7 K A) D [some (.ref a0), some (.ref a), some (.ref pr), some (.ref pd), some (.ref psz), c5, c6, c7, some (.int (j : Nat)), c9, c10, c11] G := by
  have eN : ∀ {T' : Hp} {M : List Hp} {G' : Hp}, Ap (T' :: M) G' → N ∈ M → G' pd = some (.lst ((alls rs).map V.int)) := fun ap hm => ap.ex N (List.mem_cons_of_mem _ hm) _ _ hN
  have eZ : ∀ {T' : Hp} {M : List Hp} {G' : Hp}, Ap (T' :: M) G' → N ∈ M → G' psz = some (.lst ((begs 0 rs).map V.int)) := fun ap hm => ap.ex N (List.mem_cons_of_mem _ hm) _ _ hZ
  k_extra "e"
  refine ec_lenL (SqL.of (eN ap (by simp))) fun _ => ?_
  rw [List.length_map]
  k_extra "e"
  refine nxA h ap (by omega) fun e i1 he0 he1 h1 ap1 => ?_
  clear ap h
  obtain ⟨e, rfl⟩ := Int.eq_ofNat_of_zero_le he0
  obtain ⟨m, t, hm, hc, ht, hbt⟩ := cut_alls rs 0 e (fun d hd => (hg d hd).2) (by omega)
  rw [Nat.zero_add] at hc
  generalize upd G a (.lst [.ref l, .int i1]) = G1 at ap1 ⊢
  generalize upd T a (.lst [.ref l, .int i1]) = T1 at ap1 h1
  k_extra "e"
  k_extra "e"
  refine ee_lcL ?_
  k_extra "e"
  refine ⟨psz, _, rfl, SqL.of (eZ ap1 (by simp)), fun p hp => ⟨fun k ac G' => Ex G1 G' ∧ G' p = none ∧ ac = (((begs 0 rs).take k).filter fun x => decide (x ≤ (e : Int))).map V.int, ⟨Ex.refl _, hp, rfl⟩, ?_, ?_, ?_⟩⟩
  · rintro k ac G' ⟨x1, x2, rfl⟩
    refine ⟨x2, ?_, SqL.of (x1 _ _ (eZ ap1 (by simp)))⟩
    rw [List.length_map]
    refine szlt (Nat.lt_of_le_of_lt (List.length_filter_le _ _) ?_)
    rw [List.length_take, begs_len]
    omega
  · rintro k ac v G' hv ⟨x1, x2, rfl⟩
    obtain ⟨b, hb, rfl⟩ := get_ints hv
    have e3 := take_next hb
    refine eg_name ⟨rfl, ?_⟩
    dsimp only [L2.wipe, List.set_cons_zero, List.set_cons_succ]
    k_extra "e"
    by_cases hbe : b ≤ (e : Int)
    · rw [decide_eq_true hbe]
      refine iteT ?_
      k_extra "e"
      refine ⟨upd_same, G', Ex.refl _, x1, x2, ?_⟩
      rw [e3, List.filter_append, List.map_append]
      simp [hbe]
    · rw [decide_eq_false hbe]
      refine iteF ⟨upd_same, G', Ex.refl _, x1, x2, ?_⟩
      rw [e3, List.filter_append, List.map_append]
      simp [hbe]
  rintro ac G' ⟨x1, x2, rfl⟩
  rw [List.length_map, List.take_length]
  k_extra "e"
  refine ec_lenL (SqL.of upd_same) fun _ => ?_
  rw [List.length_map, hc]
  have ap2 := ap1.junk (x1.trans (Ex.new (o := .lst (((begs 0 rs).filter fun x => decide (x ≤ (e : Int))).map V.int)) x2))
  generalize upd G' p (.lst (((begs 0 rs).filter fun x => decide (x ≤ (e : Int))).map V.int)) = G2 at ap2 ⊢
  k_extra "e"
  have em : ((m + 1 : Nat) : Int) - 1 = (m : Int) := by omega
  rw [em]
  k_extra "e"
  refine ew_L (SqL.of (eN ap2 (by simp))) fun p6 hp6 => ?_
  rw [cut_toN, map_take, ht]
  have ap3 := ap2.add2 (o := .lst ((alls (rs.take m) ++ t).map V.int)) hp6
  k_extra "e"
  k_extra "e"
  refine ⟨p6, _, rs.take m, t, rfl, SqL.of upd_same, rfl, (fun d hd => (hg d (List.mem_of_mem_take hd)).2), by rw [List.length_take]; omega, hbt, fun G4 pt e4 hpt => ?_⟩
  have ap4 := ap3.junk e4
  have g6 : G4 p6 = some (.lst ((alls (rs.take m) ++ t).map V.int)) := e4 _ _ upd_same
  k_extra "e"
  refine ew_L (SqL.of (ap4.ex (one pr (.lst acc)) (by simp) _ _ one_at)) fun p7 hp7 => ?_
  rw [cut_toN]
  k_extra "e"
  have ap5 := ap4.junk (Ex.new (o := .lst (acc.take m)) hp7)
  refine er_ixL (SqL.of (eZ ap5 (by simp))) (atI_nat (j := m) (by rw [List.getElem?_map, begs_get 0 rs m hm]; rfl)) ?_
  rw [Nat.zero_add]
  k_extra "e"
  refine ⟨sz1000 (by simp), fun p8 hp8 => ?_⟩
  have ap6 := ap5.junk (Ex.new (o := .tup [.ref p7, .int (alls (rs.take m)).length]) hp8)
  k_extra "e"
  refine same_call (((Ex.new hp7).trans (Ex.new hp8)).dp hpt) (.tup (SqT.of upd_same) (.cons (.lst (SqL.of (get_new upd_same hp8)) ((hF.take m).up (ap6.ex F (by simp))).dps) (.cons (.int _) .nil))) (rec_depth _ _) ?_
  k_extra "e"
  refine ew_L (SqL.of (eN ap6 (by simp))) fun p9 hp9 => ?_
  rw [cut_toN, map_take, ht]
  refine er_neIs (SqL.of (get_new (get_new (get_new g6 hp7) hp8) hp9)) (SqL.of upd_same) ?_
  k_extra "e"
  refine iff_ (by simp) ?_
  refine es_next ?_
  exact q _ _ _ _ _ _ _ h1 (ap6.junk (Ex.new hp9) |>.sub (.cons₂ _ (.cons _ (List.Sublist.refl _))))
/-- behind the records -/
theorem law_read (h : StT T a l ds i) (ap : Ap (T :: N :: one pr (.lst acc) :: F :: []) G) (hF : Els F acc rs) (hg : GoodR rs) (hn : rs.length ≤ 1000) (hN : N pd = some (.lst ((alls rs).map V.int))) (hZ : N psz = some (.lst ((begs 0 rs).map V.int))) (hal : (alls rs).length ≤ 1000000)
    (q : ∀ G', Q (.bl true) G') :
    Es (t_law_11 K A) { nx := fun _ G' => Q .non G', rt := Q } [some (.ref a0), some (.ref a), some (.ref pr), some (.ref pd), some (.ref psz), c5, c6, c7, c8, c9, c10, c11] G := by
  have eN : ∀ {T' : Hp} {M : List Hp} {G' : Hp}, Ap (T' :: M) G' → N ∈ M → G' pd = some (.lst ((alls rs).map V.int)) := fun ap hm => ap.ex N (List.mem_cons_of_mem _ hm) _ _ hN
  k_extra "e"
  refine ⟨a, l, ds, i, T, _, rfl, h, ap, fun G1 T1 i1 pt tl h1 ap1 hb hl => ?_⟩
  refine er_addL (eN ap1 (by simp)) (ap1.ex (one pt (.lst (tl.map V.int))) (by simp) _ _ one_at) (by rw [List.length_map, List.length_map]; exact szM (by omega)) fun pw hpw => ?_
  rw [← List.map_append]
  have ap2 := ap1.add2 (o := .lst ((alls rs ++ tl).map V.int)) hpw
  have gw : ∀ {T' : Hp} {M : List Hp} {G' : Hp}, Ap (T' :: M) G' → one pw (.lst ((alls rs ++ tl).map V.int)) ∈ M → G' pw = some (.lst ((alls rs ++ tl).map V.int)) := fun ap hm => ap.ex _ (List.mem_cons_of_mem _ hm) _ _ one_at
  k_extra "e"
  k_extra "e"
  refine ec_list (.inl (SqL.of (gw ap2 (by simp)))) fun p6 hp6 => ?_
  have ap3 := ap2.add2 (o := .lst ((alls rs ++ tl).map V.int)) hp6
  have g6 : ∀ {T' : Hp} {M : List Hp} {G' : Hp}, Ap (T' :: M) G' → one p6 (.lst ((alls rs ++ tl).map V.int)) ∈ M → G' p6 = some (.lst ((alls rs ++ tl).map V.int)) := fun ap hm => ap.ex _ (List.mem_cons_of_mem _ hm) _ _ one_at
  k_extra "e"
  k_extra "e"
  refine ⟨p6, _, rs, tl, rfl, SqL.of upd_same, rfl, (fun d hd => (hg d hd).2), hn, hb, fun G4 t e4 ht => ?_⟩
  have ap4 := ap3.junk e4
  k_extra "e"
  refine ec_lenL (SqL.of (eN ap4 (by simp))) fun _ => ?_
  rw [List.length_map]
  k_extra "e"
  refine ⟨sz1000 (by simp), fun p8 hp8 => ?_⟩
  have ap5 := ap4.junk (Ex.new (o := .tup [.ref pr, .int (alls rs).length]) hp8)
  k_extra "e"
  refine same_call ((Ex.new hp8).dp ht) (.tup (SqT.of upd_same) (.cons (.lst (SqL.of (ap5.ex (one pr (.lst acc)) (by simp) _ _ one_at)) (hF.up (ap5.ex F (by simp))).dps) (.cons (.int _) .nil))) (rec_depth _ _) ?_
  k_extra "e"
  refine er_neIs (SqL.of (g6 ap5 (by simp))) (SqL.of (gw ap5 (by simp))) ?_
  k_extra "e"
  refine iff_ (by simp) ?_
  refine es_next ?_
  have ap6 : Ap (T1 :: N :: one pr (.lst acc) :: F :: []) _ := ap5.sub (.cons₂ _ (.cons _ (.cons _ (.cons _ (List.Sublist.refl _)))))
  clear ap1 ap2 ap3 ap4 ap5
  k_extra "e"
  refine es_forR1 ?_
  k_extra "e"
  refine ⟨by omega, fun j σ G' => ∃ T' i' c6 c8 c9 c10 c11, σ = [some (.ref a0), some (.ref a), some (.ref pr), some (.ref pd), some (.ref psz), c5, c6, some (.ref pw), c8, c9, c10, c11] ∧ StT T' a l ds i' ∧ Ap (T' :: N :: one pr (.lst acc) :: F :: []) G', ⟨T1, i1, _, _, _, _, _, rfl, h1, ap6⟩, ?_, ?_⟩
  · rintro j σ G' hj ⟨T', i', c6, c8, c9, c10, c11, rfl, h', ap'⟩
    exact law_cut h' ap' hF hg hn hN hZ hal fun T' i' c6 c9 c10 c11 G' h ap => ⟨T', i', _, _, _, _, _, rfl, h, ap⟩
  · rintro σ G' ⟨T', i', c6, c8, c9, c10, c11, rfl, h', ap'⟩
    exact law_tail q
end
theorem ok_law {K : PySem.W.Frag} {A : Ad} : ∀ vs G Q E, S_law K A vs G Q E → Es (t_law K A) { nx := fun _ G' => Q .non G', rt := Q } (L2.start ["script", "state", "records", "data", "sizes", "record", "passed", "whole", "k", "end", "count", "size"] vs) G := by
  rintro vs G Q E ⟨a0, ns, rfl, hS, hn, q⟩
  change Es _ _ (_ :: _ :: _ :: _ :: _ :: _ :: _ :: _ :: _ :: _ :: _ :: _ :: []) _
  k_extra "e"
  refine ⟨a0, ns, rfl, hS, fun l ds hl hds => ?_⟩
  k_extra "e"
  refine ⟨sz1000 (by simp), fun a ha => ?_⟩
  have hla : l ≠ a := ne_new upd_same ha
  have hs : StT (upd (upd (fun _ => none) l (.lst (ds.map V.int))) a (.lst [.ref l, .int 20])) a l ds 20 := ⟨upd_same, get_ne upd_same hla, hla, hds, by decide⟩
  have ap : Ap [upd (upd (fun _ => none) l (.lst (ds.map V.int))) a (.lst [.ref l, .int 20])] (upd (upd G l (.lst (ds.map V.int))) a (.lst [.ref l, .int 20])) :=
    ⟨fun F hF => by
      rw [List.mem_singleton] at hF; subst hF
      exact (show Ex (fun _ => none) G from fun _ _ z => by cases z).put.put, List.pairwise_singleton _ _⟩
  generalize upd (upd (fun _ => none) l (.lst (ds.map V.int))) a (.lst [.ref l, .int 20]) = T at hs ap
  generalize upd (upd G l (.lst (ds.map V.int))) a (.lst [.ref l, .int 20]) = G1 at ap ⊢
  k_extra "e"
  k_extra "e"
  refine ee_lcR1 ?_
  k_extra "e"
  refine nxA hs ap (by decide) fun n i1 hn0 hn1 h1 ap1 => ?_
  clear ap hs
  generalize upd G1 a (.lst [.ref l, .int i1]) = G2 at ap1 ⊢
  generalize upd T a (.lst [.ref l, .int i1]) = T1 at ap1 h1
  have ap1 : Ap [T1, fun _ => none] G2 := by
    refine ⟨fun F hF => ?_, List.pairwise_cons.mpr ⟨fun X hX => ?_, List.pairwise_singleton _ _⟩⟩
    · rcases List.mem_cons.mp hF with rfl | hF
      · exact ap1.ex _ (by simp)
      · rw [List.mem_singleton] at hF; subst hF
        exact fun _ _ z => by cases z
    · rw [List.mem_singleton] at hX; subst hX
      exact fun _ => Or.inr rfl
  k_extra "e"
  refine ⟨by omega, fun p hp => ⟨fun j acc G' => ∃ T' i' F rs, StT T' a l ds i' ∧ Ap [T', F] G' ∧ G' p = none ∧ Els F acc rs ∧ rs.length = j ∧ GoodR rs ∧ j ≤ 10, ⟨T1, i1, _, [], h1, ap1, hp, .nil, rfl, (fun d h => by cases h), by decide⟩, ?_, ?_, ?_⟩⟩
  · rintro j acc G' ⟨T', i', F, rs, x1, x2, x3, x4, x5, x6, x7⟩
    exact ⟨x3, by rw [x4.len, x5]; exact szlt (by omega)⟩
  · rintro j acc G' hj ⟨T', i', F, rs, x1, x2, x3, x4, x5, x6, x7⟩
    refine ⟨rfl, et_yes ?_⟩
    refine iteT ?_
    dsimp only [L2.wipe, List.set_cons_zero, List.set_cons_succ]
    k_extra "e"
    refine ⟨a, l, ds, i', T', _, rfl, x1, x2.add2 (o := .lst acc) x3, fun G4 T4 i4 r d y1 y2 y3 y4 => ?_⟩
    have y2' : Ap (one p (.lst acc) :: T4 :: one r (.lst (d.map V.int)) :: F :: []) G4 := y2.perm (List.perm_middle (l₁ := [T4, one r (.lst (d.map V.int))]) (a := one p (.lst acc)) (l₂ := [F])).symm
    refine ⟨y2'.ex _ (by simp) _ _ one_at, del G4 p, del_ex (y2'.ex (one p (.lst acc)) (by simp) _ _ one_at), T4, i4, upd F r (.lst (d.map V.int)), rs ++ [d], y1, y2'.del.join, del_at, ?_, by rw [List.length_append, x5]; rfl, ?_, by omega⟩
    · have hr : F r = none := by
        have := y2'.dis
        rw [List.pairwise_cons, List.pairwise_cons, List.pairwise_cons] at this
        rcases this.2.2.1 F (by simp) r with z | z
        · rw [one_at] at z; cases z
        · exact z
      exact Els.snoc upd_same (x4.up (Ex.new hr))
    · intro x hx
      rcases List.mem_append.mp hx with hx | hx
      · exact x6 x hx
      · rw [List.mem_singleton] at hx; subst hx; exact ⟨y3, y4⟩
  rintro acc G3 ⟨T3, i3, F, rs, h3, ap3, hp3, hE, hlen, hg, hle⟩
  have ap4 := ap3.add2 (o := .lst acc) hp3
  generalize hG4 : upd G3 p (.lst acc) = G4 at ap4 ⊢
  have gp : G4 p = some (.lst acc) := by rw [← hG4]; exact upd_same
  have hE4 := hE.up (ap4.ex F (by simp))
  clear ap3 h1 ap1
  k_extra "e"
  k_extra "e"
  refine ⟨Nat.zero_le _, fun pd0 hpd0 => ?_⟩
  k_extra "e"
  k_extra "e"
  refine ⟨sz1000 (by simp), fun psz hpsz => ?_⟩
  have hz4 : G4 psz = none := nul_upd hpsz
  k_extra "e"
  k_extra "e"
  refine es_forL ?_
  k_extra "e"
  have hal : ∀ j, j ≤ rs.length → (alls (rs.take j)).length ≤ 3000 * j := by
    intro j
    induction j with
    | zero => intro _; simp [alls]
    | succ m ih =>
      intro hm
      have hd : rs[m]? = some rs[m] := List.getElem?_eq_getElem (by omega)
      rw [take_next hd, alls_snoc, List.length_append, rcd_len]
      have := ih (by omega)
      have := (hg _ (List.mem_of_getElem? hd)).2
      have := num_le (rs[m]).length
      omega
  refine ⟨p, acc, rfl, SqL.of (get_new (get_new gp hpd0) hpsz), fun j σ G' => ∃ pd c5 c6, σ = [some (.ref a0), some (.ref a), some (.ref p), some (.ref pd), some (.ref psz), c5, c6, none, none, none, none, none] ∧ Ex G4 G' ∧ G4 pd = none ∧ pd ≠ psz ∧ G' pd = some (.lst ((alls (rs.take j)).map V.int)) ∧ G' psz = some (.lst ((begs 0 (rs.take j)).map V.int)), ?_, ?_, ?_, ?_⟩
  · exact ⟨pd0, _, _, rfl, (Ex.new hpd0).trans (Ex.new hpsz), hpd0, ne_new upd_same hpsz, get_new upd_same hpsz, upd_same⟩
  · rintro j σ G' ⟨pd, c5, c6, rfl, x1, x2, x3, x4, x5⟩
    exact SqL.of (x1 _ _ gp)
  · rintro j v σ G' hv ⟨pd, c5, c6, rfl, x1, x2, x3, x4, x5⟩
    obtain ⟨r, d, rfl, hd, hr⟩ := hE4.get hv
    have hdg := hg d (List.mem_of_getElem? hd)
    have hj : j < rs.length := (List.getElem?_eq_some_iff.mp hd).1
    k_extra "e"
    k_extra "e"
    refine ec_list (.inl (SqL.of (x1 _ _ hr))) fun p6 hp6 => ?_
    have e6 := Ex.new (o := .lst (d.map V.int)) hp6
    k_extra "e"
    k_extra "e"
    refine ⟨p6, d, rfl, SqL.of upd_same, ?_⟩
    k_extra "e"
    refine ⟨r, d, rfl, (x1.trans e6).sl (SqL.of hr), ?_⟩
    k_extra "e"
    refine same_call (.int _) (.int _) (int_depth _) ?_
    k_extra "e"
    refine ⟨p6, d, rfl, SqL.of upd_same, by omega, fun G7 p7 e7 hp7 => ?_⟩
    k_extra "e"
    have e8 := e7.trans (Ex.new (o := .lst ((rcd d).map V.int)) hp7)
    refine ⟨r, d, rfl, (x1.trans (e6.trans e8)) _ _ hr, by omega, fun G9 p9 e9 hp9 => ?_⟩
    k_extra "e"
    refine same_is (SqL.of (get_new (e9 _ _ upd_same) hp9)) (SqL.of upd_same) ?_
    have e10 := e8.trans (e9.trans (Ex.new (o := .lst ((rcd d).map V.int)) hp9))
    generalize upd G9 p9 (.lst ((rcd d).map V.int)) = G10 at e10 ⊢
    k_extra "e"
    k_extra "e"
    refine er_neIs (SqL.of (e10 _ _ upd_same)) (SqL.of ((x1.trans (e6.trans e10)) _ _ hr)) ?_
    k_extra "e"
    refine iff_ (by simp) ?_
    refine es_next ?_
    k_extra "e"
    refine ⟨r, d, rfl, (x1.trans (e6.trans e10)) _ _ hr, by omega, fun G11 p11 e11 hp11 => ?_⟩
    have e12 := (e6.trans e10).trans (e11.trans (Ex.new (o := .lst ((rcd d).map V.int)) hp11))
    have hlj := hal j (by omega)
    have hnl := num_le d.length
    have hrl := rcd_len d
    refine er_addL (e12 _ _ x4) upd_same (by rw [List.length_map, List.length_map]; exact szM (by omega)) fun p12 hp12 => ?_
    rw [← List.map_append, ← alls_snoc, ← take_next hd]
    have e13 := e12.trans (Ex.new (o := .lst ((alls (rs.take (j + 1))).map V.int)) hp12)
    have h12 : p12 ≠ psz := new_ne (e12 _ _ x5) hp12
    k_extra "e"
    k_extra "e"
    refine ee_bm ?_
    k_extra "e"
    refine ⟨ty_lst (e13 _ _ x5), ?_⟩
    k_extra "e"
    refine ec_lenL (SqL.of upd_same) fun _ => ?_
    rw [List.length_map]
    k_extra "e"
    refine em_append (e13 _ _ x5) (by rw [List.length_map, begs_len, List.length_take]; exact szlt (by omega)) ?_
    refine ⟨p12, _, _, rfl, (x1.trans e13).mut hz4, ?_, h12, get_ne upd_same h12, ?_⟩
    · exact (x1.trans e12).nul hp12
    · rw [upd_same, take_next hd, begs_snoc, List.map_append, Nat.zero_add]; rfl
  · rintro σ G' ⟨pd, c5, c6, rfl, x1, x2, x3, x4, x5⟩
    have hl : acc.length = rs.length := hE.len
    rw [hl, List.take_length] at x4 x5
    have ap5 := ap4.grab x1
    have hh := hal rs.length (Nat.le_refl _)
    rw [List.take_length] at hh
    exact law_read h3 ap5 hE hg (by omega) (newp_get x2 x4) (newp_get hz4 x5) (by omega) q
end Lw

namespace Lw
open PySem PySem.Spec PyProof.Rows L2
local macro_rules | `(tactic| k_extra "x1") => `(tactic| first
  | with_reducible refine es_seq ?_
  | with_reducible refine es_asg ?_
  | with_reducible refine es_if ?_
  | with_reducible refine es_ret ?_
  | with_reducible refine es_drop ?_
  | with_reducible refine es_next ?_
  | with_reducible refine es_augS ?_
  | with_reducible refine es_fld ?_
  | ((with_reducible show Ee (tVar _) _ _ _); refine ee_var rfl ?_)
  | with_reducible refine ee_c ?_
  | with_reducible refine ee_op ?_
  | with_reducible refine ee_un ?_
  | with_reducible refine eu_neg ?_
  | with_reducible refine ee_cb ?_
  | with_reducible refine ee_call ?_
  | with_reducible refine ea_nil ?_
  | with_reducible refine ea_cons ?_
  | with_reducible refine ee_sl ?_
  | with_reducible refine eo_no ?_
  | with_reducible refine eo_part ?_
  | with_reducible refine ee_tup ?_
  | with_reducible refine ee_lst ?_
  | with_reducible refine et_test ?_
  | with_reducible refine et_tB ?_
  | with_reducible refine et_tru ?_
  | with_reducible refine et_and ?_
  | with_reducible refine et_or ?_
  | with_reducible refine et_not ?_
  | with_reducible refine ee_and ?_
  | with_reducible refine ee_or ?_
  | with_reducible refine ee_not ?_
  | with_reducible refine ee_if ?_
  | with_reducible refine ee_chain ?_
  | with_reducible refine er_addI ?_
  | with_reducible refine er_subI ?_
  | with_reducible refine er_eqI ?_
  | with_reducible refine er_neI ?_
  | with_reducible refine er_eqNI ?_
  | with_reducible refine er_eqS ?_
  | with_reducible refine er_neS ?_
  | with_reducible refine er_eqB ?_
  | with_reducible refine er_neB ?_
  | with_reducible refine er_lt ?_
  | with_reducible refine er_le ?_
  | with_reducible refine er_gt ?_
  | with_reducible refine er_ge ?_
  | with_reducible refine er_isN_non ?_
  | with_reducible refine er_isN_bl ?_
  | with_reducible refine er_isN_int ?_
  | with_reducible refine er_isN_str ?_
  | with_reducible refine er_isN_ref ?_
  | with_reducible refine er_notN_non ?_
  | with_reducible refine er_notN_bl ?_
  | with_reducible refine er_notN_int ?_
  | with_reducible refine er_notN_str ?_
  | with_reducible refine er_notN_ref ?_
  | with_reducible refine er_isN ?_
  | with_reducible refine er_notN ?_
  | with_reducible refine ec_int ?_
  | with_reducible refine ec_intB ?_
  | with_reducible refine ec_max2 ?_
  | with_reducible refine ec_min2 ?_
  | with_reducible refine ip_I ?_
  | ((with_reducible refine eg_name ?_); (try dsimp only [L2.wipe, List.set_cons_zero, List.set_cons_succ]))
  | with_reducible refine eg_sub ?_
  | with_reducible refine egs_cons ?_
  | with_reducible refine egs_nil ?_
  | with_reducible refine tru_bl ?_
  | with_reducible refine tru_int ?_
  | with_reducible refine tru_non ?_
  | with_reducible refine iteT ?_
  | with_reducible refine iteF ?_
  | with_reducible refine ite_nt ?_
  | with_reducible refine ite_nf ?_
  | with_reducible refine ⟨_, rfl, ?_⟩)
local macro_rules | `(tactic| k_extra "s") => `(tactic| ((first | k_extra "x1" | ((with_reducible refine es_unf ?_); refine es_seq ?_)); (repeat k_extra "x1")))
local macro_rules | `(tactic| k_extra "x") => `(tactic| (repeat first | k_extra "x1" | ((with_reducible refine es_unf ?_); refine es_seq ?_)))
local macro_rules | `(tactic| k_extra "start") => `(tactic| dsimp only [L2.start, List.map_cons, List.map_nil, List.length_cons, List.length_nil, Nat.reduceAdd, Nat.reduceSub, List.replicate, List.cons_append, List.nil_append, Nat.zero_add])
local macro_rules | `(tactic| k_extra "e1") => `(tactic| first
  | with_reducible refine es_next ?_
  | ((with_reducible show Ee (tVar _) _ _ _); refine ee_var rfl ?_)
  | with_reducible refine ee_c ?_
  | with_reducible refine ee_op ?_
  | with_reducible refine ee_un ?_
  | with_reducible refine eu_neg ?_
  | with_reducible refine ee_cb ?_
  | with_reducible refine ee_call ?_
  | with_reducible refine ea_nil ?_
  | with_reducible refine ea_cons ?_
  | with_reducible refine ee_sl ?_
  | with_reducible refine eo_no ?_
  | with_reducible refine eo_part ?_
  | with_reducible refine ee_tup ?_
  | with_reducible refine ee_lst ?_
  | with_reducible refine et_test ?_
  | with_reducible refine et_tB ?_
  | with_reducible refine et_tru ?_
  | with_reducible refine et_and ?_
  | with_reducible refine et_or ?_
  | with_reducible refine et_not ?_
  | with_reducible refine ee_and ?_
  | with_reducible refine ee_or ?_
  | with_reducible refine ee_not ?_
  | with_reducible refine ee_if ?_
  | with_reducible refine ee_chain ?_
  | with_reducible refine er_addI ?_
  | with_reducible refine er_subI ?_
  | with_reducible refine er_eqI ?_
  | with_reducible refine er_neI ?_
  | with_reducible refine er_eqNI ?_
  | with_reducible refine er_eqS ?_
  | with_reducible refine er_neS ?_
  | with_reducible refine er_eqB ?_
  | with_reducible refine er_neB ?_
  | with_reducible refine er_lt ?_
  | with_reducible refine er_le ?_
  | with_reducible refine er_gt ?_
  | with_reducible refine er_ge ?_
  | with_reducible refine er_isN_non ?_
  | with_reducible refine er_isN_bl ?_
  | with_reducible refine er_isN_int ?_
  | with_reducible refine er_isN_str ?_
  | with_reducible refine er_isN_ref ?_
  | with_reducible refine er_notN_non ?_
  | with_reducible refine er_notN_bl ?_
  | with_reducible refine er_notN_int ?_
  | with_reducible refine er_notN_str ?_
  | with_reducible refine er_notN_ref ?_
  | with_reducible refine er_isN ?_
  | with_reducible refine er_notN ?_
  | with_reducible refine ec_int ?_
  | with_reducible refine ec_intB ?_
  | with_reducible refine ec_max2 ?_
  | with_reducible refine ec_min2 ?_
  | with_reducible refine ip_I ?_
  | ((with_reducible refine eg_name ?_); (try dsimp only [L2.wipe, List.set_cons_zero, List.set_cons_succ]))
  | with_reducible refine eg_sub ?_
  | with_reducible refine egs_cons ?_
  | with_reducible refine egs_nil ?_
  | with_reducible refine tru_bl ?_
  | with_reducible refine tru_int ?_
  | with_reducible refine tru_non ?_
  | with_reducible refine iteT ?_
  | with_reducible refine iteF ?_
  | with_reducible refine ite_nt ?_
  | with_reducible refine ite_nf ?_
  | with_reducible refine ex_bl ?_
  | with_reducible refine ex_int ?_
  | with_reducible refine ex_str ?_
  | with_reducible refine ex_strx ?_
  | with_reducible refine ex_ints1 ?_
  | with_reducible refine ex_ints2 ?_)
local macro_rules | `(tactic| k_extra "t1") => `(tactic| first
  | with_reducible refine es_asg ?_
  | with_reducible refine es_if ?_
  | with_reducible refine es_ret ?_
  | with_reducible refine es_drop ?_
  | with_reducible refine es_augS ?_
  | with_reducible refine es_fld ?_)
local macro_rules | `(tactic| k_extra "e") => `(tactic| first
  | ((with_reducible refine es_seq ?_); (try k_extra "t1"); (repeat k_extra "e1"))
  | (k_extra "t1"; (repeat k_extra "e1"))
  | (k_extra "e1"; (repeat k_extra "e1"))
  | ((with_reducible refine es_unf ?_); (refine es_seq ?_); (try k_extra "t1"); (repeat k_extra "e1")))
def topS (i : Nat) : Stmt := PySem.Challenge.pw_samemeant_k11_records.main.body.getD i (.Pass ⟨0, 0, 0, 0⟩)
abbrev s_Reader_init : Stmt := inClass (topS 6) 0
theorem sc_Reader_init : FnScope ["self", "data"] ["self", "data"] (defScope s_Reader_init) := ⟨rfl, rfl, rfl, by decide +kernel, rfl, by decide +kernel, by decide +kernel⟩
abbrev s_Reader_read_byte : Stmt := inClass (topS 6) 1
theorem sc_Reader_read_byte : FnScope ["self"] ["self"] (defScope s_Reader_read_byte) := ⟨rfl, rfl, rfl, by decide +kernel, rfl, by decide +kernel, by decide +kernel⟩
abbrev s_Reader_read_number : Stmt := inClass (topS 6) 4
theorem sc_Reader_read_number : FnScope ["self", "total", "factor", "index", "byte"] ["self"] (defScope s_Reader_read_number) := ⟨rfl, rfl, rfl, by decide +kernel, rfl, by decide +kernel, by decide +kernel⟩
abbrev s_write_number : Stmt := topS 8
theorem sc_write_number : FnScope ["number", "data"] ["number"] (defScope s_write_number) := ⟨rfl, rfl, rfl, by decide +kernel, rfl, by decide +kernel, by decide +kernel⟩
abbrev s_checksum : Stmt := topS 11
theorem sc_checksum : FnScope ["data", "total", "byte"] ["data"] (defScope s_checksum) := ⟨rfl, rfl, rfl, by decide +kernel, rfl, by decide +kernel, by decide +kernel⟩
abbrev s_write_record : Stmt := topS 12
theorem sc_write_record : FnScope ["data", "total", "tail"] ["data"] (defScope s_write_record) := ⟨rfl, rfl, rfl, by decide +kernel, rfl, by decide +kernel, by decide +kernel⟩
abbrev s__read_size : Stmt := topS 13
theorem sc__read_size : FnScope ["data", "start", "reader", "size"] ["data", "start"] (defScope s__read_size) := ⟨rfl, rfl, rfl, by decide +kernel, rfl, by decide +kernel, by decide +kernel⟩
abbrev s_read_records : Stmt := topS 14
theorem sc_read_records : FnScope ["data", "records", "start", "found", "begin", "size", "record", "end"] ["data"] (defScope s_read_records) := ⟨rfl, rfl, rfl, by decide +kernel, rfl, by decide +kernel, by decide +kernel⟩
abbrev s__law_mix : Stmt := topS 16
theorem sc__law_mix : FnScope ["cell", "k", "value"] ["cell", "k"] (defScope s__law_mix) := ⟨rfl, rfl, rfl, by decide +kernel, rfl, by decide +kernel, by decide +kernel⟩
abbrev s__law_draws : Stmt := topS 17
theorem sc__law_draws : FnScope ["script", "draws", "k", "cell", "place"] ["script"] (defScope s__law_draws) := ⟨rfl, rfl, rfl, by decide +kernel, rfl, by decide +kernel, by decide +kernel⟩
abbrev s__law_at : Stmt := topS 18
theorem sc__law_at : FnScope ["draws", "index"] ["draws", "index"] (defScope s__law_at) := ⟨rfl, rfl, rfl, by decide +kernel, rfl, by decide +kernel, by decide +kernel⟩
abbrev s__law_is_integer : Stmt := topS 19
theorem sc__law_is_integer : FnScope ["actual"] ["actual"] (defScope s__law_is_integer) := ⟨rfl, rfl, rfl, by decide +kernel, rfl, by decide +kernel, by decide +kernel⟩
abbrev s__law_same : Stmt := topS 20
theorem sc__law_same : FnScope ["actual", "expected", "k"] ["actual", "expected"] (defScope s__law_same) := ⟨rfl, rfl, rfl, by decide +kernel, rfl, by decide +kernel, by decide +kernel⟩
abbrev s__law_next : Stmt := topS 21
theorem sc__law_next : FnScope ["state", "limit"] ["state", "limit"] (defScope s__law_next) := ⟨rfl, rfl, rfl, by decide +kernel, rfl, by decide +kernel, by decide +kernel⟩
abbrev s__law_number : Stmt := topS 22
theorem sc__law_number : FnScope ["number", "data"] ["number"] (defScope s__law_number) := ⟨rfl, rfl, rfl, by decide +kernel, rfl, by decide +kernel, by decide +kernel⟩
abbrev s__law_checksum : Stmt := topS 23
theorem sc__law_checksum : FnScope ["data", "total", "byte"] ["data"] (defScope s__law_checksum) := ⟨rfl, rfl, rfl, by decide +kernel, rfl, by decide +kernel, by decide +kernel⟩
abbrev s__law_record : Stmt := topS 24
theorem sc__law_record : FnScope ["data", "total"] ["data"] (defScope s__law_record) := ⟨rfl, rfl, rfl, by decide +kernel, rfl, by decide +kernel, by decide +kernel⟩
abbrev s__law_bytes : Stmt := topS 25
theorem sc__law_bytes : FnScope ["state", "count", "pick", "start", "k"] ["state"] (defScope s__law_bytes) := ⟨rfl, rfl, rfl, by decide +kernel, rfl, by decide +kernel, by decide +kernel⟩
abbrev s__law_behind : Stmt := topS 26
theorem sc__law_behind : FnScope ["state", "data", "record", "further", "pick", "at", "size", "needless"] ["state"] (defScope s__law_behind) := ⟨rfl, rfl, rfl, by decide +kernel, rfl, by decide +kernel, by decide +kernel⟩
abbrev s_law : Stmt := topS 27
theorem sc_law : FnScope ["script", "state", "records", "data", "sizes", "record", "passed", "whole", "k", "end", "count", "size"] ["script"] (defScope s_law) := ⟨rfl, rfl, rfl, by decide +kernel, rfl, by decide +kernel, by decide +kernel⟩
structure Facts (K : PySem.W.Frag) (mg : Str → Option Value) (A : Ad) : Prop where
  cf : Cf K A
  f_Reader_init : FndI K A.cReader "Reader.__init__" s_Reader_init
  f_Reader_read_byte : FndM K A.cReader "read_byte" "Reader.read_byte" s_Reader_read_byte
  f_Reader_read_number : FndM K A.cReader "read_number" "Reader.read_number" s_Reader_read_number
  f_write_number : Fnd K mg "write_number" s_write_number
  f_checksum : Fnd K mg "checksum" s_checksum
  f_write_record : Fnd K mg "write_record" s_write_record
  f__read_size : Fnd K mg "_read_size" s__read_size
  f_read_records : Fnd K mg "read_records" s_read_records
  f__law_mix : Fnd K mg "_law_mix" s__law_mix
  f__law_draws : Fnd K mg "_law_draws" s__law_draws
  f__law_at : Fnd K mg "_law_at" s__law_at
  f__law_is_integer : Fnd K mg "_law_is_integer" s__law_is_integer
  f__law_same : Fnd K mg "_law_same" s__law_same
  f__law_next : Fnd K mg "_law_next" s__law_next
  f__law_number : Fnd K mg "_law_number" s__law_number
  f__law_checksum : Fnd K mg "_law_checksum" s__law_checksum
  f__law_record : Fnd K mg "_law_record" s__law_record
  f__law_bytes : Fnd K mg "_law_bytes" s__law_bytes
  f__law_behind : Fnd K mg "_law_behind" s__law_behind
  f_law : Fnd K mg "law" s_law
  b_bool : mg "bool" = none
  b_int : mg "int" = none
  b_isinstance : mg "isinstance" = none
  b_len : mg "len" = none
  b_list : mg "list" = none
  b_min : mg "min" = none
  b_range : mg "range" = none
  b_str : mg "str" = none
  b_tuple : mg "tuple" = none
  c_CHECKSUM_LIMIT : ∃ u, RelV (.int 4294967296) u ∧ mg "CHECKSUM_LIMIT" = some u
  c_NUMBER_BYTES : ∃ u, RelV (.int 60) u ∧ mg "NUMBER_BYTES" = some u
  g_Reader : mg "Reader" = some (.ref A.cReader)
  g_DamagedPacket : mg "DamagedPacket" = some (.ref A.cDamagedPacket)
section
variable {P : Program} {w : World} {K : PySem.W.Frag} {mg : Str → Option Value} {base : Heap} {A : Ad}
theorem has_Reader_init (Z : Facts K mg A) : HasI P w K mg base CX0 1 A.cReader ["self", "data"] (up (S_Reader_init K A)) :=
  HasI.mk0 (t := t_Reader_init K A) Z.f_Reader_init sc_Reader_init (fun _ _ _ _ _ _ us hl => match us, hl with | [_, _], _ => rfl) len_Reader_init
    (fun f cdv A0 outer s H E hr => (pss_cons (ps_fld (pv 0) (pe_callTy call_listU (by rfl) Z.b_list (by decide +kernel) (pa_cons (pv 1) pa_nil)) rfl) (pss_one (ps_fld (pv 0) pe_int rfl))))
    (ok_Reader_init Z.cf)
theorem has_Reader_read_byte (Z : Facts K mg A) : HasM P w K mg base (L2.CX P w) 1 A.cReader "read_byte" ["self"] (up (S_Reader_read_byte K A)) :=
  HasM.mkX (t := t_Reader_read_byte K A) Z.f_Reader_read_byte sc_Reader_read_byte (fun _ _ _ _ _ _ us hl => match us, hl with | [_], _ => rfl) len_Reader_read_byte
    (fun f cdv A0 outer s H E hr => (pss_cons (ps_if (pt_cmpR op_geU (pe_fld (pv 0) rfl) (pe_callB call_lenU (by rfl) Z.b_len (by decide +kernel) (pa_cons (pe_fld (pv 0) rfl) pa_nil)) (nomark _)) (pss_one (ps_rz rfl Z.cf.xc Z.g_DamagedPacket (takes_of rfl rfl rfl rfl) (by rfl))) pss_nil) (pss_cons (ps_fldaug (pv 0) pe_int ip_add) (pss_one (ps_ret (pe_ix ix_seq (pe_fld (pv 0) rfl) (pe_op op_subI (pe_fld (pv 0) rfl) pe_int) (fun _ _ => rfl)))))))
    (ok_Reader_read_byte Z.cf) mon_Reader_read_byte
theorem has_Reader_read_number (Z : Facts K mg A) : HasM P w K mg base (L2.CX P w) 2 A.cReader "read_number" ["self"] (up (S_Reader_read_number K A)) :=
  HasM.mkX (t := t_Reader_read_number K A) Z.f_Reader_read_number sc_Reader_read_number (fun _ _ _ _ _ _ us hl => match us, hl with | [_], _ => rfl) len_Reader_read_number
    (fun f cdv A0 outer s H E hr => (pss_cons (ps_set (i := 1) sc_Reader_read_number.nd rfl (by first | exact Or.inl rfl | exact Or.inr rfl) pe_int) (pss_cons (ps_set (i := 2) sc_Reader_read_number.nd rfl (by first | exact Or.inl rfl | exact Or.inr rfl) pe_int) (pss_cons (ps_for (passes_of rfl) rfl (pi_range1 (by rfl) Z.b_range (pa_cons (pe_globE rfl Z.c_NUMBER_BYTES) pa_nil)) (pg_name (i := 3) sc_Reader_read_number.nd rfl (by first | exact Or.inl rfl | exact Or.inr rfl)) (pss_cons (ps_set (i := 4) sc_Reader_read_number.nd rfl (by first | exact Or.inl rfl | exact Or.inr rfl) (pe_methH0 (pv 0) Z.cf.cl (has_Reader_read_byte Z) (hr.mono (by decide)) (pass_own (takes_of rfl rfl rfl rfl)))) (pss_cons (ps_aug (i := 1) sc_Reader_read_number.nd rfl (by first | exact Or.inl rfl | exact Or.inr rfl) (pe_op op_mulU (pe_op op_modU (pv 4) pe_int) (pv 2)) ip_add) (pss_cons (ps_if (pt_cmpR (op_ltU (rm0 hr)) (pv 4) pe_int (nomark _)) (pss_cons (ps_if (PW.pt (pw_and (pt_cmpR (op_eqU (rm64 hr)) (pv 4) pe_int (nomark _)) (pw_and1 (pt_cmpR op_gtU (pv 3) pe_int (nomark _))))) (pss_one (ps_rz rfl Z.cf.xc Z.g_DamagedPacket (takes_of rfl rfl rfl rfl) (by rfl))) pss_nil) (pss_one (ps_ret (pv 1)))) pss_nil) (pss_one (ps_set (i := 2) sc_Reader_read_number.nd rfl (by first | exact Or.inl rfl | exact Or.inr rfl) (pe_op op_mulU (pv 2) pe_int))))))) (pss_one (ps_rz rfl Z.cf.xc Z.g_DamagedPacket (takes_of rfl rfl rfl rfl) (by rfl)))))))
    (ok_Reader_read_number Z.cf) mon_Reader_read_number
theorem has_write_number (Z : Facts K mg A) : Has P w K mg base CX0 1 "write_number" ["number"] (up (S_write_number K A)) :=
  Has.mk0 (t := t_write_number K A) Z.f_write_number sc_write_number (fun _ _ _ _ _ _ us hl => match us, hl with | [_], _ => rfl) len_write_number
    (fun f cdv A0 outer s H E hr => (pss_cons (ps_set (i := 1) sc_write_number.nd rfl (by first | exact Or.inl rfl | exact Or.inr rfl) (pe_lst pa_nil)) (pss_cons (ps_while PassesOwn.never (pt_cmpR op_geU (pv 0) pe_int (nomark _)) (pss_cons (ps_expr (pe_bm PySem.F.plainAttrs_list PySem.F.slot_list_append PySem.F.type_list_append mt_append (pv 1) (pa_cons (pe_op op_addU (pe_op op_modU (pv 0) pe_int) pe_int) pa_nil))) (pss_one (ps_set (i := 0) sc_write_number.nd rfl (by first | exact Or.inl rfl | exact Or.inr rfl) (pe_op op_divU (pv 0) pe_int))))) (pss_one (ps_ret (pe_op op_addU (pv 1) (pe_lst (pa_cons (pv 0) pa_nil))))))))
    ok_write_number
theorem has_checksum (Z : Facts K mg A) : Has P w K mg base CX0 1 "checksum" ["data"] (up (S_checksum K A)) :=
  Has.mk0 (t := t_checksum K A) Z.f_checksum sc_checksum (fun _ _ _ _ _ _ us hl => match us, hl with | [_], _ => rfl) len_checksum
    (fun f cdv A0 outer s H E hr => (pss_cons (ps_set (i := 1) sc_checksum.nd rfl (by first | exact Or.inl rfl | exact Or.inr rfl) pe_int) (pss_cons (ps_for PassesOwn.never rfl (pi_list (pv 0)) (pg_name (i := 2) sc_checksum.nd rfl (by first | exact Or.inl rfl | exact Or.inr rfl)) (pss_one (ps_set (i := 1) sc_checksum.nd rfl (by first | exact Or.inl rfl | exact Or.inr rfl) (pe_op op_modU (pe_op op_addU (pe_op op_addU (pe_op op_mulU pe_int (pv 1)) (pv 2)) pe_int) (pe_globE rfl Z.c_CHECKSUM_LIMIT))))) (pss_one (ps_ret (pv 1))))))
    ok_checksum
theorem has_write_record (Z : Facts K mg A) : Has P w K mg base CX0 2 "write_record" ["data"] (up (S_write_record K A)) :=
  Has.mk0 (t := t_write_record K A) Z.f_write_record sc_write_record (fun _ _ _ _ _ _ us hl => match us, hl with | [_], _ => rfl) len_write_record
    (fun f cdv A0 outer s H E hr => (pss_cons (ps_set (i := 1) sc_write_record.nd rfl (by first | exact Or.inl rfl | exact Or.inr rfl) (pe_callH (has_checksum Z) (hr.mono (by decide)) (by rfl) pass0 (pa_cons (pv 0) pa_nil))) (pss_cons (ps_set (i := 2) sc_write_record.nd rfl (by first | exact Or.inl rfl | exact Or.inr rfl) (pe_lst (pa_cons (pe_op op_divU (pv 1) pe_int) (pa_cons (pe_op op_modU (pe_op op_divU (pv 1) pe_int) pe_int) (pa_cons (pe_op op_modU (pe_op op_divU (pv 1) pe_int) pe_int) (pa_cons (pe_op op_modU (pv 1) pe_int) pa_nil)))))) (pss_one (ps_ret (pe_op op_addU (pe_op op_addU (pe_callH (has_write_number Z) (hr.mono (by decide)) (by rfl) pass0 (pa_cons (pe_callB call_lenU (by rfl) Z.b_len (by decide +kernel) (pa_cons (pv 0) pa_nil)) pa_nil)) (pe_callTy call_listU (by rfl) Z.b_list (by decide +kernel) (pa_cons (pv 0) pa_nil))) (pv 2)))))))
    ok_write_record
theorem has__read_size (Z : Facts K mg A) : Has P w K mg base CX0 3 "_read_size" ["data", "start"] (up (S__read_size K A)) :=
  Has.mk0 (t := t__read_size K A) Z.f__read_size sc__read_size (fun _ _ _ _ _ _ us hl => match us, hl with | [_, _], _ => rfl) len__read_size
    (fun f cdv A0 outer s H E hr => (pss_cons (ps_set (i := 2) sc__read_size.nd rfl (by first | exact Or.inl rfl | exact Or.inr rfl) (pe_makeH (has_Reader_init Z) (hr.mono (by decide)) (by rfl) Z.g_Reader pass0 (pa_cons (pe_slice sl_U (pv 0) (po_some (pv 1)) (po_some (pe_op op_addU (pv 1) pe_int))) pa_nil))) (pss_cons (ps_try_only (tb := (fun W => (tAsg (tMeth A.cReader "read_number" (up (S_Reader_read_number K A)) [] (WA W) (tVar 2) tNil) (gName 3)))) (ts := fun _ _ _ => (tRet (tC .non))) (Wout := fun _ _ _ _ => False) rfl rfl ⟨rfl, by decide, Or.inl Z.g_DamagedPacket⟩ takes0 (fun W pn xe tk _ => (pss_one (ps_set (i := 3) sc__read_size.nd rfl (by first | exact Or.inl rfl | exact Or.inr rfl) (pe_methH0 (pv 2) Z.cf.cl (has_Reader_read_number Z) (hr.mono (by decide)) (pass_try tk))))) (fun a oe cls d pn hz hf => (pss_one (ps_ret pe_non)))) (pss_one (ps_ret (pe_tup (pa_cons (pe_op op_addU (pv 1) (pe_fld (pv 2) rfl)) (pa_cons (pv 3) pa_nil))))))))
    (ok__read_size Z.cf)
theorem has_read_records (Z : Facts K mg A) : Has P w K mg base CX0 4 "read_records" ["data"] (up (S_read_records K A)) :=
  Has.mk0 (t := t_read_records K A) Z.f_read_records sc_read_records (fun _ _ _ _ _ _ us hl => match us, hl with | [_], _ => rfl) len_read_records
    (fun f cdv A0 outer s H E hr => (pss_cons (ps_set (i := 1) sc_read_records.nd rfl (by first | exact Or.inl rfl | exact Or.inr rfl) (pe_lst pa_nil)) (pss_cons (ps_set (i := 2) sc_read_records.nd rfl (by first | exact Or.inl rfl | exact Or.inr rfl) pe_int) (pss_cons (ps_set (i := 3) sc_read_records.nd rfl (by first | exact Or.inl rfl | exact Or.inr rfl) (pe_callH (has__read_size Z) (hr.mono (by decide)) (by rfl) pass0 (pa_cons (pv 0) (pa_cons (pv 2) pa_nil)))) (pss_cons (ps_while PassesOwn.never (pt_cmpR op_notN1 (pv 3) pe_non (nomark _)) (pss_cons (ps_asg (pv 3) (pg_tup rfl (pgs_cons (pg_name (i := 4) sc_read_records.nd rfl (by first | exact Or.inl rfl | exact Or.inr rfl)) (pgs_cons (pg_name (i := 5) sc_read_records.nd rfl (by first | exact Or.inl rfl | exact Or.inr rfl)) pgs_nil)))) (pss_cons (ps_set (i := 6) sc_read_records.nd rfl (by first | exact Or.inl rfl | exact Or.inr rfl) (pe_slice sl_U (pv 0) (po_some (pv 4)) (po_some (pe_op op_addU (pv 4) (pv 5))))) (pss_cons (ps_set (i := 7) sc_read_records.nd rfl (by first | exact Or.inl rfl | exact Or.inr rfl) (pe_op op_addU (pe_op op_addU (pv 4) (pv 5)) pe_int)) (pss_cons (ps_if (PW.pt (pw_or (pt_cmpR op_gtU (pv 7) (pe_callB call_lenU (by rfl) Z.b_len (by decide +kernel) (pa_cons (pv 0) pa_nil)) (nomark _)) (pw_or1 (pt_cmpR (op_neU (rm64 hr)) (pe_slice sl_U (pe_callH (has_write_record Z) (hr.mono (by decide)) (by rfl) pass0 (pa_cons (pv 6) pa_nil)) (po_some (pe_un un_neg pe_int)) po_none) (pe_slice sl_U (pv 0) (po_some (pe_op op_subI (pv 7) pe_int)) (po_some (pv 7))) (nomark _))))) (pss_one ps_break) pss_nil) (pss_cons (ps_expr (pe_bm PySem.F.plainAttrs_list PySem.F.slot_list_append PySem.F.type_list_append mt_append (pv 1) (pa_cons (pv 6) pa_nil))) (pss_cons (ps_set (i := 2) sc_read_records.nd rfl (by first | exact Or.inl rfl | exact Or.inr rfl) (pv 7)) (pss_one (ps_set (i := 3) sc_read_records.nd rfl (by first | exact Or.inl rfl | exact Or.inr rfl) (pe_callH (has__read_size Z) (hr.mono (by decide)) (by rfl) pass0 (pa_cons (pv 0) (pa_cons (pv 2) pa_nil)))))))))))) (pss_one (ps_ret (pe_tup (pa_cons (pv 1) (pa_cons (pv 2) pa_nil))))))))))
    (ok_read_records Z.cf)
theorem has__law_mix (Z : Facts K mg A) : Has P w K mg base CX0 1 "_law_mix" ["cell", "k"] (up (S__law_mix K A)) :=
  Has.mk0 (t := t__law_mix K A) Z.f__law_mix sc__law_mix (fun _ _ _ _ _ _ us hl => match us, hl with | [_, _], _ => rfl) len__law_mix
    (fun f cdv A0 outer s H E hr => (pss_cons (ps_set (i := 2) sc__law_mix.nd rfl (by first | exact Or.inl rfl | exact Or.inr rfl) (pe_op op_modU (pe_callTy call_intU (by rfl) Z.b_int (by decide +kernel) (pa_cons (pe_op op_addU (pe_op op_addU (pe_op op_mulU (pe_callTy call_intU (by rfl) Z.b_int (by decide +kernel) (pa_cons (pv 0) pa_nil)) pe_int) (pe_op op_mulU (pv 1) pe_int)) pe_int) pa_nil)) pe_int)) (pss_cons (ps_set (i := 2) sc__law_mix.nd rfl (by first | exact Or.inl rfl | exact Or.inr rfl) (pe_op op_modU (pe_callTy call_intU (by rfl) Z.b_int (by decide +kernel) (pa_cons (pe_op op_addU (pe_op op_addU (pe_op op_mulU (pv 2) (pv 2)) (pe_op op_mulU (pv 1) pe_int)) pe_int) pa_nil)) pe_int)) (pss_one (ps_ret (pe_op op_modU (pe_op op_divU (pv 2) pe_int) pe_int))))))
    ok__law_mix
theorem has__law_draws (Z : Facts K mg A) : Has P w K mg base CX0 2 "_law_draws" ["script"] (up (S__law_draws K A)) :=
  Has.mk0 (t := t__law_draws K A) Z.f__law_draws sc__law_draws (fun _ _ _ _ _ _ us hl => match us, hl with | [_], _ => rfl) len__law_draws
    (fun f cdv A0 outer s H E hr => (pss_cons (ps_set (i := 1) sc__law_draws.nd rfl (by first | exact Or.inl rfl | exact Or.inr rfl) (pe_lst pa_nil)) (pss_cons (ps_for PassesOwn.never rfl (pi_range1 (by rfl) Z.b_range (pa_cons (pe_callB (call_min2U rfl) (by rfl) Z.b_min (by decide +kernel) (pa_cons pe_int (pa_cons (pe_callB call_lenU (by rfl) Z.b_len (by decide +kernel) (pa_cons (pv 0) pa_nil)) pa_nil))) pa_nil)) (pg_name (i := 2) sc__law_draws.nd rfl (by first | exact Or.inl rfl | exact Or.inr rfl)) (pss_cons (ps_set (i := 3) sc__law_draws.nd rfl (by first | exact Or.inl rfl | exact Or.inr rfl) (pe_callTy call_intU (by rfl) Z.b_int (by decide +kernel) (pa_cons (pe_ix ix_seq (pv 0) (pv 2) (fun _ _ => rfl)) pa_nil))) (pss_one (ps_if (pt_cmpR (op_ltU (rm0 hr)) (pv 3) (pe_op op_powU pe_int pe_int) (nomark _)) (pss_one (ps_expr (pe_bm PySem.F.plainAttrs_list PySem.F.slot_list_append PySem.F.type_list_append mt_append (pv 1) (pa_cons (pe_callH (has__law_mix Z) (hr.mono (by decide)) (by rfl) pass0 (pa_cons (pv 3) (pa_cons (pv 2) pa_nil))) pa_nil)))) (pss_one (ps_for PassesOwn.never rfl (pi_range1 (by rfl) Z.b_range (pa_cons pe_int pa_nil)) (pg_name (i := 4) sc__law_draws.nd rfl (by first | exact Or.inl rfl | exact Or.inr rfl)) (pss_one (ps_if (pt_cmpR op_gtU (pv 3) pe_int (nomark _)) (pss_cons (ps_expr (pe_bm PySem.F.plainAttrs_list PySem.F.slot_list_append PySem.F.type_list_append mt_append (pv 1) (pa_cons (pe_op op_modU (pe_callTy call_intU (by rfl) Z.b_int (by decide +kernel) (pa_cons (pv 3) pa_nil)) pe_int) pa_nil))) (pss_one (ps_set (i := 3) sc__law_draws.nd rfl (by first | exact Or.inl rfl | exact Or.inr rfl) (pe_op op_divU (pv 3) pe_int)))) pss_nil)))))))) (pss_one (ps_ret (pv 1))))))
    ok__law_draws
theorem has__law_at (Z : Facts K mg A) : Has P w K mg base CX0 2 "_law_at" ["draws", "index"] (up (S__law_at K A)) :=
  Has.mk0 (t := t__law_at K A) Z.f__law_at sc__law_at (fun _ _ _ _ _ _ us hl => match us, hl with | [_, _], _ => rfl) len__law_at
    (fun f cdv A0 outer s H E hr => (pss_cons (ps_if (pt_cmpR (op_ltU (rm0 hr)) (pv 1) (pe_callB call_lenU (by rfl) Z.b_len (by decide +kernel) (pa_cons (pv 0) pa_nil)) (nomark _)) (pss_one (ps_ret (pe_ix ix_seq (pv 0) (pv 1) (fun _ _ => rfl)))) pss_nil) (pss_cons (ps_if (pt_cmpR (op_eqU (rm64 hr)) (pe_callB call_lenU (by rfl) Z.b_len (by decide +kernel) (pa_cons (pv 0) pa_nil)) pe_int (nomark _)) (pss_one (ps_ret (pe_callH (has__law_mix Z) (hr.mono (by decide)) (by rfl) pass0 (pa_cons (pv 1) (pa_cons pe_int pa_nil))))) pss_nil) (pss_one (ps_ret (pe_callH (has__law_mix Z) (hr.mono (by decide)) (by rfl) pass0 (pa_cons (pe_op op_addU (pe_ix ix_seq (pv 0) (pe_op op_modU (pe_callTy call_intU (by rfl) Z.b_int (by decide +kernel) (pa_cons (pv 1) pa_nil)) (pe_callB call_lenU (by rfl) Z.b_len (by decide +kernel) (pa_cons (pv 0) pa_nil))) (fun _ _ => rfl)) (pe_op op_mulU (pv 1) pe_int)) (pa_cons (pv 1) pa_nil))))))))
    ok__law_at
theorem has__law_is_integer (Z : Facts K mg A) : Has P w K mg base CX0 1 "_law_is_integer" ["actual"] (up (S__law_is_integer K A)) :=
  Has.mk0 (t := t__law_is_integer K A) Z.f__law_is_integer sc__law_is_integer (fun _ _ _ _ _ _ us hl => match us, hl with | [_], _ => rfl) len__law_is_integer
    (fun f cdv A0 outer s H E hr => (pss_one (ps_ret (pe_and (pe_callB call_isiU (by rfl) Z.b_isinstance (by decide +kernel) (pa_cons (pv 0) (pa_cons (pe_bltn (v := .ty "int") (by rfl) Z.b_int (by decide +kernel) rfl) pa_nil))) (pe_one (pe_not (pe_callB call_isiU (by rfl) Z.b_isinstance (by decide +kernel) (pa_cons (pv 0) (pa_cons (pe_bltn (v := .ty "bool") (by rfl) Z.b_bool (by decide +kernel) rfl) pa_nil)))))))))
    ok__law_is_integer
theorem has__law_same_n (Z : Facts K mg A) : ∀ n : Nat, Has P w K mg base CX0 (n + 1) "_law_same" ["actual", "expected"] (up (Sn__law_same K A n))
  | 0 => Has.never (ps := ["actual", "expected"]) Z.f__law_same (fun _ _ _ _ _ _ us hl => match us, hl with | [_, _], _ => rfl) no__law_same
  | n + 1 => by
    have h_rec := has__law_same_n Z n
    exact Has.mk0 (t := t__law_same K A (Sn__law_same K A n)) Z.f__law_same sc__law_same (fun _ _ _ _ _ _ us hl => match us, hl with | [_, _], _ => rfl) (len__law_same (n + 1))
      (fun f cdv A0 outer s H E hr => (pss_cons (ps_if (pt_tru (pe_callB call_isiU (by rfl) Z.b_isinstance (by decide +kernel) (pa_cons (pv 1) (pa_cons (pe_tup (pa_cons (pe_bltn (v := .ty "list") (by rfl) Z.b_list (by decide +kernel) rfl) (pa_cons (pe_bltn (v := .ty "tuple") (by rfl) Z.b_tuple (by decide +kernel) rfl) pa_nil))) pa_nil)))) (pss_cons (ps_if (PW.pt (pw_or (pt_cmpR (op_neU (rm64 hr)) (pe_callB call_isiU (by rfl) Z.b_isinstance (by decide +kernel) (pa_cons (pv 1) (pa_cons (pe_bltn (v := .ty "list") (by rfl) Z.b_list (by decide +kernel) rfl) pa_nil))) (pe_callB call_isiU (by rfl) Z.b_isinstance (by decide +kernel) (pa_cons (pv 0) (pa_cons (pe_bltn (v := .ty "list") (by rfl) Z.b_list (by decide +kernel) rfl) pa_nil))) (nomark _)) (pw_or1 (pt_cmpR (op_neU (rm64 hr)) (pe_callB call_isiU (by rfl) Z.b_isinstance (by decide +kernel) (pa_cons (pv 1) (pa_cons (pe_bltn (v := .ty "tuple") (by rfl) Z.b_tuple (by decide +kernel) rfl) pa_nil))) (pe_callB call_isiU (by rfl) Z.b_isinstance (by decide +kernel) (pa_cons (pv 0) (pa_cons (pe_bltn (v := .ty "tuple") (by rfl) Z.b_tuple (by decide +kernel) rfl) pa_nil))) (nomark _))))) (pss_one (ps_ret pe_bl)) pss_nil) (pss_cons (ps_if (pt_cmpR (op_neU (rm64 hr)) (pe_callB call_lenU (by rfl) Z.b_len (by decide +kernel) (pa_cons (pv 0) pa_nil)) (pe_callB call_lenU (by rfl) Z.b_len (by decide +kernel) (pa_cons (pv 1) pa_nil)) (nomark _)) (pss_one (ps_ret pe_bl)) pss_nil) (pss_cons (ps_for PassesOwn.never rfl (pi_range1 (by rfl) Z.b_range (pa_cons (pe_callB call_lenU (by rfl) Z.b_len (by decide +kernel) (pa_cons (pv 1) pa_nil)) pa_nil)) (pg_name (i := 2) sc__law_same.nd rfl (by first | exact Or.inl rfl | exact Or.inr rfl)) (pss_one (ps_if (pt_not (pt_tru (pe_callH h_rec hr (by rfl) pass0 (pa_cons (pe_ix ix_seq (pv 0) (pv 2) (fun _ _ => rfl)) (pa_cons (pe_ix ix_seq (pv 1) (pv 2) (fun _ _ => rfl)) pa_nil))))) (pss_one (ps_ret pe_bl)) pss_nil))) (pss_one (ps_ret pe_bl))))) pss_nil) (pss_cons (ps_if (pt_cmpR op_isN1 (pv 1) pe_non (nomark _)) (pss_one (ps_ret (pe_cmpR op_isN1 (pv 0) pe_non (nomark _)))) pss_nil) (pss_cons (ps_if (pt_tru (pe_callB call_isiU (by rfl) Z.b_isinstance (by decide +kernel) (pa_cons (pv 1) (pa_cons (pe_bltn (v := .ty "bool") (by rfl) Z.b_bool (by decide +kernel) rfl) pa_nil)))) (pss_one (ps_ret (pe_and (pe_callB call_isiU (by rfl) Z.b_isinstance (by decide +kernel) (pa_cons (pv 0) (pa_cons (pe_bltn (v := .ty "bool") (by rfl) Z.b_bool (by decide +kernel) rfl) pa_nil))) (pe_one (pe_cmpR (op_eqU (rm64 hr)) (pv 0) (pv 1) (nomark _)))))) pss_nil) (pss_cons (ps_if (pt_tru (pe_callB call_isiU (by rfl) Z.b_isinstance (by decide +kernel) (pa_cons (pv 1) (pa_cons (pe_bltn (v := .ty "int") (by rfl) Z.b_int (by decide +kernel) rfl) pa_nil)))) (pss_one (ps_ret (pe_and (pe_callH (has__law_is_integer Z) (hr.mono (Nat.le_add_left _ _)) (by rfl) pass0 (pa_cons (pv 0) pa_nil)) (pe_one (pe_cmpR (op_eqU (rm64 hr)) (pv 0) (pv 1) (nomark _)))))) pss_nil) (pss_one (ps_ret (pe_and (pe_callB call_isiU (by rfl) Z.b_isinstance (by decide +kernel) (pa_cons (pv 0) (pa_cons (pe_bltn (v := .ty "str") (by rfl) Z.b_str (by decide +kernel) rfl) pa_nil))) (pe_one (pe_cmpR (op_eqU (rm64 hr)) (pv 0) (pv 1) (nomark _)))))))))))
      (ok__law_same n)
theorem has__law_same (Z : Facts K mg A) : Has P w K mg base CX0 9 "_law_same" ["actual", "expected"] (up (S__law_same K A)) := has__law_same_n Z 8
theorem has__law_next (Z : Facts K mg A) : Has P w K mg base CX0 3 "_law_next" ["state", "limit"] (up (S__law_next K A)) :=
  Has.mk0 (t := t__law_next K A) Z.f__law_next sc__law_next (fun _ _ _ _ _ _ us hl => match us, hl with | [_, _], _ => rfl) len__law_next
    (fun f cdv A0 outer s H E hr => (pss_cons (ps_augS (pv 0) pe_int pget_list pe_int ip_add set_list) (pss_one (ps_ret (pe_op op_modU (pe_callH (has__law_at Z) (hr.mono (by decide)) (by rfl) pass0 (pa_cons (pe_ix ix_seq (pv 0) pe_int (fun _ _ => rfl)) (pa_cons (pe_ix ix_seq (pv 0) pe_int (fun _ _ => rfl)) pa_nil))) (pv 1))))))
    ok__law_next
theorem has__law_number (Z : Facts K mg A) : Has P w K mg base CX0 1 "_law_number" ["number"] (up (S__law_number K A)) :=
  Has.mk0 (t := t__law_number K A) Z.f__law_number sc__law_number (fun _ _ _ _ _ _ us hl => match us, hl with | [_], _ => rfl) len__law_number
    (fun f cdv A0 outer s H E hr => (pss_cons (ps_set (i := 1) sc__law_number.nd rfl (by first | exact Or.inl rfl | exact Or.inr rfl) (pe_lst pa_nil)) (pss_cons (ps_while PassesOwn.never (pt_cmpR op_gtU (pv 0) pe_int (nomark _)) (pss_cons (ps_expr (pe_bm PySem.F.plainAttrs_list PySem.F.slot_list_append PySem.F.type_list_append mt_append (pv 1) (pa_cons (pe_op op_addU pe_int (pe_op op_modU (pv 0) pe_int)) pa_nil))) (pss_one (ps_set (i := 0) sc__law_number.nd rfl (by first | exact Or.inl rfl | exact Or.inr rfl) (pe_op op_divU (pv 0) pe_int))))) (pss_one (ps_ret (pe_op op_addU (pv 1) (pe_lst (pa_cons (pv 0) pa_nil))))))))
    ok__law_number
theorem has__law_checksum (Z : Facts K mg A) : Has P w K mg base CX0 1 "_law_checksum" ["data"] (up (S__law_checksum K A)) :=
  Has.mk0 (t := t__law_checksum K A) Z.f__law_checksum sc__law_checksum (fun _ _ _ _ _ _ us hl => match us, hl with | [_], _ => rfl) len__law_checksum
    (fun f cdv A0 outer s H E hr => (pss_cons (ps_set (i := 1) sc__law_checksum.nd rfl (by first | exact Or.inl rfl | exact Or.inr rfl) pe_int) (pss_cons (ps_for PassesOwn.never rfl (pi_list (pv 0)) (pg_name (i := 2) sc__law_checksum.nd rfl (by first | exact Or.inl rfl | exact Or.inr rfl)) (pss_one (ps_set (i := 1) sc__law_checksum.nd rfl (by first | exact Or.inl rfl | exact Or.inr rfl) (pe_op op_modU (pe_op op_addU (pe_op op_addU (pe_op op_mulU pe_int (pv 1)) (pv 2)) pe_int) pe_int)))) (pss_one (ps_ret (pv 1))))))
    ok__law_checksum
theorem has__law_record (Z : Facts K mg A) : Has P w K mg base CX0 2 "_law_record" ["data"] (up (S__law_record K A)) :=
  Has.mk0 (t := t__law_record K A) Z.f__law_record sc__law_record (fun _ _ _ _ _ _ us hl => match us, hl with | [_], _ => rfl) len__law_record
    (fun f cdv A0 outer s H E hr => (pss_cons (ps_set (i := 1) sc__law_record.nd rfl (by first | exact Or.inl rfl | exact Or.inr rfl) (pe_callH (has__law_checksum Z) (hr.mono (by decide)) (by rfl) pass0 (pa_cons (pv 0) pa_nil))) (pss_one (ps_ret (pe_op op_addU (pe_op op_addU (pe_callH (has__law_number Z) (hr.mono (by decide)) (by rfl) pass0 (pa_cons (pe_callB call_lenU (by rfl) Z.b_len (by decide +kernel) (pa_cons (pv 0) pa_nil)) pa_nil)) (pv 0)) (pe_lst (pa_cons (pe_op op_divU (pv 1) pe_int) (pa_cons (pe_op op_modU (pe_op op_divU (pv 1) pe_int) pe_int) (pa_cons (pe_op op_modU (pe_op op_divU (pv 1) pe_int) pe_int) (pa_cons (pe_op op_modU (pv 1) pe_int) pa_nil))))))))))
    ok__law_record
theorem has__law_bytes (Z : Facts K mg A) : Has P w K mg base CX0 4 "_law_bytes" ["state"] (up (S__law_bytes K A)) :=
  Has.mk0 (t := t__law_bytes K A) Z.f__law_bytes sc__law_bytes (fun _ _ _ _ _ _ us hl => match us, hl with | [_], _ => rfl) len__law_bytes
    (fun f cdv A0 outer s H E hr => (pss_cons (ps_set (i := 1) sc__law_bytes.nd rfl (by first | exact Or.inl rfl | exact Or.inr rfl) (pe_callH (has__law_next Z) (hr.mono (by decide)) (by rfl) pass0 (pa_cons (pv 0) (pa_cons pe_int pa_nil)))) (pss_cons (ps_set (i := 2) sc__law_bytes.nd rfl (by first | exact Or.inl rfl | exact Or.inr rfl) (pe_callH (has__law_next Z) (hr.mono (by decide)) (by rfl) pass0 (pa_cons (pv 0) (pa_cons pe_int pa_nil)))) (pss_cons (ps_if (pt_cmpR (op_ltU (rm0 hr)) (pv 2) pe_int (nomark _)) (pss_one (ps_set (i := 1) sc__law_bytes.nd rfl (by first | exact Or.inl rfl | exact Or.inr rfl) (pe_op op_addU pe_int (pe_callH (has__law_next Z) (hr.mono (by decide)) (by rfl) pass0 (pa_cons (pv 0) (pa_cons pe_int pa_nil)))))) (pss_one (ps_if (pt_cmpR (op_ltU (rm0 hr)) (pv 2) pe_int (nomark _)) (pss_one (ps_set (i := 1) sc__law_bytes.nd rfl (by first | exact Or.inl rfl | exact Or.inr rfl) (pe_op op_addU pe_int (pe_callH (has__law_next Z) (hr.mono (by decide)) (by rfl) pass0 (pa_cons (pv 0) (pa_cons pe_int pa_nil)))))) (pss_one (ps_if (pt_cmpR (op_eqU (rm64 hr)) (pv 2) pe_int (nomark _)) (pss_one (ps_set (i := 1) sc__law_bytes.nd rfl (by first | exact Or.inl rfl | exact Or.inr rfl) (pe_op op_addU pe_int (pe_callH (has__law_next Z) (hr.mono (by decide)) (by rfl) pass0 (pa_cons (pv 0) (pa_cons pe_int pa_nil)))))) pss_nil))))) (pss_cons (ps_set (i := 3) sc__law_bytes.nd rfl (by first | exact Or.inl rfl | exact Or.inr rfl) (pe_callH (has__law_next Z) (hr.mono (by decide)) (by rfl) pass0 (pa_cons (pv 0) (pa_cons pe_int pa_nil)))) (pss_one (ps_ret (pe_lc (own := [("k", 4)]) (g := (gName 4)) (by rfl) sc__law_bytes.nd (pi_range1 (by rfl) Z.b_range (pa_cons (pv 1) pa_nil)) (blkOk_by (own := [("k", 4)]) (N := ["state", "count", "pick", "start", "k"]) (sc := defScope s__law_bytes) (by decide +kernel)) (fun _ _ _ _ _ => (pg_name (i := 4) sc__law_bytes.nd rfl (by first | exact Or.inl rfl | exact Or.inr rfl))) (fun _ _ _ _ _ => pts_nil) (fun _ _ _ _ _ => (pe_op op_modU (pe_op op_addU (pv 3) (pe_op op_mulU (pe_op op_mulU pe_int (pv 4)) (pv 4))) pe_int))))))))))
    ok__law_bytes
theorem has__law_behind (Z : Facts K mg A) : Has P w K mg base CX0 5 "_law_behind" ["state"] (up (S__law_behind K A)) :=
  Has.mk0 (t := t__law_behind K A) Z.f__law_behind sc__law_behind (fun _ _ _ _ _ _ us hl => match us, hl with | [_], _ => rfl) len__law_behind
    (fun f cdv A0 outer s H E hr => (pss_cons (ps_set (i := 1) sc__law_behind.nd rfl (by first | exact Or.inl rfl | exact Or.inr rfl) (pe_callH (has__law_bytes Z) (hr.mono (by decide)) (by rfl) pass0 (pa_cons (pv 0) pa_nil))) (pss_cons (ps_set (i := 2) sc__law_behind.nd rfl (by first | exact Or.inl rfl | exact Or.inr rfl) (pe_callH (has__law_record Z) (hr.mono (by decide)) (by rfl) pass0 (pa_cons (pv 1) pa_nil))) (pss_cons (ps_set (i := 3) sc__law_behind.nd rfl (by first | exact Or.inl rfl | exact Or.inr rfl) (pe_ix ix_seq (pe_lst (pa_cons (pe_lst pa_nil) (pa_cons (pe_op op_addU (pe_callH (has__law_record Z) (hr.mono (by decide)) (by rfl) pass0 (pa_cons (pe_lst (pa_cons pe_int (pa_cons pe_int (pa_cons pe_int pa_nil)))) pa_nil)) (pe_callH (has__law_record Z) (hr.mono (by decide)) (by rfl) pass0 (pa_cons (pe_lst pa_nil) pa_nil))) pa_nil))) (pe_callH (has__law_next Z) (hr.mono (by decide)) (by rfl) pass0 (pa_cons (pv 0) (pa_cons pe_int pa_nil))) (fun _ _ => rfl))) (pss_cons (ps_set (i := 4) sc__law_behind.nd rfl (by first | exact Or.inl rfl | exact Or.inr rfl) (pe_callH (has__law_next Z) (hr.mono (by decide)) (by rfl) pass0 (pa_cons (pv 0) (pa_cons pe_int pa_nil)))) (pss_cons (ps_if (pt_cmpR (op_eqU (rm64 hr)) (pv 4) pe_int (nomark _)) (pss_one (ps_ret (pe_lst pa_nil))) pss_nil) (pss_cons (ps_if (pt_cmpR (op_eqU (rm64 hr)) (pv 4) pe_int (nomark _)) (pss_one (ps_ret (pe_slice sl_U (pv 2) po_none (po_some (pe_callH (has__law_next Z) (hr.mono (by decide)) (by rfl) pass0 (pa_cons (pv 0) (pa_cons (pe_callB call_lenU (by rfl) Z.b_len (by decide +kernel) (pa_cons (pv 2) pa_nil)) pa_nil))))))) pss_nil) (pss_cons (ps_if (pt_cmpR (op_eqU (rm64 hr)) (pv 4) pe_int (nomark _)) (pss_cons (ps_set (i := 5) sc__law_behind.nd rfl (by first | exact Or.inl rfl | exact Or.inr rfl) (pe_op op_subI (pe_op op_subI (pe_callB call_lenU (by rfl) Z.b_len (by decide +kernel) (pa_cons (pv 2) pa_nil)) pe_int) (pe_callH (has__law_next Z) (hr.mono (by decide)) (by rfl) pass0 (pa_cons (pv 0) (pa_cons pe_int pa_nil))))) (pss_one (ps_ret (pe_op op_addU (pe_op op_addU (pe_op op_addU (pe_slice sl_U (pv 2) po_none (po_some (pv 5))) (pe_lst (pa_cons (pe_op op_modU (pe_op op_addU (pe_op op_addU (pe_ix ix_seq (pv 2) (pv 5) (fun _ _ => rfl)) pe_int) (pe_callH (has__law_next Z) (hr.mono (by decide)) (by rfl) pass0 (pa_cons (pv 0) (pa_cons pe_int pa_nil)))) pe_int) pa_nil))) (pe_slice sl_U (pv 2) (po_some (pe_op op_addU (pv 5) pe_int)) po_none)) (pv 3))))) pss_nil) (pss_cons (ps_if (PW.pt (pw_and (pt_cmpR (op_eqU (rm64 hr)) (pv 4) pe_int (nomark _)) (pw_and1 (pt_cmpR op_gtU (pe_callB call_lenU (by rfl) Z.b_len (by decide +kernel) (pa_cons (pv 1) pa_nil)) pe_int (nomark _))))) (pss_cons (ps_set (i := 5) sc__law_behind.nd rfl (by first | exact Or.inl rfl | exact Or.inr rfl) (pe_op op_subI (pe_op op_subI (pe_callB call_lenU (by rfl) Z.b_len (by decide +kernel) (pa_cons (pv 2) pa_nil)) pe_int) (pe_callH (has__law_next Z) (hr.mono (by decide)) (by rfl) pass0 (pa_cons (pv 0) (pa_cons (pe_callB call_lenU (by rfl) Z.b_len (by decide +kernel) (pa_cons (pv 1) pa_nil)) pa_nil))))) (pss_one (ps_ret (pe_op op_addU (pe_op op_addU (pe_op op_addU (pe_slice sl_U (pv 2) po_none (po_some (pv 5))) (pe_lst (pa_cons (pe_op op_modU (pe_op op_addU (pe_op op_addU (pe_ix ix_seq (pv 2) (pv 5) (fun _ _ => rfl)) pe_int) (pe_callH (has__law_next Z) (hr.mono (by decide)) (by rfl) pass0 (pa_cons (pv 0) (pa_cons pe_int pa_nil)))) pe_int) pa_nil))) (pe_slice sl_U (pv 2) (po_some (pe_op op_addU (pv 5) pe_int)) po_none)) (pv 3))))) pss_nil) (pss_cons (ps_set (i := 6) sc__law_behind.nd rfl (by first | exact Or.inl rfl | exact Or.inr rfl) (pe_callH (has__law_number Z) (hr.mono (by decide)) (by rfl) pass0 (pa_cons (pe_callB call_lenU (by rfl) Z.b_len (by decide +kernel) (pa_cons (pv 1) pa_nil)) pa_nil))) (pss_cons (ps_set (i := 7) sc__law_behind.nd rfl (by first | exact Or.inl rfl | exact Or.inr rfl) (pe_op op_addU (pe_op op_addU (pe_lst (pa_cons (pe_op op_addU (pe_ix ix_seq (pv 6) (pe_op op_subI (pe_callB call_lenU (by rfl) Z.b_len (by decide +kernel) (pa_cons (pv 6) pa_nil)) pe_int) (fun _ _ => rfl)) pe_int) pa_nil)) (pe_op op_mulU (pe_lst (pa_cons pe_int pa_nil)) (pe_callH (has__law_next Z) (hr.mono (by decide)) (by rfl) pass0 (pa_cons (pv 0) (pa_cons pe_int pa_nil))))) (pe_lst (pa_cons pe_int pa_nil)))) (pss_one (ps_ret (pe_op op_addU (pe_op op_addU (pe_op op_addU (pe_slice sl_U (pv 6) po_none (po_some (pe_op op_subI (pe_callB call_lenU (by rfl) Z.b_len (by decide +kernel) (pa_cons (pv 6) pa_nil)) pe_int))) (pv 7)) (pe_slice sl_U (pv 2) (po_some (pe_callB call_lenU (by rfl) Z.b_len (by decide +kernel) (pa_cons (pv 6) pa_nil))) po_none)) (pv 3)))))))))))))))
    ok__law_behind
theorem has_law (Z : Facts K mg A) : Has P w K mg base CX0 10 "law" ["script"] (up (S_law K A)) :=
  Has.mk0 (t := t_law K A) Z.f_law sc_law (fun _ _ _ _ _ _ us hl => match us, hl with | [_], _ => rfl) len_law
    (fun f cdv A0 outer s H E hr => (pss_cons (ps_set (i := 1) sc_law.nd rfl (by first | exact Or.inl rfl | exact Or.inr rfl) (pe_lst (pa_cons (pe_callH (has__law_draws Z) (hr.mono (by decide)) (by rfl) pass0 (pa_cons (pv 0) pa_nil)) (pa_cons pe_int pa_nil)))) (pss_cons (ps_setLc (i := 2) (own := [("k", 8)]) (g := (gName 8)) (by rfl) sc_law.nd rfl rfl (sw_true rfl rfl rfl (by decide +kernel)) (pi_range1 (by rfl) Z.b_range (pa_cons (pe_callH (has__law_next Z) (hr.mono (by decide)) (by rfl) pass0 (pa_cons (pv 1) (pa_cons pe_int pa_nil))) pa_nil)) (blkOk_by (own := [("k", 8)]) (N := ["script", "state", "records", "data", "sizes", "record", "passed", "whole", "k", "end", "count", "size"]) (sc := defScope s_law) (by decide +kernel)) (fun _ _ _ _ _ => (pg_name (i := 8) sc_law.nd rfl (by first | exact Or.inl rfl | exact Or.inr rfl))) (fun _ _ _ _ _ => pts_nil) (fun _ _ _ _ _ => (pe_callH (has__law_bytes Z) (hr.mono (by decide)) (by rfl) pass0 (pa_cons (pv 1) pa_nil)))) (pss_cons (ps_set (i := 3) sc_law.nd rfl (by first | exact Or.inl rfl | exact Or.inr rfl) (pe_lst pa_nil)) (pss_cons (ps_set (i := 4) sc_law.nd rfl (by first | exact Or.inl rfl | exact Or.inr rfl) (pe_lst (pa_cons pe_int pa_nil))) (pss_cons (ps_for PassesOwn.never rfl (pi_list (pv 2)) (pg_name (i := 5) sc_law.nd rfl (by first | exact Or.inl rfl | exact Or.inr rfl)) (pss_cons (ps_set (i := 6) sc_law.nd rfl (by first | exact Or.inl rfl | exact Or.inr rfl) (pe_callTy call_listU (by rfl) Z.b_list (by decide +kernel) (pa_cons (pv 5) pa_nil))) (pss_cons (ps_if (PW.pt (pw_or (pt_not (pt_tru (pe_callH (has__law_same Z) (hr.mono (by decide)) (by rfl) pass0 (pa_cons (pe_callH (has_checksum Z) (hr.mono (by decide)) (by rfl) pass0 (pa_cons (pv 6) pa_nil)) (pa_cons (pe_callH (has__law_checksum Z) (hr.mono (by decide)) (by rfl) pass0 (pa_cons (pv 5) pa_nil)) pa_nil))))) (pw_or1 (pt_not (pt_tru (pe_callH (has__law_same Z) (hr.mono (by decide)) (by rfl) pass0 (pa_cons (pe_callH (has_write_record Z) (hr.mono (by decide)) (by rfl) pass0 (pa_cons (pv 6) pa_nil)) (pa_cons (pe_callH (has__law_record Z) (hr.mono (by decide)) (by rfl) pass0 (pa_cons (pv 5) pa_nil)) pa_nil)))))))) (pss_one (ps_ret pe_bl)) pss_nil) (pss_cons (ps_if (pt_cmpR (op_neU (rm64 hr)) (pv 6) (pv 5) (nomark _)) (pss_one (ps_ret pe_bl)) pss_nil) (pss_cons (ps_set (i := 3) sc_law.nd rfl (by first | exact Or.inl rfl | exact Or.inr rfl) (pe_op op_addU (pv 3) (pe_callH (has__law_record Z) (hr.mono (by decide)) (by rfl) pass0 (pa_cons (pv 5) pa_nil)))) (pss_one (ps_expr (pe_bm PySem.F.plainAttrs_list PySem.F.slot_list_append PySem.F.type_list_append mt_append (pv 4) (pa_cons (pe_callB call_lenU (by rfl) Z.b_len (by decide +kernel) (pa_cons (pv 3) pa_nil)) pa_nil))))))))) (pss_cons (ps_set (i := 7) sc_law.nd rfl (by first | exact Or.inl rfl | exact Or.inr rfl) (pe_op op_addU (pv 3) (pe_callH (has__law_behind Z) (hr.mono (by decide)) (by rfl) pass0 (pa_cons (pv 1) pa_nil)))) (pss_cons (ps_set (i := 6) sc_law.nd rfl (by first | exact Or.inl rfl | exact Or.inr rfl) (pe_callTy call_listU (by rfl) Z.b_list (by decide +kernel) (pa_cons (pv 7) pa_nil))) (pss_cons (ps_if (PW.pt (pw_or (pt_not (pt_tru (pe_callH (has__law_same Z) (hr.mono (by decide)) (by rfl) pass0 (pa_cons (pe_callH (has_read_records Z) (hr.mono (by decide)) (by rfl) pass0 (pa_cons (pv 6) pa_nil)) (pa_cons (pe_tup (pa_cons (pv 2) (pa_cons (pe_callB call_lenU (by rfl) Z.b_len (by decide +kernel) (pa_cons (pv 3) pa_nil)) pa_nil))) pa_nil))))) (pw_or1 (pt_cmpR (op_neU (rm64 hr)) (pv 6) (pv 7) (nomark _))))) (pss_one (ps_ret pe_bl)) pss_nil) (pss_cons (ps_for PassesOwn.never rfl (pi_range1 (by rfl) Z.b_range (pa_cons pe_int pa_nil)) (pg_name (i := 8) sc_law.nd rfl (by first | exact Or.inl rfl | exact Or.inr rfl)) (pss_cons (ps_set (i := 9) sc_law.nd rfl (by first | exact Or.inl rfl | exact Or.inr rfl) (pe_callH (has__law_next Z) (hr.mono (by decide)) (by rfl) pass0 (pa_cons (pv 1) (pa_cons (pe_op op_addU (pe_callB call_lenU (by rfl) Z.b_len (by decide +kernel) (pa_cons (pv 3) pa_nil)) pe_int) pa_nil)))) (pss_cons (ps_set (i := 10) sc_law.nd rfl (by first | exact Or.inl rfl | exact Or.inr rfl) (pe_op op_subI (pe_callB call_lenU (by rfl) Z.b_len (by decide +kernel) (pa_cons (pe_lc (own := [("size", 11)]) (g := (gName 11)) (by rfl) sc_law.nd (pi_list (pv 4)) (blkOk_by (own := [("size", 11)]) (N := ["script", "state", "records", "data", "sizes", "record", "passed", "whole", "k", "end", "count", "size"]) (sc := defScope s_law) (by decide +kernel)) (fun _ _ _ _ _ => (pg_name (i := 11) sc_law.nd rfl (by first | exact Or.inl rfl | exact Or.inr rfl))) (fun _ _ _ _ _ => (pts_one (pt_cmpR op_leU (pv 11) (pv 9) (nomark _)))) (fun _ _ _ _ _ => (pv 11))) pa_nil)) pe_int)) (pss_cons (ps_set (i := 6) sc_law.nd rfl (by first | exact Or.inl rfl | exact Or.inr rfl) (pe_slice sl_U (pv 3) po_none (po_some (pv 9)))) (pss_one (ps_if (PW.pt (pw_or (pt_not (pt_tru (pe_callH (has__law_same Z) (hr.mono (by decide)) (by rfl) pass0 (pa_cons (pe_callH (has_read_records Z) (hr.mono (by decide)) (by rfl) pass0 (pa_cons (pv 6) pa_nil)) (pa_cons (pe_tup (pa_cons (pe_slice sl_U (pv 2) po_none (po_some (pv 10))) (pa_cons (pe_ix ix_seq (pv 4) (pv 10) (fun _ _ => rfl)) pa_nil))) pa_nil))))) (pw_or1 (pt_cmpR (op_neU (rm64 hr)) (pv 6) (pe_slice sl_U (pv 3) po_none (po_some (pv 9))) (nomark _))))) (pss_one (ps_ret pe_bl)) pss_nil)))))) (pss_one (ps_ret (pe_and (pe_callH (has__law_same Z) (hr.mono (by decide)) (by rfl) pass0 (pa_cons (pe_callH (has_read_records Z) (hr.mono (by decide)) (by rfl) pass0 (pa_cons (pe_lst pa_nil) pa_nil)) (pa_cons (pe_tup (pa_cons (pe_lst pa_nil) (pa_cons pe_int pa_nil))) pa_nil))) (pe_one (pe_callH (has__law_same Z) (hr.mono (by decide)) (by rfl) pass0 (pa_cons (pe_callH (has_write_record Z) (hr.mono (by decide)) (by rfl) pass0 (pa_cons (pe_lst pa_nil) pa_nil)) (pa_cons (pe_lst (pa_cons pe_int (pa_cons pe_int (pa_cons pe_int (pa_cons pe_int (pa_cons pe_int pa_nil)))))) pa_nil)))))))))))))))))
    ok_law
end
def Ad0 : Ad := ⟨(0 : Nat), (0 : Nat)⟩
theorem law_sp {K : PySem.W.Frag} {A : Ad} {H : Hp} {a : Addr} {ns : List Int} (hl : ns.length ≤ 63) (hS : SqL K H a (ns.map V.int)) : up (S_law K A) [.ref a] H (fun v _ => v = .bl true) (fun _ _ _ => False) :=
  ⟨H, fun v _ => v = .bl true, fun _ _ _ => False, Ex.refl _, ⟨a, ns, rfl, hS, hl, fun _ => rfl⟩, fun _ _ _ _ q => q, fun _ _ _ _ _ z => z⟩
theorem all_mk {l : PySem.W.OpenLaw} {w : World} {K : PySem.W.Frag} {h : Heap} {mg : Str → Option Value} {fa : Addr} (X : K.In h) (G : h.Ns mainGlobals mg) (hfa : mg "law" = some (.ref fa))
    {C_Reader C_DamagedPacket : Addr}
    {f0 : Addr} {od0 an0 : Option Addr} {sl0 : Array (Option Value)} {oc0 kV0 dc0 pm0 cd0 ct0 : Value}
    {f1 : Addr} {od1 an1 : Option Addr} {sl1 : Array (Option Value)} {oc1 kV1 dc1 pm1 cd1 ct1 : Value}
    {f2 : Addr} {od2 an2 : Option Addr} {sl2 : Array (Option Value)} {oc2 kV2 dc2 pm2 cd2 ct2 : Value}
    {f3 : Addr} {od3 an3 : Option Addr} {sl3 : Array (Option Value)} {oc3 kV3 dc3 pm3 cd3 ct3 : Value}
    {f4 : Addr} {od4 an4 : Option Addr} {sl4 : Array (Option Value)} {oc4 kV4 dc4 pm4 cd4 ct4 : Value}
    {f5 : Addr} {od5 an5 : Option Addr} {sl5 : Array (Option Value)} {oc5 kV5 dc5 pm5 cd5 ct5 : Value}
    {f6 : Addr} {od6 an6 : Option Addr} {sl6 : Array (Option Value)} {oc6 kV6 dc6 pm6 cd6 ct6 : Value}
    {f7 : Addr} {od7 an7 : Option Addr} {sl7 : Array (Option Value)} {oc7 kV7 dc7 pm7 cd7 ct7 : Value}
    {f8 : Addr} {od8 an8 : Option Addr} {sl8 : Array (Option Value)} {oc8 kV8 dc8 pm8 cd8 ct8 : Value}
    {f9 : Addr} {od9 an9 : Option Addr} {sl9 : Array (Option Value)} {oc9 kV9 dc9 pm9 cd9 ct9 : Value}
    {f10 : Addr} {od10 an10 : Option Addr} {sl10 : Array (Option Value)} {oc10 kV10 dc10 pm10 cd10 ct10 : Value}
    {f11 : Addr} {od11 an11 : Option Addr} {sl11 : Array (Option Value)} {oc11 kV11 dc11 pm11 cd11 ct11 : Value}
    {f12 : Addr} {od12 an12 : Option Addr} {sl12 : Array (Option Value)} {oc12 kV12 dc12 pm12 cd12 ct12 : Value}
    {f13 : Addr} {od13 an13 : Option Addr} {sl13 : Array (Option Value)} {oc13 kV13 dc13 pm13 cd13 ct13 : Value}
    {f14 : Addr} {od14 an14 : Option Addr} {sl14 : Array (Option Value)} {oc14 kV14 dc14 pm14 cd14 ct14 : Value}
    {f15 : Addr} {od15 an15 : Option Addr} {sl15 : Array (Option Value)} {oc15 kV15 dc15 pm15 cd15 ct15 : Value}
    {f16 : Addr} {od16 an16 : Option Addr} {sl16 : Array (Option Value)} {oc16 kV16 dc16 pm16 cd16 ct16 : Value}
    {f17 : Addr} {od17 an17 : Option Addr} {sl17 : Array (Option Value)} {oc17 kV17 dc17 pm17 cd17 ct17 : Value}
    {f18 : Addr} {od18 an18 : Option Addr} {sl18 : Array (Option Value)} {oc18 kV18 dc18 pm18 cd18 ct18 : Value}
    {f19 : Addr} {od19 an19 : Option Addr} {sl19 : Array (Option Value)} {oc19 kV19 dc19 pm19 cd19 ct19 : Value}
    {ck_CHECKSUM_LIMIT : Tok}
    {ck_NUMBER_BYTES : Tok}
    (gC_Reader : PySem.W.nsIn K mainGlobals "Reader" = some (some (.ref C_Reader)))
    (pg_Reader : PySem.W.plainGet K C_Reader Str.empty = true)
    (hd_Reader : PySem.W.hasDictIn K C_Reader = true)
    (po_Reader : PySem.W.plainOver K C_Reader = true)
    (sa_Reader : PySem.W.findIn K (.ref C_Reader) "__setattr__" = some (some (.builtin "object.__setattr__")))
    (mk_Reader : PySem.W.makesIn K C_Reader = true)
    (kc_Reader : PySem.W.keepIn K (.ref C_Reader) = true)
    (n0_Reader : PySem.W.findIn K (.ref C_Reader) "data" = some none)
    (n1_Reader : PySem.W.findIn K (.ref C_Reader) "at" = some none)
    (gC_DamagedPacket : PySem.W.nsIn K mainGlobals "DamagedPacket" = some (some (.ref C_DamagedPacket)))
    (xq_DamagedPacket : PySem.W.excIn K C_DamagedPacket [.type "ValueError", .type "Exception", .type "BaseException", .type "object"] "ValueError.__new__" = true)
    (xk_DamagedPacket : PySem.W.keepIn K (.ref C_DamagedPacket) = true)
    (xb_DamagedPacket : PySem.W.subIn K (.ref C_DamagedPacket) (.type "BaseException") = some true)
    (xt_DamagedPacket : PySem.W.typeIn K (.ref C_DamagedPacket) = some (.type "type"))
    (xc_DamagedPacket : PySem.W.isClsIn K C_DamagedPacket = true)
    (xs_DamagedPacket : PySem.W.subIn K (.ref C_DamagedPacket) (.ref C_DamagedPacket) = some true)
    (a0 : PySem.W.findIn K (.ref C_Reader) "__init__" = some (some (.ref f0)))
    (i0 : PySem.W.isFn K (.ref f0) = true)
    (l0 : K.lookup f0 = some ⟨oc0, od0, .func (PySem.W.fnOf "__init__" "Reader.__init__" (defArgs s_Reader_init) (defBody s_Reader_init) (defScope s_Reader_init) .none kV0 dc0 pm0 an0 cd0 ct0), sl0⟩)
    (c0 : PySem.W.codeIn K cd0 "Reader.__init__" = true)
    (k0 : PySem.W.keepIn K (.ref f0) = true)
    (a1 : PySem.W.findIn K (.ref C_Reader) "read_byte" = some (some (.ref f1)))
    (i1 : PySem.W.isFn K (.ref f1) = true)
    (l1 : K.lookup f1 = some ⟨oc1, od1, .func (PySem.W.fnOf "read_byte" "Reader.read_byte" (defArgs s_Reader_read_byte) (defBody s_Reader_read_byte) (defScope s_Reader_read_byte) .none kV1 dc1 pm1 an1 cd1 ct1), sl1⟩)
    (c1 : PySem.W.codeIn K cd1 "Reader.read_byte" = true)
    (k1 : PySem.W.keepIn K (.ref f1) = true)
    (a2 : PySem.W.findIn K (.ref C_Reader) "read_number" = some (some (.ref f2)))
    (i2 : PySem.W.isFn K (.ref f2) = true)
    (l2 : K.lookup f2 = some ⟨oc2, od2, .func (PySem.W.fnOf "read_number" "Reader.read_number" (defArgs s_Reader_read_number) (defBody s_Reader_read_number) (defScope s_Reader_read_number) .none kV2 dc2 pm2 an2 cd2 ct2), sl2⟩)
    (c2 : PySem.W.codeIn K cd2 "Reader.read_number" = true)
    (k2 : PySem.W.keepIn K (.ref f2) = true)
    (a3 : PySem.W.nsIn K mainGlobals "write_number" = some (some (.ref f3)))
    (l3 : K.lookup f3 = some ⟨oc3, od3, .func (PySem.W.fnOf "write_number" "write_number" (defArgs s_write_number) (defBody s_write_number) (defScope s_write_number) .none kV3 dc3 pm3 an3 cd3 ct3), sl3⟩)
    (c3 : PySem.W.codeIn K cd3 "write_number" = true)
    (k3 : PySem.W.keepIn K (.ref f3) = true)
    (a4 : PySem.W.nsIn K mainGlobals "checksum" = some (some (.ref f4)))
    (l4 : K.lookup f4 = some ⟨oc4, od4, .func (PySem.W.fnOf "checksum" "checksum" (defArgs s_checksum) (defBody s_checksum) (defScope s_checksum) .none kV4 dc4 pm4 an4 cd4 ct4), sl4⟩)
    (c4 : PySem.W.codeIn K cd4 "checksum" = true)
    (k4 : PySem.W.keepIn K (.ref f4) = true)
    (a5 : PySem.W.nsIn K mainGlobals "write_record" = some (some (.ref f5)))
    (l5 : K.lookup f5 = some ⟨oc5, od5, .func (PySem.W.fnOf "write_record" "write_record" (defArgs s_write_record) (defBody s_write_record) (defScope s_write_record) .none kV5 dc5 pm5 an5 cd5 ct5), sl5⟩)
    (c5 : PySem.W.codeIn K cd5 "write_record" = true)
    (k5 : PySem.W.keepIn K (.ref f5) = true)
    (a6 : PySem.W.nsIn K mainGlobals "_read_size" = some (some (.ref f6)))
    (l6 : K.lookup f6 = some ⟨oc6, od6, .func (PySem.W.fnOf "_read_size" "_read_size" (defArgs s__read_size) (defBody s__read_size) (defScope s__read_size) .none kV6 dc6 pm6 an6 cd6 ct6), sl6⟩)
    (c6 : PySem.W.codeIn K cd6 "_read_size" = true)
    (k6 : PySem.W.keepIn K (.ref f6) = true)
    (a7 : PySem.W.nsIn K mainGlobals "read_records" = some (some (.ref f7)))
    (l7 : K.lookup f7 = some ⟨oc7, od7, .func (PySem.W.fnOf "read_records" "read_records" (defArgs s_read_records) (defBody s_read_records) (defScope s_read_records) .none kV7 dc7 pm7 an7 cd7 ct7), sl7⟩)
    (c7 : PySem.W.codeIn K cd7 "read_records" = true)
    (k7 : PySem.W.keepIn K (.ref f7) = true)
    (a8 : PySem.W.nsIn K mainGlobals "_law_mix" = some (some (.ref f8)))
    (l8 : K.lookup f8 = some ⟨oc8, od8, .func (PySem.W.fnOf "_law_mix" "_law_mix" (defArgs s__law_mix) (defBody s__law_mix) (defScope s__law_mix) .none kV8 dc8 pm8 an8 cd8 ct8), sl8⟩)
    (c8 : PySem.W.codeIn K cd8 "_law_mix" = true)
    (k8 : PySem.W.keepIn K (.ref f8) = true)
    (a9 : PySem.W.nsIn K mainGlobals "_law_draws" = some (some (.ref f9)))
    (l9 : K.lookup f9 = some ⟨oc9, od9, .func (PySem.W.fnOf "_law_draws" "_law_draws" (defArgs s__law_draws) (defBody s__law_draws) (defScope s__law_draws) .none kV9 dc9 pm9 an9 cd9 ct9), sl9⟩)
    (c9 : PySem.W.codeIn K cd9 "_law_draws" = true)
    (k9 : PySem.W.keepIn K (.ref f9) = true)
    (a10 : PySem.W.nsIn K mainGlobals "_law_at" = some (some (.ref f10)))
    (l10 : K.lookup f10 = some ⟨oc10, od10, .func (PySem.W.fnOf "_law_at" "_law_at" (defArgs s__law_at) (defBody s__law_at) (defScope s__law_at) .none kV10 dc10 pm10 an10 cd10 ct10), sl10⟩)
    (c10 : PySem.W.codeIn K cd10 "_law_at" = true)
    (k10 : PySem.W.keepIn K (.ref f10) = true)
    (a11 : PySem.W.nsIn K mainGlobals "_law_is_integer" = some (some (.ref f11)))
    (l11 : K.lookup f11 = some ⟨oc11, od11, .func (PySem.W.fnOf "_law_is_integer" "_law_is_integer" (defArgs s__law_is_integer) (defBody s__law_is_integer) (defScope s__law_is_integer) .none kV11 dc11 pm11 an11 cd11 ct11), sl11⟩)
    (c11 : PySem.W.codeIn K cd11 "_law_is_integer" = true)
    (k11 : PySem.W.keepIn K (.ref f11) = true)
    (a12 : PySem.W.nsIn K mainGlobals "_law_same" = some (some (.ref f12)))
    (l12 : K.lookup f12 = some ⟨oc12, od12, .func (PySem.W.fnOf "_law_same" "_law_same" (defArgs s__law_same) (defBody s__law_same) (defScope s__law_same) .none kV12 dc12 pm12 an12 cd12 ct12), sl12⟩)
    (c12 : PySem.W.codeIn K cd12 "_law_same" = true)
    (k12 : PySem.W.keepIn K (.ref f12) = true)
    (a13 : PySem.W.nsIn K mainGlobals "_law_next" = some (some (.ref f13)))
    (l13 : K.lookup f13 = some ⟨oc13, od13, .func (PySem.W.fnOf "_law_next" "_law_next" (defArgs s__law_next) (defBody s__law_next) (defScope s__law_next) .none kV13 dc13 pm13 an13 cd13 ct13), sl13⟩)
    (c13 : PySem.W.codeIn K cd13 "_law_next" = true)
    (k13 : PySem.W.keepIn K (.ref f13) = true)
    (a14 : PySem.W.nsIn K mainGlobals "_law_number" = some (some (.ref f14)))
    (l14 : K.lookup f14 = some ⟨oc14, od14, .func (PySem.W.fnOf "_law_number" "_law_number" (defArgs s__law_number) (defBody s__law_number) (defScope s__law_number) .none kV14 dc14 pm14 an14 cd14 ct14), sl14⟩)
    (c14 : PySem.W.codeIn K cd14 "_law_number" = true)
    (k14 : PySem.W.keepIn K (.ref f14) = true)
    (a15 : PySem.W.nsIn K mainGlobals "_law_checksum" = some (some (.ref f15)))
    (l15 : K.lookup f15 = some ⟨oc15, od15, .func (PySem.W.fnOf "_law_checksum" "_law_checksum" (defArgs s__law_checksum) (defBody s__law_checksum) (defScope s__law_checksum) .none kV15 dc15 pm15 an15 cd15 ct15), sl15⟩)
    (c15 : PySem.W.codeIn K cd15 "_law_checksum" = true)
    (k15 : PySem.W.keepIn K (.ref f15) = true)
    (a16 : PySem.W.nsIn K mainGlobals "_law_record" = some (some (.ref f16)))
    (l16 : K.lookup f16 = some ⟨oc16, od16, .func (PySem.W.fnOf "_law_record" "_law_record" (defArgs s__law_record) (defBody s__law_record) (defScope s__law_record) .none kV16 dc16 pm16 an16 cd16 ct16), sl16⟩)
    (c16 : PySem.W.codeIn K cd16 "_law_record" = true)
    (k16 : PySem.W.keepIn K (.ref f16) = true)
    (a17 : PySem.W.nsIn K mainGlobals "_law_bytes" = some (some (.ref f17)))
    (l17 : K.lookup f17 = some ⟨oc17, od17, .func (PySem.W.fnOf "_law_bytes" "_law_bytes" (defArgs s__law_bytes) (defBody s__law_bytes) (defScope s__law_bytes) .none kV17 dc17 pm17 an17 cd17 ct17), sl17⟩)
    (c17 : PySem.W.codeIn K cd17 "_law_bytes" = true)
    (k17 : PySem.W.keepIn K (.ref f17) = true)
    (a18 : PySem.W.nsIn K mainGlobals "_law_behind" = some (some (.ref f18)))
    (l18 : K.lookup f18 = some ⟨oc18, od18, .func (PySem.W.fnOf "_law_behind" "_law_behind" (defArgs s__law_behind) (defBody s__law_behind) (defScope s__law_behind) .none kV18 dc18 pm18 an18 cd18 ct18), sl18⟩)
    (c18 : PySem.W.codeIn K cd18 "_law_behind" = true)
    (k18 : PySem.W.keepIn K (.ref f18) = true)
    (a19 : PySem.W.nsIn K mainGlobals "law" = some (some (.ref f19)))
    (l19 : K.lookup f19 = some ⟨oc19, od19, .func (PySem.W.fnOf "law" "law" (defArgs s_law) (defBody s_law) (defScope s_law) .none kV19 dc19 pm19 an19 cd19 ct19), sl19⟩)
    (c19 : PySem.W.codeIn K cd19 "law" = true)
    (k19 : PySem.W.keepIn K (.ref f19) = true)
    (cc_CHECKSUM_LIMIT : PySem.W.nsIn K mainGlobals "CHECKSUM_LIMIT" = some (some (.int 4294967296 ck_CHECKSUM_LIMIT)))
    (cc_NUMBER_BYTES : PySem.W.nsIn K mainGlobals "NUMBER_BYTES" = some (some (.int 60 ck_NUMBER_BYTES)))
    (z_bool : PySem.W.nsIn K mainGlobals "bool" = some none)
    (z_int : PySem.W.nsIn K mainGlobals "int" = some none)
    (z_isinstance : PySem.W.nsIn K mainGlobals "isinstance" = some none)
    (z_len : PySem.W.nsIn K mainGlobals "len" = some none)
    (z_list : PySem.W.nsIn K mainGlobals "list" = some none)
    (z_min : PySem.W.nsIn K mainGlobals "min" = some none)
    (z_range : PySem.W.nsIn K mainGlobals "range" = some none)
    (z_str : PySem.W.nsIn K mainGlobals "str" = some none)
    (z_tuple : PySem.W.nsIn K mainGlobals "tuple" = some none) :
    ∃ fd : FuncData, (∀ (s : Shared) (v : Value), BindsTo s fd ⟨[v], []⟩ [("script", v)]) ∧ ∀ base : Heap, K.In base → base.Ns mainGlobals mg → FnOk l.prog w K mg base CX0 10 fa fd ["script"] (up (S_law K Ad0)) := by
  have e := hfa.symm.trans (PySem.W.mg_of X G a19)
  cases e
  have Z : Facts K mg ⟨C_Reader, C_DamagedPacket⟩ := ⟨⟨⟨pg_Reader, hd_Reader, po_Reader, sa_Reader⟩, n0_Reader, n1_Reader, ⟨xq_DamagedPacket, xk_DamagedPacket, xb_DamagedPacket, xt_DamagedPacket, xc_DamagedPacket, xs_DamagedPacket⟩⟩,
    ⟨⟨_, _, ⟨mk_Reader, a0, i0, kc_Reader⟩, fun_mk (st := s_Reader_init) l0 c0 k0⟩⟩,
    ⟨⟨_, _, ⟨a1, i1, k1⟩, fun_mk (st := s_Reader_read_byte) l1 c1 k1⟩⟩,
    ⟨⟨_, _, ⟨a2, i2, k2⟩, fun_mk (st := s_Reader_read_number) l2 c2 k2⟩⟩,
    ⟨⟨_, _, PySem.W.mg_of X G a3, fun_mk (st := s_write_number) l3 c3 k3⟩⟩,
    ⟨⟨_, _, PySem.W.mg_of X G a4, fun_mk (st := s_checksum) l4 c4 k4⟩⟩,
    ⟨⟨_, _, PySem.W.mg_of X G a5, fun_mk (st := s_write_record) l5 c5 k5⟩⟩,
    ⟨⟨_, _, PySem.W.mg_of X G a6, fun_mk (st := s__read_size) l6 c6 k6⟩⟩,
    ⟨⟨_, _, PySem.W.mg_of X G a7, fun_mk (st := s_read_records) l7 c7 k7⟩⟩,
    ⟨⟨_, _, PySem.W.mg_of X G a8, fun_mk (st := s__law_mix) l8 c8 k8⟩⟩,
    ⟨⟨_, _, PySem.W.mg_of X G a9, fun_mk (st := s__law_draws) l9 c9 k9⟩⟩,
    ⟨⟨_, _, PySem.W.mg_of X G a10, fun_mk (st := s__law_at) l10 c10 k10⟩⟩,
    ⟨⟨_, _, PySem.W.mg_of X G a11, fun_mk (st := s__law_is_integer) l11 c11 k11⟩⟩,
    ⟨⟨_, _, PySem.W.mg_of X G a12, fun_mk (st := s__law_same) l12 c12 k12⟩⟩,
    ⟨⟨_, _, PySem.W.mg_of X G a13, fun_mk (st := s__law_next) l13 c13 k13⟩⟩,
    ⟨⟨_, _, PySem.W.mg_of X G a14, fun_mk (st := s__law_number) l14 c14 k14⟩⟩,
    ⟨⟨_, _, PySem.W.mg_of X G a15, fun_mk (st := s__law_checksum) l15 c15 k15⟩⟩,
    ⟨⟨_, _, PySem.W.mg_of X G a16, fun_mk (st := s__law_record) l16 c16 k16⟩⟩,
    ⟨⟨_, _, PySem.W.mg_of X G a17, fun_mk (st := s__law_bytes) l17 c17 k17⟩⟩,
    ⟨⟨_, _, PySem.W.mg_of X G a18, fun_mk (st := s__law_behind) l18 c18 k18⟩⟩,
    ⟨⟨_, _, PySem.W.mg_of X G a19, fun_mk (st := s_law) l19 c19 k19⟩⟩,
    PySem.W.mg_none_of X G z_bool,
    PySem.W.mg_none_of X G z_int,
    PySem.W.mg_none_of X G z_isinstance,
    PySem.W.mg_none_of X G z_len,
    PySem.W.mg_none_of X G z_list,
    PySem.W.mg_none_of X G z_min,
    PySem.W.mg_none_of X G z_range,
    PySem.W.mg_none_of X G z_str,
    PySem.W.mg_none_of X G z_tuple,
    ⟨_, by first | exact ⟨_, rfl⟩ | rfl, PySem.W.mg_of X G cc_CHECKSUM_LIMIT⟩,
    ⟨_, by first | exact ⟨_, rfl⟩ | rfl, PySem.W.mg_of X G cc_NUMBER_BYTES⟩,
    PySem.W.mg_of X G gC_Reader,
    PySem.W.mg_of X G gC_DamagedPacket⟩
  refine ⟨PySem.W.fnOf "law" "law" (defArgs s_law) (defBody s_law) (defScope s_law) .none kV19 dc19 pm19 an19 cd19 ct19, fun s v => .of_eq rfl, fun base _ _ => ?_⟩
  obtain ⟨f, fd, hm, F⟩ := Z.f_law.ex
  have e := hm.symm.trans (PySem.W.mg_of X G a19)
  cases e
  exact fnok0 (S := S_law K ⟨C_Reader, C_DamagedPacket⟩) (t := t_law K ⟨C_Reader, C_DamagedPacket⟩) (fun_mk (st := s_law) l19 c19 k19) sc_law len_law (fun f cdv A0 outer s H E hr => (pss_cons (ps_set (i := 1) sc_law.nd rfl (by first | exact Or.inl rfl | exact Or.inr rfl) (pe_lst (pa_cons (pe_callH (has__law_draws Z) (hr.mono (by decide)) (by rfl) pass0 (pa_cons (pv 0) pa_nil)) (pa_cons pe_int pa_nil)))) (pss_cons (ps_setLc (i := 2) (own := [("k", 8)]) (g := (gName 8)) (by rfl) sc_law.nd rfl rfl (sw_true rfl rfl rfl (by decide +kernel)) (pi_range1 (by rfl) Z.b_range (pa_cons (pe_callH (has__law_next Z) (hr.mono (by decide)) (by rfl) pass0 (pa_cons (pv 1) (pa_cons pe_int pa_nil))) pa_nil)) (blkOk_by (own := [("k", 8)]) (N := ["script", "state", "records", "data", "sizes", "record", "passed", "whole", "k", "end", "count", "size"]) (sc := defScope s_law) (by decide +kernel)) (fun _ _ _ _ _ => (pg_name (i := 8) sc_law.nd rfl (by first | exact Or.inl rfl | exact Or.inr rfl))) (fun _ _ _ _ _ => pts_nil) (fun _ _ _ _ _ => (pe_callH (has__law_bytes Z) (hr.mono (by decide)) (by rfl) pass0 (pa_cons (pv 1) pa_nil)))) (pss_cons (ps_set (i := 3) sc_law.nd rfl (by first | exact Or.inl rfl | exact Or.inr rfl) (pe_lst pa_nil)) (pss_cons (ps_set (i := 4) sc_law.nd rfl (by first | exact Or.inl rfl | exact Or.inr rfl) (pe_lst (pa_cons pe_int pa_nil))) (pss_cons (ps_for PassesOwn.never rfl (pi_list (pv 2)) (pg_name (i := 5) sc_law.nd rfl (by first | exact Or.inl rfl | exact Or.inr rfl)) (pss_cons (ps_set (i := 6) sc_law.nd rfl (by first | exact Or.inl rfl | exact Or.inr rfl) (pe_callTy call_listU (by rfl) Z.b_list (by decide +kernel) (pa_cons (pv 5) pa_nil))) (pss_cons (ps_if (PW.pt (pw_or (pt_not (pt_tru (pe_callH (has__law_same Z) (hr.mono (by decide)) (by rfl) pass0 (pa_cons (pe_callH (has_checksum Z) (hr.mono (by decide)) (by rfl) pass0 (pa_cons (pv 6) pa_nil)) (pa_cons (pe_callH (has__law_checksum Z) (hr.mono (by decide)) (by rfl) pass0 (pa_cons (pv 5) pa_nil)) pa_nil))))) (pw_or1 (pt_not (pt_tru (pe_callH (has__law_same Z) (hr.mono (by decide)) (by rfl) pass0 (pa_cons (pe_callH (has_write_record Z) (hr.mono (by decide)) (by rfl) pass0 (pa_cons (pv 6) pa_nil)) (pa_cons (pe_callH (has__law_record Z) (hr.mono (by decide)) (by rfl) pass0 (pa_cons (pv 5) pa_nil)) pa_nil)))))))) (pss_one (ps_ret pe_bl)) pss_nil) (pss_cons (ps_if (pt_cmpR (op_neU (rm64 hr)) (pv 6) (pv 5) (nomark _)) (pss_one (ps_ret pe_bl)) pss_nil) (pss_cons (ps_set (i := 3) sc_law.nd rfl (by first | exact Or.inl rfl | exact Or.inr rfl) (pe_op op_addU (pv 3) (pe_callH (has__law_record Z) (hr.mono (by decide)) (by rfl) pass0 (pa_cons (pv 5) pa_nil)))) (pss_one (ps_expr (pe_bm PySem.F.plainAttrs_list PySem.F.slot_list_append PySem.F.type_list_append mt_append (pv 4) (pa_cons (pe_callB call_lenU (by rfl) Z.b_len (by decide +kernel) (pa_cons (pv 3) pa_nil)) pa_nil))))))))) (pss_cons (ps_set (i := 7) sc_law.nd rfl (by first | exact Or.inl rfl | exact Or.inr rfl) (pe_op op_addU (pv 3) (pe_callH (has__law_behind Z) (hr.mono (by decide)) (by rfl) pass0 (pa_cons (pv 1) pa_nil)))) (pss_cons (ps_set (i := 6) sc_law.nd rfl (by first | exact Or.inl rfl | exact Or.inr rfl) (pe_callTy call_listU (by rfl) Z.b_list (by decide +kernel) (pa_cons (pv 7) pa_nil))) (pss_cons (ps_if (PW.pt (pw_or (pt_not (pt_tru (pe_callH (has__law_same Z) (hr.mono (by decide)) (by rfl) pass0 (pa_cons (pe_callH (has_read_records Z) (hr.mono (by decide)) (by rfl) pass0 (pa_cons (pv 6) pa_nil)) (pa_cons (pe_tup (pa_cons (pv 2) (pa_cons (pe_callB call_lenU (by rfl) Z.b_len (by decide +kernel) (pa_cons (pv 3) pa_nil)) pa_nil))) pa_nil))))) (pw_or1 (pt_cmpR (op_neU (rm64 hr)) (pv 6) (pv 7) (nomark _))))) (pss_one (ps_ret pe_bl)) pss_nil) (pss_cons (ps_for PassesOwn.never rfl (pi_range1 (by rfl) Z.b_range (pa_cons pe_int pa_nil)) (pg_name (i := 8) sc_law.nd rfl (by first | exact Or.inl rfl | exact Or.inr rfl)) (pss_cons (ps_set (i := 9) sc_law.nd rfl (by first | exact Or.inl rfl | exact Or.inr rfl) (pe_callH (has__law_next Z) (hr.mono (by decide)) (by rfl) pass0 (pa_cons (pv 1) (pa_cons (pe_op op_addU (pe_callB call_lenU (by rfl) Z.b_len (by decide +kernel) (pa_cons (pv 3) pa_nil)) pe_int) pa_nil)))) (pss_cons (ps_set (i := 10) sc_law.nd rfl (by first | exact Or.inl rfl | exact Or.inr rfl) (pe_op op_subI (pe_callB call_lenU (by rfl) Z.b_len (by decide +kernel) (pa_cons (pe_lc (own := [("size", 11)]) (g := (gName 11)) (by rfl) sc_law.nd (pi_list (pv 4)) (blkOk_by (own := [("size", 11)]) (N := ["script", "state", "records", "data", "sizes", "record", "passed", "whole", "k", "end", "count", "size"]) (sc := defScope s_law) (by decide +kernel)) (fun _ _ _ _ _ => (pg_name (i := 11) sc_law.nd rfl (by first | exact Or.inl rfl | exact Or.inr rfl))) (fun _ _ _ _ _ => (pts_one (pt_cmpR op_leU (pv 11) (pv 9) (nomark _)))) (fun _ _ _ _ _ => (pv 11))) pa_nil)) pe_int)) (pss_cons (ps_set (i := 6) sc_law.nd rfl (by first | exact Or.inl rfl | exact Or.inr rfl) (pe_slice sl_U (pv 3) po_none (po_some (pv 9)))) (pss_one (ps_if (PW.pt (pw_or (pt_not (pt_tru (pe_callH (has__law_same Z) (hr.mono (by decide)) (by rfl) pass0 (pa_cons (pe_callH (has_read_records Z) (hr.mono (by decide)) (by rfl) pass0 (pa_cons (pv 6) pa_nil)) (pa_cons (pe_tup (pa_cons (pe_slice sl_U (pv 2) po_none (po_some (pv 10))) (pa_cons (pe_ix ix_seq (pv 4) (pv 10) (fun _ _ => rfl)) pa_nil))) pa_nil))))) (pw_or1 (pt_cmpR (op_neU (rm64 hr)) (pv 6) (pe_slice sl_U (pv 3) po_none (po_some (pv 9))) (nomark _))))) (pss_one (ps_ret pe_bl)) pss_nil)))))) (pss_one (ps_ret (pe_and (pe_callH (has__law_same Z) (hr.mono (by decide)) (by rfl) pass0 (pa_cons (pe_callH (has_read_records Z) (hr.mono (by decide)) (by rfl) pass0 (pa_cons (pe_lst pa_nil) pa_nil)) (pa_cons (pe_tup (pa_cons (pe_lst pa_nil) (pa_cons pe_int pa_nil))) pa_nil))) (pe_one (pe_callH (has__law_same Z) (hr.mono (by decide)) (by rfl) pass0 (pa_cons (pe_callH (has_write_record Z) (hr.mono (by decide)) (by rfl) pass0 (pa_cons (pe_lst pa_nil) pa_nil)) (pa_cons (pe_lst (pa_cons pe_int (pa_cons pe_int (pa_cons pe_int (pa_cons pe_int (pa_cons pe_int pa_nil)))))) pa_nil))))))))))))))))) ok_law
end Lw
open PySem PySem.W PyProof.Rows
set_option maxRecDepth 100000 in
set_option maxHeartbeats 0 in
theorem PySem.Challenge.cw_samemeant_k11_records_holds : PySem.Challenge.rw_samemeant_k11_records.Holds := by
  w_on; o_law; k_head; (case hw => w_witness2)
  k_fill
  refine L2.walk_of (l := PySem.Challenge.rw_samemeant_k11_records) (n := 63) (k := 10) (x := "script") (CX := fun _ => L2.CX0) (sp := fun w => Lw.up (Lw.S_law _ Lw.Ad0)) rfl (by decide) rfl ⟨rfl, by decide, by decide⟩ (fun w h Y => PySem.W.kIn_of Y) ?F (fun _ H a ns hl _ hS => Lw.law_sp hl hS) (fun _ _ _ _ _ h => h)
  case F =>
    intro w mg fa h KX G hmg
    refine' Lw.all_mk KX G hmg ?gC_Reader ?pg_Reader ?hd_Reader ?po_Reader ?sa_Reader ?mk_Reader ?kc_Reader ?n0_Reader ?n1_Reader ?gC_DamagedPacket ?xq_DamagedPacket ?xk_DamagedPacket ?xb_DamagedPacket ?xt_DamagedPacket ?xc_DamagedPacket ?xs_DamagedPacket ?a0 ?i0 ?l0 ?c0 ?k0 ?a1 ?i1 ?l1 ?c1 ?k1 ?a2 ?i2 ?l2 ?c2 ?k2 ?a3 ?l3 ?c3 ?k3 ?a4 ?l4 ?c4 ?k4 ?a5 ?l5 ?c5 ?k5 ?a6 ?l6 ?c6 ?k6 ?a7 ?l7 ?c7 ?k7 ?a8 ?l8 ?c8 ?k8 ?a9 ?l9 ?c9 ?k9 ?a10 ?l10 ?c10 ?k10 ?a11 ?l11 ?c11 ?k11 ?a12 ?l12 ?c12 ?k12 ?a13 ?l13 ?c13 ?k13 ?a14 ?l14 ?c14 ?k14 ?a15 ?l15 ?c15 ?k15 ?a16 ?l16 ?c16 ?k16 ?a17 ?l17 ?c17 ?k17 ?a18 ?l18 ?c18 ?k18 ?a19 ?l19 ?c19 ?k19 ?cc_CHECKSUM_LIMIT ?cc_NUMBER_BYTES ?z_bool ?z_int ?z_isinstance ?z_len ?z_list ?z_min ?z_range ?z_str ?z_tuple
    (case gC_Reader => k_is)
    (case pg_Reader => k_is)
    (case hd_Reader => k_is)
    (case po_Reader => k_is)
    (case sa_Reader => k_is)
    (case mk_Reader => k_is)
    (case kc_Reader => k_is)
    (case n0_Reader => k_is)
    (case n1_Reader => k_is)
    (case gC_DamagedPacket => k_is)
    (case xq_DamagedPacket => k_exc)
    (case xk_DamagedPacket => k_is)
    (case xb_DamagedPacket => k_is)
    (case xt_DamagedPacket => k_is)
    (case xc_DamagedPacket => k_is)
    (case xs_DamagedPacket => first | rfl | k_is)
    (case a0 => k_is)
    (case i0 => k_is)
    (case l0 => k_is)
    (case c0 => k_is)
    (case k0 => k_is)
    (case a1 => k_is)
    (case i1 => k_is)
    (case l1 => k_is)
    (case c1 => k_is)
    (case k1 => k_is)
    (case a2 => k_is)
    (case i2 => k_is)
    (case l2 => k_is)
    (case c2 => k_is)
    (case k2 => k_is)
    (case a3 => k_is)
    (case l3 => k_is)
    (case c3 => k_is)
    (case k3 => k_is)
    (case a4 => k_is)
    (case l4 => k_is)
    (case c4 => k_is)
    (case k4 => k_is)
    (case a5 => k_is)
    (case l5 => k_is)
    (case c5 => k_is)
    (case k5 => k_is)
    (case a6 => k_is)
    (case l6 => k_is)
    (case c6 => k_is)
    (case k6 => k_is)
    (case a7 => k_is)
    (case l7 => k_is)
    (case c7 => k_is)
    (case k7 => k_is)
    (case a8 => k_is)
    (case l8 => k_is)
    (case c8 => k_is)
    (case k8 => k_is)
    (case a9 => k_is)
    (case l9 => k_is)
    (case c9 => k_is)
    (case k9 => k_is)
    (case a10 => k_is)
    (case l10 => k_is)
    (case c10 => k_is)
    (case k10 => k_is)
    (case a11 => k_is)
    (case l11 => k_is)
    (case c11 => k_is)
    (case k11 => k_is)
    (case a12 => k_is)
    (case l12 => k_is)
    (case c12 => k_is)
    (case k12 => k_is)
    (case a13 => k_is)
    (case l13 => k_is)
    (case c13 => k_is)
    (case k13 => k_is)
    (case a14 => k_is)
    (case l14 => k_is)
    (case c14 => k_is)
    (case k14 => k_is)
    (case a15 => k_is)
    (case l15 => k_is)
    (case c15 => k_is)
    (case k15 => k_is)
    (case a16 => k_is)
    (case l16 => k_is)
    (case c16 => k_is)
    (case k16 => k_is)
    (case a17 => k_is)
    (case l17 => k_is)
    (case c17 => k_is)
    (case k17 => k_is)
    (case a18 => k_is)
    (case l18 => k_is)
    (case c18 => k_is)
    (case k18 => k_is)
    (case a19 => k_is)
    (case l19 => k_is)
    (case c19 => k_is)
    (case k19 => k_is)
    (case cc_CHECKSUM_LIMIT => k_is)
    (case cc_NUMBER_BYTES => k_is)
    (case z_bool => k_is)
    (case z_int => k_is)
    (case z_isinstance => k_is)
    (case z_len => k_is)
    (case z_list => k_is)
    (case z_min => k_is)
    (case z_range => k_is)
    (case z_str => k_is)
    (case z_tuple => k_is)
