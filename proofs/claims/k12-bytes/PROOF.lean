import PyProof.Rows.All
import Wide.All
import OpenK.AllK
import Wide.FinOn
import HandS.ForMost
import HandS.ForExc
import HandS.Walk
import HandS.Steps
import HandS.Deep
import HandS.IsInst
import HandS.Wide
import HandS.SortKw
import HandS.Lambda
import HandS.More
import HandS.ExcOwn
import HandS.TryOnly
import HandS.WordsExc
import KE.GoesComp
import KE.GoesRaise
import PySem.Challenge.RW_samemeant_k12_bytes_written_and_read
set_option Elab.async false
set_option linter.all false
set_option maxRecDepth 100000
set_option maxHeartbeats 1000000
namespace Lw
open PySem PySem.Spec PyProof.Rows L2

/-! ## known heaps: G is what is known of the heap H -/
def Ex (G H : Hp) : Prop := ∀ a o, G a = some o → H a = some o
theorem Ex.refl (H : Hp) : Ex H H := fun _ _ h => h
theorem Ex.trans {G H I : Hp} (a : Ex G H) (b : Ex H I) : Ex G I := fun x o h => b x o (a x o h)
theorem Ex.get {G H : Hp} {a : Addr} {o : HO} (e : Ex G H) (h : G a = some o) : H a = some o := e a o h
theorem Ex.nul {G H : Hp} {a : Addr} (e : Ex G H) (h : H a = none) : G a = none := by
  cases q : G a with
  | none => rfl
  | some o => rw [e a o q] at h; cases h
theorem Ex.new {H : Hp} {p : Addr} {o : HO} (h : H p = none) : Ex H (upd H p o) := fun a u e => by
  rw [upd_ne (ne_of_none e h)]; exact e
theorem Ex.mut {G H : Hp} {p : Addr} {o : HO} (e : Ex G H) (h : G p = none) : Ex G (upd H p o) := fun a u ha => by
  rw [upd_ne (ne_of_none ha h)]; exact e a u ha
theorem Ex.put {G H : Hp} {p : Addr} {o : HO} (e : Ex G H) : Ex (upd G p o) (upd H p o) := fun a u ha => by
  by_cases q : a = p
  · subst q; rw [upd_same] at ha ⊢; exact ha
  · rw [upd_ne q] at ha ⊢; exact e a u ha
theorem Ex.putL {G H : Hp} {p : Addr} {o : HO} (e : Ex G H) (h : H p = some o) : Ex (upd G p o) H := fun a u ha => by
  by_cases q : a = p
  · subst q; rw [upd_same] at ha; cases ha; exact h
  · rw [upd_ne q] at ha; exact e a u ha
theorem Ex.rd {G H : Hp} {a : Addr} {u : HO} (e : Ex G H) (h : Rd G a u) : Rd H a u := by
  rcases h with h | ⟨o, h⟩
  · exact .inl (e a _ h)
  · exact .inr ⟨o, e a _ h⟩
theorem Ex.sl {K : PySem.W.Frag} {G H : Hp} {a : Addr} {xs : List V} (e : Ex G H) (h : SqL K G a xs) : SqL K H a xs := by
  rcases h with h | h
  · exact .inl (e.rd h)
  · exact .inr h
theorem Ex.st {K : PySem.W.Frag} {G H : Hp} {a : Addr} {xs : List V} (e : Ex G H) (h : SqT K G a xs) : SqT K H a xs := by
  rcases h with h | h
  · exact .inl (e.rd h)
  · exact .inr h
mutual
theorem Ex.dp {K : PySem.W.Frag} {G H : Hp} (e : Ex G H) : ∀ {v : V} {d : PyData}, Dp K G v d → Dp K H v d
  | _, _, .non => .non
  | _, _, .bl b => .bl b
  | _, _, .int i => .int i
  | _, _, .str x => .str x
  | _, _, .lst s h => .lst (e.sl s) (e.dps h)
  | _, _, .tup s h => .tup (e.st s) (e.dps h)
theorem Ex.dps {K : PySem.W.Frag} {G H : Hp} (e : Ex G H) : ∀ {v : List V} {d : List PyData}, DpAll K G v d → DpAll K H v d
  | _, _, .nil => .nil
  | _, _, .cons h t => .cons (e.dp h) (e.dps t)
end

/-! ## the judgements over known heaps -/
def Ee (te : TE) (σ : L2.St) (G : Hp) (Q : V → Hp → Prop) : Prop := ∀ (H : Hp) (Q' : VK), Ex G H → (∀ v G' H', Ex G' H' → Q v G' → Q' v H') → te σ H Q'
def Et (t : TT) (σ : L2.St) (G : Hp) (Q : Bool → Hp → Prop) : Prop := ∀ (H : Hp) (Q' : Bool → Hp → Prop), Ex G H → (∀ v G' H', Ex G' H' → Q v G' → Q' v H') → t σ H Q'
def Ea (t : TA) (σ : L2.St) (G : Hp) (Q : List V → Hp → Prop) : Prop := ∀ (H : Hp) (Q' : List V → Hp → Prop), Ex G H → (∀ v G' H', Ex G' H' → Q v G' → Q' v H') → t σ H Q'
def Eo (t : TO) (σ : L2.St) (G : Hp) (Q : Option Int → Hp → Prop) : Prop := ∀ (H : Hp) (Q' : Option Int → Hp → Prop), Ex G H → (∀ v G' H', Ex G' H' → Q v G' → Q' v H') → t σ H Q'
def Er (r : R2) (x y : V) (G : Hp) (Q : V → Hp → Prop) : Prop := ∀ (H : Hp) (Q' : VK), Ex G H → (∀ v G' H', Ex G' H' → Q v G' → Q' v H') → r x y H Q'
def Eu (r : V → Hp → VK → Prop) (x : V) (G : Hp) (Q : V → Hp → Prop) : Prop := ∀ (H : Hp) (Q' : VK), Ex G H → (∀ v G' H', Ex G' H' → Q v G' → Q' v H') → r x H Q'
def Ec (r : List V → Hp → VK → Prop) (x : List V) (G : Hp) (Q : V → Hp → Prop) : Prop := ∀ (H : Hp) (Q' : VK), Ex G H → (∀ v G' H', Ex G' H' → Q v G' → Q' v H') → r x H Q'
def Em (r : V → List V → Hp → VK → Prop) (x : V) (xs : List V) (G : Hp) (Q : V → Hp → Prop) : Prop := ∀ (H : Hp) (Q' : VK), Ex G H → (∀ v G' H', Ex G' H' → Q v G' → Q' v H') → r x xs H Q'
def Ew (r : V → Option Int → Option Int → Hp → VK → Prop) (x : V) (lo hi : Option Int) (G : Hp) (Q : V → Hp → Prop) : Prop := ∀ (H : Hp) (Q' : VK), Ex G H → (∀ v G' H', Ex G' H' → Q v G' → Q' v H') → r x lo hi H Q'
def Eg (g : TG) (v : V) (σ : L2.St) (G : Hp) (Q : L2.St → Hp → Prop) : Prop := ∀ (H : Hp) (Q' : L2.St → Hp → Prop), Ex G H → (∀ σ' G' H', Ex G' H' → Q σ' G' → Q' σ' H') → g v σ H Q'
def Egs (g : TGs) (v : List V) (σ : L2.St) (G : Hp) (Q : L2.St → Hp → Prop) : Prop := ∀ (H : Hp) (Q' : L2.St → Hp → Prop), Ex G H → (∀ σ' G' H', Ex G' H' → Q σ' G' → Q' σ' H') → g v σ H Q'
def Ez (t : TSet) (o i v : V) (G : Hp) (Q : Hp → Prop) : Prop := ∀ (H : Hp) (Q' : Hp → Prop), Ex G H → (∀ G' H', Ex G' H' → Q G' → Q' H') → t o i v H Q'
def Eip (t : TIp) (x y : V) (G : Hp) (Q : V → Hp → Prop) : Prop := ∀ (H : Hp) (Q' : VK), Ex G H → (∀ v G' H', Ex G' H' → Q v G' → Q' v H') → t x y H Q'
/-- what is wanted behind a statement, over known heaps -/
structure Ek where
  nx : L2.St → Hp → Prop
  rt : V → Hp → Prop
  bk : L2.St → Hp → Prop := fun _ _ => False
  ct : L2.St → Hp → Prop := fun _ _ => False
structure Lf (D : Ek) (D' : Ends) : Prop where
  nx : ∀ σ G H, Ex G H → D.nx σ G → D'.nx σ H
  rt : ∀ v G H, Ex G H → D.rt v G → D'.rt v H
  bk : ∀ σ G H, Ex G H → D.bk σ G → D'.bk σ H
  ct : ∀ σ G H, Ex G H → D.ct σ G → D'.ct σ H
def Es (t : TS) (D : Ek) (σ : L2.St) (G : Hp) : Prop := ∀ (H : Hp) (D' : Ends), Ex G H → Lf D D' → t D' σ H

section
variable {σ : L2.St} {G G' : Hp} {Q : V → Hp → Prop} {D : Ek}
theorem Es.weak {t : TS} (e : Ex G G') (h : Es t D σ G) : Es t D σ G' := fun H D' x l => h H D' (e.trans x) l
theorem Ea.weak {t : TA} {Q : List V → Hp → Prop} (e : Ex G G') (h : Ea t σ G Q) : Ea t σ G' Q := fun H D' x l => h H D' (e.trans x) l
theorem Ee.weak {t : TE} (e : Ex G G') (h : Ee t σ G Q) : Ee t σ G' Q := fun H D' x l => h H D' (e.trans x) l
theorem Ee.mono {t : TE} {Q2 : V → Hp → Prop} (h : Ee t σ G Q) (q : ∀ v G, Q v G → Q2 v G) : Ee t σ G Q2 := fun H D' x l => h H D' x fun v G' H' e z => l v G' H' e (q v G' z)

/-! ### names, constants, arguments -/
theorem ee_var {i : Nat} {v : V} (h : σ[i]? = some (some v)) (q : Q v G) : Ee (tVar i) σ G Q := fun H Q' e l => ⟨v, h, l v G H e q⟩
theorem ee_c {v : V} (q : Q v G) : Ee (tC v) σ G Q := fun H Q' e l => l v G H e q
theorem ea_nil {Q : List V → Hp → Prop} (q : Q [] G) : Ea tNil σ G Q := fun H Q' e l => l [] G H e q
theorem ea_cons {ta : TE} {tr : TA} {Q : List V → Hp → Prop} (h : Ee ta σ G fun x G1 => Ea tr σ G1 fun xs G2 => Q (x :: xs) G2) : Ea (tCons ta tr) σ G Q := fun H Q' e l =>
  h H _ e fun x G1 H1 e1 h1 => h1 H1 _ e1 fun xs G2 H2 e2 h2 => l (x :: xs) G2 H2 e2 h2
/-! ### operators -/
theorem ee_op {r : R2} {ta tb : TE} (h : Ee ta σ G fun x G1 => Ee tb σ G1 fun y G2 => Er r x y G2 Q) : Ee (tOp r ta tb) σ G Q := fun H Q' e l =>
  h H _ e fun x G1 H1 e1 h1 => h1 H1 _ e1 fun y G2 H2 e2 h2 => h2 H2 Q' e2 l
theorem ee_un {r : V → Hp → VK → Prop} {ta : TE} (h : Ee ta σ G fun x G1 => Eu r x G1 Q) : Ee (tUn r ta) σ G Q := fun H Q' e l =>
  h H _ e fun x G1 H1 e1 h1 => h1 H1 Q' e1 l
theorem eu_neg {i : Int} (q : Q (.int (-i)) G) : Eu (rU fun i => .int (-i)) (.int i) G Q := fun H Q' e l => ⟨i, rfl, l _ G H e q⟩
theorem er_I0 {g : Int → Int → V} {i j : Int} (q : Q (g i j) G) : Er (rI0 g) (.int i) (.int j) G Q := fun H Q' e l => ⟨i, j, rfl, rfl, l _ G H e q⟩
theorem er_I {C : Int → Int → Prop} {g : Int → Int → V} {i j : Int} (c : C i j) (q : Q (g i j) G) : Er (rI C g) (.int i) (.int j) G Q := fun H Q' e l => ⟨i, j, rfl, rfl, c, l _ G H e q⟩
/-- by cases -/
def rOr (r r' : R2) : R2 := fun x y H Q => r x y H Q ∨ r' x y H Q
theorem er_orL {r r' : R2} {x y : V} (h : Er r x y G Q) : Er (rOr r r') x y G Q := fun H Q' e l => .inl (h H Q' e l)
theorem er_orR {r r' : R2} {x y : V} (h : Er r' x y G Q) : Er (rOr r r') x y G Q := fun H Q' e l => .inr (h H Q' e l)
theorem opr_or {X : Cx} {f : Value → Value → Sem Value} {r r' : R2} (h : OpR X f r) (h' : OpR X f r') : OpR X f (rOr r r') := h.or h'
/-! plus -/
def rIAdd : R2 := rI0 fun i j => .int (i + j)
def rSAdd : R2 := fun x y H Q => ∃ i j, x = .str i ∧ y = .str j ∧ i.length + j.length ≤ sizeLine ∧ Q (.str (i ++ j)) H
def rAddU (K : PySem.W.Frag) : R2 := rOr rIAdd (rOr rSAdd (rOr rCat (rCatT K)))
theorem op_addU {X : Cx} : OpR X (binaryOp .Add) (rAddU X.K) := opr_or op_add (opr_or op_add_str (opr_or op_cat op_catT))
theorem er_addI {K : PySem.W.Frag} {i j : Int} (q : Q (.int (i + j)) G) : Er (rAddU K) (.int i) (.int j) G Q := er_orL (er_I0 (g := fun i j => .int (i + j)) q)
theorem er_addS {K : PySem.W.Frag} {i j : Str} (hz : i.length + j.length ≤ sizeLine) (q : Q (.str (i ++ j)) G) : Er (rAddU K) (.str i) (.str j) G Q :=
  er_orR (er_orL fun H Q' e l => ⟨i, j, rfl, rfl, hz, l _ G H e q⟩)
theorem er_addL {K : PySem.W.Frag} {a b : Addr} {xs ys : List V} (ha : G a = some (.lst xs)) (hb : G b = some (.lst ys)) (hz : xs.length + ys.length ≤ sizeLine) (q : ∀ p, G p = none → Q (.ref p) (upd G p (.lst (xs ++ ys)))) :
    Er (rAddU K) (.ref a) (.ref b) G Q :=
  er_orR (er_orR (er_orL fun H Q' e l => ⟨a, b, xs, ys, rfl, rfl, e _ _ ha, e _ _ hb, hz, fun p hp => l _ _ _ e.put (q p (e.nul hp))⟩))
theorem er_addT {K : PySem.W.Frag} {a b : Addr} {xs ys : List V} (ha : SqT K G a xs) (hb : SqT K G b ys) (hx : xs ≠ []) (hy : ys ≠ []) (hz : xs.length + ys.length ≤ sizeLine) (q : ∀ p, G p = none → Q (.ref p) (upd G p (.tup (xs ++ ys)))) :
    Er (rAddU K) (.ref a) (.ref b) G Q :=
  er_orR (er_orR (er_orR fun H Q' e l => ⟨a, b, xs, ys, rfl, rfl, e.st ha, e.st hb, hx, hz, fun h => absurd h hy, fun _ p hp => l _ _ _ e.put (q p (e.nul hp))⟩))
/-! minus, times, floor, rest, power -/
def rSubI : R2 := rI0 fun i j => .int (i - j)
theorem op_subI {X : Cx} : OpR X (binaryOp .Sub) rSubI := op_sub
theorem er_subI {i j : Int} (q : Q (.int (i - j)) G) : Er rSubI (.int i) (.int j) G Q := er_I0 (g := fun i j => .int (i - j)) q
def rMulI : R2 := rOr (rI CMul fun i j => .int (i * j)) (rI CMulW fun i j => .int (i * j))
def rMulU : R2 := rOr rMulI rRep
theorem op_mulU {X : Cx} : OpR X (binaryOp .Mult) rMulU := opr_or (opr_or op_mul op_mulW) op_rep
theorem er_mulL {i j : Int} (h : -(2 ^ 64) < i ∧ i < 2 ^ 64) (q : Q (.int (i * j)) G) : Er rMulU (.int i) (.int j) G Q := er_orL (er_orL (er_I (C := CMul) (g := fun i j => .int (i * j)) (.inl h) q))
theorem er_mulR {i j : Int} (h : -(2 ^ 64) < j ∧ j < 2 ^ 64) (q : Q (.int (i * j)) G) : Er rMulU (.int i) (.int j) G Q := er_orL (er_orL (er_I (C := CMul) (g := fun i j => .int (i * j)) (.inr h) q))
theorem er_mulW {i j : Int} (h : CMulW i j) (q : Q (.int (i * j)) G) : Er rMulU (.int i) (.int j) G Q := er_orL (er_orR (er_I (C := CMulW) (g := fun i j => .int (i * j)) h q))
theorem er_rep {a : Addr} {k : Int} {xs : List V} (ha : G a = some (.lst xs)) (h1 : -(2 ^ 63) ≤ k) (h2 : k < 2 ^ 63) (hz : xs.length * k.toNat ≤ sizeLine) (q : ∀ p, G p = none → Q (.ref p) (upd G p (.lst (List.replicate k.toNat xs).flatten))) :
    Er rMulU (.ref a) (.int k) G Q := er_orR fun H Q' e l => ⟨a, k, xs, rfl, rfl, e _ _ ha, h1, h2, hz, fun p hp => l _ _ _ e.put (q p (e.nul hp))⟩
def rDivU : R2 := rOr (rI CDiv fun i j => .int (i / j)) (rI CDivW fun i j => .int (i / j))
theorem op_divU {X : Cx} : OpR X (binaryOp .FloorDiv) rDivU := opr_or op_fdiv op_fdivW
theorem er_div {i j : Int} (h : 0 < j ∧ j < 1073741824) (q : Q (.int (i / j)) G) : Er rDivU (.int i) (.int j) G Q := er_orL (er_I (C := CDiv) (g := fun i j => .int (i / j)) h q)
theorem er_divW {i j : Int} (h : CDivW i j) (q : Q (.int (i / j)) G) : Er rDivU (.int i) (.int j) G Q := er_orR (er_I (C := CDivW) (g := fun i j => .int (i / j)) h q)
def rModU : R2 := rI (fun _ j => 0 < j) fun i j => .int (i % j)
theorem op_modU {X : Cx} : OpR X (binaryOp .Mod) rModU := op_mod
theorem er_mod {i j : Int} (h : 0 < j) (q : Q (.int (i % j)) G) : Er rModU (.int i) (.int j) G Q := er_I (C := fun _ j => 0 < j) (g := fun i j => .int (i % j)) h q
def rPowU : R2 := rI CPow fun i j => .int (i ^ j.toNat)
theorem op_powU {X : Cx} : OpR X (binaryOp .Pow) rPowU := op_pow
theorem er_pow {i j : Int} (h : 0 ≤ j ∧ j ≤ 1000000 ∧ i.natAbs < 2 ^ 64) (q : Q (.int (i ^ j.toNat)) G) : Er rPowU (.int i) (.int j) G Q := er_I (C := CPow) (g := fun i j => .int (i ^ j.toNat)) h q
/-! comparisons -/
def rEqU (K : PySem.W.Frag) : R2 := rOr rEq (rEqD K)
def rNeU (K : PySem.W.Frag) : R2 := rOr rNe (rNeD K)
theorem op_eqU {X : Cx} (hu : X.A.units + 64 < cLine) : OpR X (compareOp .Eq) (rEqU X.K) := opr_or op_eq (op_eqD hu)
theorem op_neU {X : Cx} (hu : X.A.units + 64 < cLine) : OpR X (compareOp .NotEq) (rNeU X.K) := opr_or op_ne (op_neD hu)
theorem er_eqI {K : PySem.W.Frag} {i j : Int} (q : Q (.bl (decide (i = j))) G) : Er (rEqU K) (.int i) (.int j) G Q := er_orL fun H Q' e l => ⟨rfl, l _ G H e (by
  rw [show decide (V.int i = V.int j) = decide (i = j) by rw [dec_int]; exact Bool.beq_eq_decide_eq i j]; exact q)⟩
theorem er_neI {K : PySem.W.Frag} {i j : Int} (q : Q (.bl (!decide (i = j))) G) : Er (rNeU K) (.int i) (.int j) G Q := er_orL fun H Q' e l => ⟨rfl, l _ G H e (by
  rw [show decide (V.int i = V.int j) = decide (i = j) by rw [dec_int]; exact Bool.beq_eq_decide_eq i j]; exact q)⟩
theorem er_eqS {K : PySem.W.Frag} {i j : Str} (q : Q (.bl (decide (i = j))) G) : Er (rEqU K) (.str i) (.str j) G Q := er_orL fun H Q' e l => ⟨rfl, l _ G H e (by
  rw [show decide (V.str i = V.str j) = decide (i = j) by by_cases h : i = j <;> simp [h]]; exact q)⟩
theorem er_neS {K : PySem.W.Frag} {i j : Str} (q : Q (.bl (!decide (i = j))) G) : Er (rNeU K) (.str i) (.str j) G Q := er_orL fun H Q' e l => ⟨rfl, l _ G H e (by
  rw [show decide (V.str i = V.str j) = decide (i = j) by by_cases h : i = j <;> simp [h]]; exact q)⟩
theorem er_eqB {K : PySem.W.Frag} {i j : Bool} (q : Q (.bl (decide (i = j))) G) : Er (rEqU K) (.bl i) (.bl j) G Q := er_orL fun H Q' e l => ⟨rfl, l _ G H e (by
  rw [show decide (V.bl i = V.bl j) = decide (i = j) by by_cases h : i = j <;> simp [h]]; exact q)⟩
theorem er_neB {K : PySem.W.Frag} {i j : Bool} (q : Q (.bl (!decide (i = j))) G) : Er (rNeU K) (.bl i) (.bl j) G Q := er_orL fun H Q' e l => ⟨rfl, l _ G H e (by
  rw [show decide (V.bl i = V.bl j) = decide (i = j) by by_cases h : i = j <;> simp [h]]; exact q)⟩
theorem er_eqD {K : PySem.W.Frag} {x y : V} {d d' : PyData} (h : Dp K G x d) (h' : Dp K G y d') (s : SeqAt.shaped d = true) (s' : SeqAt.shaped d' = true) (q : Q (.bl (PyData.eqv d d')) G) : Er (rEqU K) x y G Q :=
  er_orR fun H Q' e l => ⟨d, d', e.dp h, e.dp h', s, s', l _ G H e q⟩
theorem er_neD {K : PySem.W.Frag} {x y : V} {d d' : PyData} (h : Dp K G x d) (h' : Dp K G y d') (s : SeqAt.shaped d = true) (s' : SeqAt.shaped d' = true) (q : Q (.bl (!PyData.eqv d d')) G) : Er (rNeU K) x y G Q :=
  er_orR fun H Q' e l => ⟨d, d', e.dp h, e.dp h', s, s', l _ G H e q⟩
def rLtI : R2 := rI0 fun i j => .bl (decide (i < j))
def rLeI : R2 := rI0 fun i j => .bl (decide (i ≤ j))
def rGtI : R2 := rI0 fun i j => .bl (decide (j < i))
def rGeI : R2 := rI0 fun i j => .bl (decide (j ≤ i))
def rLtU (K : PySem.W.Frag) : R2 := rOr rLtI (rLtT K)
theorem op_ltU {X : Cx} (hu : X.A.units < cLine) : OpR X (compareOp .Lt) (rLtU X.K) := opr_or op_lt (op_ltT hu)
theorem op_leU {X : Cx} : OpR X (compareOp .LtE) rLeI := op_le
theorem op_gtU {X : Cx} : OpR X (compareOp .Gt) rGtI := op_gt
theorem op_geU {X : Cx} : OpR X (compareOp .GtE) rGeI := op_ge
theorem er_lt {K : PySem.W.Frag} {i j : Int} (q : Q (.bl (decide (i < j))) G) : Er (rLtU K) (.int i) (.int j) G Q := er_orL (er_I0 (g := fun i j => .bl (decide (i < j))) q)
theorem er_le {i j : Int} (q : Q (.bl (decide (i ≤ j))) G) : Er rLeI (.int i) (.int j) G Q := er_I0 (g := fun i j => .bl (decide (i ≤ j))) q
theorem er_gt {i j : Int} (q : Q (.bl (decide (j < i))) G) : Er rGtI (.int i) (.int j) G Q := er_I0 (g := fun i j => .bl (decide (j < i))) q
theorem er_ge {i j : Int} (q : Q (.bl (decide (j ≤ i))) G) : Er rGeI (.int i) (.int j) G Q := er_I0 (g := fun i j => .bl (decide (j ≤ i))) q
theorem er_isN {x : V} (q : Q (.bl (decide (x = .non))) G) : Er rIsN x .non G Q := fun H Q' e l => ⟨rfl, l _ G H e q⟩
theorem er_notN {x : V} (q : Q (.bl (!decide (x = .non))) G) : Er rNotN x .non G Q := fun H Q' e l => ⟨rfl, l _ G H e q⟩
def rInU (K : PySem.W.Frag) : R2 := rOr (rIn K false) (rInD K)
def rNotInU (K : PySem.W.Frag) : R2 := rOr (rIn K true) (rNotInD K)
theorem op_inU {X : Cx} (hu : X.A.units + 65 < cLine) : OpR X (compareOp .In) (rInU X.K) := opr_or op_in_seq (op_inD hu)
theorem op_notInU {X : Cx} (hu : X.A.units + 65 < cLine) : OpR X (compareOp .NotIn) (rNotInU X.K) := opr_or op_notIn_seq (op_notInD hu)
theorem er_in {K : PySem.W.Frag} {x : V} {p : Addr} {xs : List V} (h : SqL K G p xs ∨ SqT K G p xs) (fx : flatV x = true) (fs : xs.all flatV = true) (q : Q (.bl (inV x xs)) G) : Er (rInU K) x (.ref p) G Q :=
  er_orL fun H Q' e l => ⟨p, xs, rfl, h.elim (fun z => .inl (e.sl z)) (fun z => .inr (e.st z)), fx, fs, l _ G H e q⟩
theorem er_notIn {K : PySem.W.Frag} {x : V} {p : Addr} {xs : List V} (h : SqL K G p xs ∨ SqT K G p xs) (fx : flatV x = true) (fs : xs.all flatV = true) (q : Q (.bl (!inV x xs)) G) : Er (rNotInU K) x (.ref p) G Q :=
  er_orL fun H Q' e l => ⟨p, xs, rfl, h.elim (fun z => .inl (e.sl z)) (fun z => .inr (e.st z)), fx, fs, l _ G H e q⟩
theorem er_inD {K : PySem.W.Frag} {x y : V} {d : PyData} {ds : List PyData} (h : Dp K G x d) (h' : Dp K G y (.list ds)) (s : SeqAt.shaped d = true) (s' : SeqAt.shaped (.list ds) = true) (q : Q (.bl (ds.any fun z => PyData.eqv z d)) G) : Er (rInU K) x y G Q :=
  er_orR fun H Q' e l => ⟨d, ds, e.dp h, e.dp h', s, s', l _ G H e q⟩
theorem er_notInD {K : PySem.W.Frag} {x y : V} {d : PyData} {ds : List PyData} (h : Dp K G x d) (h' : Dp K G y (.list ds)) (s : SeqAt.shaped d = true) (s' : SeqAt.shaped (.list ds) = true) (q : Q (.bl (!ds.any fun z => PyData.eqv z d)) G) : Er (rNotInU K) x y G Q :=
  er_orR fun H Q' e l => ⟨d, ds, e.dp h, e.dp h', s, s', l _ G H e q⟩
/-! subscripts -/
theorem er_ixL {K : PySem.W.Frag} {p : Addr} {i : Int} {xs : List V} {v : V} (h : SqL K G p xs) (a : atI xs i = some v) (q : Q v G) : Er (rIx K) (.ref p) (.int i) G Q :=
  fun H Q' e l => .inl ⟨p, xs, i, v, rfl, rfl, e.sl h, a, l _ G H e q⟩
theorem er_ixT {K : PySem.W.Frag} {p : Addr} {i : Int} {xs : List V} {v : V} (h : SqT K G p xs) (a : atI xs i = some v) (q : Q v G) : Er (rIx K) (.ref p) (.int i) G Q :=
  fun H Q' e l => .inr (.inl ⟨p, xs, i, v, rfl, rfl, e.st h, a, l _ G H e q⟩)
theorem er_ixS {K : PySem.W.Frag} {z : Str} {i : Int} {c : Nat} (h : z.length ≤ sizeLine) (a : atI z.cps.toList i = some c) (q : Q (.str ⟨#[c]⟩) G) : Er (rIx K) (.str z) (.int i) G Q :=
  fun H Q' e l => .inr (.inr ⟨z, i, c, rfl, rfl, h, a, l _ G H e q⟩)
/-! slices -/
def rwOr (r r' : V → Option Int → Option Int → Hp → VK → Prop) : V → Option Int → Option Int → Hp → VK → Prop := fun x lo hi H Q => r x lo hi H Q ∨ r' x lo hi H Q
def rSlU (K : PySem.W.Frag) := rwOr (rSlL K) rSlS
theorem sl_U {X : Cx} : SlR X (rSlU X.K) := sl_list.or sl_str
theorem ee_sl {r : V → Option Int → Option Int → Hp → VK → Prop} {te : TE} {tl th : TO} (h : Ee te σ G fun x G1 => Eo tl σ G1 fun lo G2 => Eo th σ G2 fun hi G3 => Ew r x lo hi G3 Q) : Ee (tSl r te tl th) σ G Q := fun H Q' e l =>
  h H _ e fun x G1 H1 e1 h1 => h1 H1 _ e1 fun lo G2 H2 e2 h2 => h2 H2 _ e2 fun hi G3 H3 e3 h3 => h3 H3 Q' e3 l
theorem eo_no {Q : Option Int → Hp → Prop} (q : Q none G) : Eo tNoPart σ G Q := fun H Q' e l => l none G H e q
theorem eo_part {t : TE} {Q : Option Int → Hp → Prop} (h : Ee t σ G fun x G1 => ∃ i, x = .int i ∧ Q (some i) G1) : Eo (tPart t) σ G Q := fun H Q' e l =>
  h H _ e fun x G1 H1 e1 ⟨i, hx, q⟩ => ⟨i, hx, l (some i) G1 H1 e1 q⟩
theorem ew_L {K : PySem.W.Frag} {a : Addr} {xs : List V} {lo hi : Option Int} (h : SqL K G a xs) (q : ∀ p, G p = none → Q (.ref p) (upd G p (.lst (cutV xs lo hi)))) : Ew (rSlU K) (.ref a) lo hi G Q :=
  fun H Q' e l => .inl ⟨a, xs, rfl, e.sl h, fun p hp => l _ _ _ e.put (q p (e.nul hp))⟩
theorem ew_S {K : PySem.W.Frag} {z : Str} {lo hi : Option Int} (h : z.length ≤ sizeLine) (q : Q (.str (cutS z lo hi)) G) : Ew (rSlU K) (.str z) lo hi G Q :=
  fun H Q' e l => .inr ⟨z, rfl, h, l _ G H e q⟩
/-! displays -/
theorem ee_tup {t : TA} (h : Ea t σ G fun xs G1 => xs.length ≤ sizeLine ∧ ∀ p, G1 p = none → Q (.ref p) (upd G1 p (.tup xs))) : Ee (tTup t) σ G Q := fun H Q' e l =>
  h H _ e fun xs G1 H1 e1 ⟨z, q⟩ => ⟨z, fun p hp => l _ _ _ e1.put (q p (e1.nul hp))⟩
theorem ee_lst {t : TA} (h : Ea t σ G fun xs G1 => xs.length ≤ sizeLine ∧ ∀ p, G1 p = none → Q (.ref p) (upd G1 p (.lst xs))) : Ee (tLst t) σ G Q := fun H Q' e l =>
  h H _ e fun xs G1 H1 e1 ⟨z, q⟩ => ⟨z, fun p hp => l _ _ _ e1.put (q p (e1.nul hp))⟩
/-! tests -/
theorem et_test {te : TE} {Q : Bool → Hp → Prop} (h : Ee te σ G fun v G1 => ∃ b, v = .bl b ∧ Q b G1) : Et (tTest te) σ G Q := fun H Q' e l =>
  h H _ e fun v G1 H1 e1 ⟨b, hb, q⟩ => ⟨b, hb, l b G1 H1 e1 q⟩
theorem et_tB {te : TE} {Q : Bool → Hp → Prop} (h : Ee te σ G fun v G1 => ∃ b, v = .bl b ∧ Q b G1) : Et (tB te) σ G Q := fun H Q' e l =>
  h H _ e fun v G1 H1 e1 ⟨b, hb, q⟩ => ⟨b, hb, l b G1 H1 e1 q⟩
theorem et_and {t u : TT} {Q : Bool → Hp → Prop} (h : Et t σ G fun b G1 => if b = true then Et u σ G1 Q else Q false G1) : Et (tAnd t u) σ G Q := fun H Q' e l =>
  h H _ e fun b G1 H1 e1 h1 => by
    cases b with
    | true => exact h1 H1 Q' e1 l
    | false => exact l false G1 H1 e1 h1
theorem et_or {t u : TT} {Q : Bool → Hp → Prop} (h : Et t σ G fun b G1 => if b = true then Q true G1 else Et u σ G1 Q) : Et (tOr t u) σ G Q := fun H Q' e l =>
  h H _ e fun b G1 H1 e1 h1 => by
    cases b with
    | true => exact l true G1 H1 e1 h1
    | false => exact h1 H1 Q' e1 l
theorem et_not {t : TT} {Q : Bool → Hp → Prop} (h : Et t σ G fun b G1 => Q (!b) G1) : Et (tNot t) σ G Q := fun H Q' e l =>
  h H _ e fun b G1 H1 e1 h1 => l (!b) G1 H1 e1 h1
theorem truv_up {K : PySem.W.Frag} {x : V} {G H : Hp} {k : Bool} (e : Ex G H) (h : TruV K x G k) : TruV K x H k := by
  cases x with
  | ref p =>
    rcases h with ⟨xs, s, q⟩ | ⟨xs, s, q⟩ | ⟨kvs, s, q⟩
    · exact .inl ⟨xs, e.sl s, q⟩
    · exact .inr (.inl ⟨xs, e.st s, q⟩)
    · exact .inr (.inr ⟨kvs, e _ _ s, q⟩)
  | _ => exact h
theorem et_tru {K : PySem.W.Frag} {ta : TE} {Q : Bool → Hp → Prop} (h : Ee ta σ G fun x G1 => ∃ k, TruV K x G1 k ∧ Q k G1) : Et (tTru K ta) σ G Q := fun H Q' e l =>
  h H _ e fun x G1 H1 e1 ⟨k, hk, q⟩ => ⟨k, truv_up e1 hk, l k G1 H1 e1 q⟩
theorem pt_tru {X : Cx} {a : Expr} {ta : TE} (ha : PE X a ta) (he : ∀ whole, isTrue a X.env whole = (do let v ← whole; standAt a.pos; holding [v] (truthy v)) := by intro _; rfl) : PT X a (tTru X.K ta) := pt_truth ha he
/-! values of and, or, not, if -/
theorem ee_and {ta tb : TE} (h : Ee ta σ G fun x G1 => ∃ b, x = .bl b ∧ if b = true then Ee tb σ G1 Q else Q (.bl false) G1) : Ee (tAndV ta tb) σ G Q := fun H Q' e l =>
  h H _ e fun x G1 H1 e1 ⟨b, hb, h1⟩ => ⟨b, hb, by
    cases b with
    | true => exact h1 H1 Q' e1 l
    | false => exact l _ G1 H1 e1 h1⟩
theorem ee_or {ta tb : TE} (h : Ee ta σ G fun x G1 => ∃ b, x = .bl b ∧ if b = true then Q (.bl true) G1 else Ee tb σ G1 Q) : Ee (tOrV ta tb) σ G Q := fun H Q' e l =>
  h H _ e fun x G1 H1 e1 ⟨b, hb, h1⟩ => ⟨b, hb, by
    cases b with
    | true => exact l _ G1 H1 e1 h1
    | false => exact h1 H1 Q' e1 l⟩
theorem ee_not {ta : TE} (h : Ee ta σ G fun x G1 => ∃ b, x = .bl b ∧ Q (.bl (!b)) G1) : Ee (tNotV ta) σ G Q := fun H Q' e l =>
  h H _ e fun x G1 H1 e1 ⟨b, hb, h1⟩ => ⟨b, hb, l _ G1 H1 e1 h1⟩
theorem ee_if {t : TT} {ta tb : TE} (h : Et t σ G fun b G1 => if b = true then Ee ta σ G1 Q else Ee tb σ G1 Q) : Ee (tIf t ta tb) σ G Q := fun H Q' e l =>
  h H _ e fun b G1 H1 e1 h1 => by
    cases b with
    | true => exact h1 H1 Q' e1 l
    | false => exact h1 H1 Q' e1 l
/-- two comparisons in a chain -/
theorem ee_chain {r r' : R2} {ta tb tc : TE} (h : Ee ta σ G fun x G1 => Ee tb σ G1 fun y G2 => Er r x y G2 fun z G3 => ∃ k, z = .bl k ∧ if k = true then Ee tc σ G3 fun w G4 => Er r' y w G4 Q else Q (.bl false) G3) : Ee (tChain r r' ta tb tc) σ G Q := fun H Q' e l =>
  h H _ e fun x G1 H1 e1 h1 => h1 H1 _ e1 fun y G2 H2 e2 h2 => h2 H2 _ e2 fun z G3 H3 e3 ⟨k, hk, h3⟩ => ⟨k, hk, by
    cases k with
    | true => exact h3 H3 _ e3 fun w G4 H4 e4 h4 => h4 H4 Q' e4 l
    | false => exact l _ G3 H3 e3 h3⟩
/-! calls of builtins, methods of builtins -/
theorem ee_cb {r : List V → Hp → VK → Prop} {t : TA} (h : Ea t σ G fun vs G1 => Ec r vs G1 Q) : Ee (tCB r t) σ G Q := fun H Q' e l =>
  h H _ e fun vs G1 H1 e1 h1 => h1 H1 Q' e1 l
def rcOr (r r' : List V → Hp → VK → Prop) : List V → Hp → VK → Prop := fun xs H Q => r xs H Q ∨ r' xs H Q
theorem ec_orL {r r' : List V → Hp → VK → Prop} {x : List V} (h : Ec r x G Q) : Ec (rcOr r r') x G Q := fun H Q' e l => .inl (h H Q' e l)
theorem ec_orR {r r' : List V → Hp → VK → Prop} {x : List V} (h : Ec r' x G Q) : Ec (rcOr r r') x G Q := fun H Q' e l => .inr (h H Q' e l)
def rLenU (K : PySem.W.Frag) : List V → Hp → VK → Prop := fun xs H Q => ∃ x n, xs = [x] ∧ LenV K x H n ∧ (n ≤ sizeLine → Q (.int n) H)
theorem call_lenU {X : Cx} : CallR X (.builtin "len") (rLenU X.K) := by
  intro pins s σ H xs us Q I r h
  obtain ⟨x, n, rfl, hL, q⟩ := h
  have hn : n ≤ sizeLine := by
    cases x with
    | str y => exact hL.2 ▸ hL.1
    | byt y => exact hL.2 ▸ hL.1
    | ref p =>
      rcases hL with ⟨xs, h, rfl⟩ | ⟨xs, h, rfl⟩
      · obtain ⟨_, _, _, z⟩ := I.list h; exact z
      · obtain ⟨_, _, _, z⟩ := I.tuple h; exact z
    | _ => exact hL.elim
  exact call_len pins s σ H _ us Q I r ⟨x, n, rfl, hL, q hn⟩
theorem ec_lenL {K : PySem.W.Frag} {p : Addr} {xs : List V} (h : SqL K G p xs) (q : xs.length ≤ sizeLine → Q (.int xs.length) G) : Ec (rLenU K) [.ref p] G Q := fun H Q' e l => ⟨_, _, rfl, .inl ⟨xs, e.sl h, rfl⟩, fun z => l _ G H e (q z)⟩
theorem ec_lenT {K : PySem.W.Frag} {p : Addr} {xs : List V} (h : SqT K G p xs) (q : xs.length ≤ sizeLine → Q (.int xs.length) G) : Ec (rLenU K) [.ref p] G Q := fun H Q' e l => ⟨_, _, rfl, .inr ⟨xs, e.st h, rfl⟩, fun z => l _ G H e (q z)⟩
theorem ec_lenS {K : PySem.W.Frag} {z : Str} (h : z.length ≤ sizeLine) (q : Q (.int z.length) G) : Ec (rLenU K) [.str z] G Q := fun H Q' e l => ⟨_, _, rfl, ⟨h, rfl⟩, fun _ => l _ G H e q⟩
def rInt1 : List V → Hp → VK → Prop := fun xs H Q => (∃ i, xs = [.int i] ∧ Q (.int i) H) ∨ ∃ k, xs = [.bl k] ∧ Q (.int (if k then 1 else 0)) H
theorem call_intU {X : Cx} : CallR X (.type "int") rInt1 := call_int1
theorem ec_int {i : Int} (q : Q (.int i) G) : Ec rInt1 [.int i] G Q := fun H Q' e l => .inl ⟨i, rfl, l _ G H e q⟩
theorem ec_intB {k : Bool} (q : Q (.int (if k then 1 else 0)) G) : Ec rInt1 [.bl k] G Q := fun H Q' e l => .inr ⟨k, rfl, l _ G H e q⟩
def rListU (K : PySem.W.Frag) : List V → Hp → VK → Prop := fun xs H Q => ∃ p ys, xs = [.ref p] ∧ (SqL K H p ys ∨ SqT K H p ys) ∧ ∀ l, H l = none → Q (.ref l) (upd H l (.lst ys))
theorem call_listU {X : Cx} : CallR X (.type "list") (rListU X.K) := call_list_of
theorem ec_list {K : PySem.W.Frag} {p : Addr} {ys : List V} (h : SqL K G p ys ∨ SqT K G p ys) (q : ∀ l, G l = none → Q (.ref l) (upd G l (.lst ys))) : Ec (rListU K) [.ref p] G Q := fun H Q' e l =>
  ⟨p, ys, rfl, h.elim (fun z => .inl (e.sl z)) (fun z => .inr (e.st z)), fun a ha => l _ _ _ e.put (q a (e.nul ha))⟩
def rTupU (K : PySem.W.Frag) : List V → Hp → VK → Prop := fun xs H Q => ∃ p ys, xs = [.ref p] ∧ ((SqL K H p ys ∧ ∀ l, H l = none → Q (.ref l) (upd H l (.tup ys))) ∨ (SqT K H p ys ∧ Q (.ref p) H))
theorem call_tupU {X : Cx} : CallR X (.type "tuple") (rTupU X.K) := call_tuple_of
theorem ec_tupL {K : PySem.W.Frag} {p : Addr} {ys : List V} (h : SqL K G p ys) (q : ∀ l, G l = none → Q (.ref l) (upd G l (.tup ys))) : Ec (rTupU K) [.ref p] G Q := fun H Q' e l =>
  ⟨p, ys, rfl, .inl ⟨e.sl h, fun a ha => l _ _ _ e.put (q a (e.nul ha))⟩⟩
theorem ec_tupT {K : PySem.W.Frag} {p : Addr} {ys : List V} (h : SqT K G p ys) (q : Q (.ref p) G) : Ec (rTupU K) [.ref p] G Q := fun H Q' e l => ⟨p, ys, rfl, .inr ⟨e.st h, l _ G H e q⟩⟩
def rMax2U : List V → Hp → VK → Prop := fun xs H Q => ∃ i j, xs = [.int i, .int j] ∧ Q (.int (if j > i then j else i)) H
def rMin2U : List V → Hp → VK → Prop := fun xs H Q => ∃ i j, xs = [.int i, .int j] ∧ Q (.int (if j < i then j else i)) H
theorem call_max2U {X : Cx} (hc : X.calm = true) : CallR X (.builtin "max") rMax2U := call_max2 hc
theorem call_min2U {X : Cx} (hc : X.calm = true) : CallR X (.builtin "min") rMin2U := call_min2 hc
theorem ec_max2 {i j : Int} (q : Q (.int (if j > i then j else i)) G) : Ec rMax2U [.int i, .int j] G Q := fun H Q' e l => ⟨i, j, rfl, l _ G H e q⟩
theorem ec_min2 {i j : Int} (q : Q (.int (if j < i then j else i)) G) : Ec rMin2U [.int i, .int j] G Q := fun H Q' e l => ⟨i, j, rfl, l _ G H e q⟩
def rOrdU : List V → Hp → VK → Prop := fun xs H Q => ∃ x : Str, xs = [.str x] ∧ x.length = 1 ∧ Q (.int (x.cps.getD 0 0 : Nat)) H
theorem call_ordU {X : Cx} : CallR X (.builtin "ord") rOrdU := call_ord
theorem ec_ord {x : Str} (h : x.length = 1) (q : Q (.int (x.cps.getD 0 0 : Nat)) G) : Ec rOrdU [.str x] G Q := fun H Q' e l => ⟨x, rfl, h, l _ G H e q⟩
/-! isinstance -/
def rIsiU (K : PySem.W.Frag) := rcOr (rIsi K) (rIsiT K)
theorem call_isiU {X : Cx} : CallR X (.builtin "isinstance") (rIsiU X.K) := CallR.or call_isi call_isiT
theorem tyof_up {K : PySem.W.Frag} {G H : Hp} {x : V} {t : Value} (e : Ex G H) (h : TyOf K G x t) : TyOf K H x t := by
  cases h with
  | non => exact .non
  | bl x => exact .bl x
  | int x => exact .int x
  | str x => exact .str x
  | flt x => exact .flt x
  | lst h => exact .lst (e _ _ h)
  | frz h => exact .frz (e _ _ h)
  | tup h => exact .tup (e _ _ h)
  | dK h => exact .dK (e _ _ h)
  | dT h => exact .dT (e _ _ h)
  | ins h a b c d e0 => exact .ins (e _ _ h) a b c d e0
theorem tyx_up {K : PySem.W.Frag} {G H : Hp} {x : V} {t : Value} (e : Ex G H) (h : TyX K G x t) : TyX K H x t := by
  cases h with
  | base h => exact .base (tyof_up e h)
  | byt b => exact .byt b
  | set h => exact .set (e _ _ h)
  | kList h c => exact .kList h c
  | kTuple h c => exact .kTuple h c
  | kDict h c => exact .kDict h c
  | fTuple h => exact .fTuple (e _ _ h)
  | fDict h => exact .fDict (e _ _ h)
theorem tyx_l {K : PySem.W.Frag} {p : Addr} {xs : List V} (h : SqL K G p xs) : TyX K G (.ref p) (.type "list") := by
  rcases h with (h | ⟨o, h⟩) | ⟨o, its, n, h, c, _⟩
  · exact .base (.lst h)
  · exact .base (.frz h)
  · exact .kList h c
theorem tyx_t {K : PySem.W.Frag} {p : Addr} {xs : List V} (h : SqT K G p xs) : TyX K G (.ref p) (.type "tuple") := by
  rcases h with (h | ⟨o, h⟩) | ⟨o, its, n, h, c, _⟩
  · exact .base (.tup h)
  · exact .fTuple h
  · exact .kTuple h c
theorem ec_isi {K : PySem.W.Frag} {x : V} {a b : String} {r : Bool} (h : TyX K G x (.type a)) (k : kitB a b = some r) (q : Q (.bl r) G) : Ec (rIsiU K) [x, .ty b] G Q :=
  ec_orL fun H Q' e l => ⟨x, .ty b, _, _, r, rfl, .ty b, tyx_up e h, kit_ty k, l _ G H e q⟩
theorem ec_isi2 {K : PySem.W.Frag} {x : V} {tp : Addr} {a b c : String} {r r' : Bool} (h : TyX K G x (.type a)) (ht : G tp = some (.tup [.ty b, .ty c])) (k : kitB a b = some r) (k' : kitB a c = some r') (q : Q (.bl (r || r')) G) : Ec (rIsiU K) [x, .ref tp] G Q :=
  ec_orR fun H Q' e l => ⟨x, tp, _, _, _, r || r', rfl, e _ _ ht, .cons (.ty b) (.cons (.ty c) .nil), tyx_up e h, by
    refine kitAny_cons (b := r) (kit_ty k) (fun h0 => ?_) (fun h1 => by rw [h1]; rfl)
    rw [h0]
    refine kitAny_cons (b := r') (kit_ty k') (fun h0 => ?_) (fun h1 => by rw [h1]; rfl)
    rw [h0]; rfl, l _ G H e q⟩
/-! own defs -/
/-- a promise over known heaps: arguments, known heap, what is wanted, what is wanted of an exception -/
abbrev Pm := List V → Hp → (V → Hp → Prop) → XK → Prop
def up (S : Pm) : Sp := fun vs H Q E => ∃ G Q0 E0, Ex G H ∧ S vs G Q0 E0 ∧ (∀ v G' H', Ex G' H' → Q0 v G' → Q v H') ∧ (∀ c d G' H', Ex G' H' → E0 c d G' → E c d H')
def dn (E : XK) : XK := fun c d G => ∀ H, Ex G H → E c d H
theorem ee_call {S : Pm} {dvs : List V} {E : XK} {t : TA} (h : Ea t σ G fun vs G1 => S (vs ++ dvs) G1 Q (dn E)) : Ee (tCall (up S) dvs E t) σ G Q := fun H Q' e l =>
  h H _ e fun vs G1 H1 e1 h1 => ⟨G1, Q, dn E, e1, h1, l, fun c d G' H' e' h' => h' H' e'⟩
theorem ee_meth {C : Addr} {m : Str} {S : Pm} {dvs : List V} {E : XK} {ta : TE} {t : TA}
    (h : Ee ta σ G fun x G1 => ∃ a dx fs, x = .ref a ∧ G1 a = some (.ins C dx fs) ∧ fs.lookup m = none ∧ Ea t σ G1 fun vs G2 => S (x :: (vs ++ dvs)) G2 Q (dn E)) : Ee (tMeth C m (up S) dvs E ta t) σ G Q := fun H Q' e l =>
  h H _ e fun x G1 H1 e1 ⟨a, dx, fs, h1, h2, h3, h4⟩ => ⟨a, dx, fs, h1, e1 _ _ h2, h3, h4 H1 _ e1 fun vs G2 H2 e2 h5 => ⟨G2, Q, dn E, e2, h5, l, fun c d G' H' e' h' => h' H' e'⟩⟩
theorem ee_make {C : Addr} {S : Pm} {dvs : List V} {E : XK} {t : TA}
    (h : Ea t σ G fun vs G1 => ∀ x dx, G1 x = none → G1 dx = none → dx ≠ x → S (.ref x :: (vs ++ dvs)) (upd (upd G1 dx (.own x)) x (.ins C dx [])) (fun v G2 => v = .non ∧ Q (.ref x) G2) (dn E)) : Ee (tMake C (up S) dvs E t) σ G Q := fun H Q' e l =>
  h H _ e fun vs G1 H1 e1 h1 x dx hx hd hn => ⟨_, _, dn E, e1.put.put, h1 x dx (e1.nul hx) (e1.nul hd) hn, fun v G' H' e' ⟨hv, q⟩ => ⟨hv, l _ G' H' e' q⟩, fun c d G' H' e' h' => h' H' e'⟩
/-! fields -/
theorem ee_fld {K : PySem.W.Frag} {ta : TE} {f : Str} (h : Ee ta σ G fun x G1 => ∃ a C dx fs v, x = .ref a ∧ G1 a = some (.ins C dx fs) ∧ Cls K C ∧ NoAttr K C f ∧ fs.lookup f = some v ∧ Q v G1) : Ee (tFld K ta f) σ G Q := fun H Q' e l =>
  h H _ e fun x G1 H1 e1 ⟨a, C, dx, fs, v, h1, h2, h3, h4, h5, q⟩ => ⟨a, C, dx, fs, v, h1, e1 _ _ h2, h3, h4, h5, l _ G1 H1 e1 q⟩
/-! methods of builtins -/
theorem tyv_up {K : PySem.W.Frag} {T : String} {x : V} {H : Hp} (e : Ex G H) (h : tyV K T x G) : tyV K T x H := by
  cases x with
  | ref p =>
    rcases h with ⟨a, xs, s⟩ | h | ⟨a, (⟨kvs, s⟩ | ⟨kvs, s⟩)⟩ | ⟨a, S, n, s⟩
    · exact .inl ⟨a, xs, e.sl s⟩
    · exact .inr (.inl h)
    · exact .inr (.inr (.inl ⟨a, .inl ⟨kvs, e _ _ s⟩⟩))
    · exact .inr (.inr (.inl ⟨a, .inr ⟨kvs, e _ _ s⟩⟩))
    · exact .inr (.inr (.inr ⟨a, S, n, e _ _ s⟩))
  | _ => exact h
theorem ee_bm {K : PySem.W.Frag} {T : String} {r : V → List V → Hp → VK → Prop} {to : TE} {t : TA} (h : Ee to σ G fun x G1 => tyV K T x G1 ∧ Ea t σ G1 fun xs G2 => Em r x xs G2 Q) : Ee (tBM K T r to t) σ G Q := fun H Q' e l =>
  h H _ e fun x G1 H1 e1 ⟨ty, h1⟩ => ⟨tyv_up e1 ty, h1 H1 _ e1 fun xs G2 H2 e2 h2 => h2 H2 Q' e2 l⟩
theorem ee_bm0 {K : PySem.W.Frag} {T : String} {r : V → List V → Hp → VK → Prop} {to : TE} (h : Ee to σ G fun x G1 => tyV K T x G1 ∧ Em r x [] G1 Q) : Ee (tBM0 K T r to) σ G Q := fun H Q' e l =>
  h H _ e fun x G1 H1 e1 ⟨ty, h1⟩ => ⟨tyv_up e1 ty, h1 H1 Q' e1 l⟩
theorem ty_list {K : PySem.W.Frag} {p : Addr} {xs : List V} (h : SqL K G p xs) : tyV K "list" (.ref p) G := .inl ⟨rfl, xs, h⟩
theorem ty_lst {K : PySem.W.Frag} {p : Addr} {xs : List V} (h : G p = some (.lst xs)) : tyV K "list" (.ref p) G := .inl ⟨rfl, xs, SqL.of h⟩
theorem em_append {p : Addr} {xs : List V} {y : V} (h : G p = some (.lst xs)) (hz : xs.length < sizeLine) (q : Q .non (upd G p (.lst (xs ++ [y])))) : Em rAppend (.ref p) [y] G Q := fun H Q' e l =>
  ⟨p, xs, y, rfl, rfl, e _ _ h, hz, l _ _ _ e.put q⟩
theorem em_extend {p b : Addr} {xs ys : List V} (h : G p = some (.lst xs)) (hb : G b = some (.lst ys)) (hz : xs.length + ys.length ≤ sizeLine) (q : Q .non (upd G p (.lst (xs ++ ys)))) : Em rExtend (.ref p) [.ref b] G Q := fun H Q' e l =>
  ⟨p, b, xs, ys, rfl, rfl, e _ _ h, e _ _ hb, hz, l _ _ _ e.put q⟩
/-- sep.join(list) -/
def rJoinU (K : PySem.W.Frag) : V → List V → Hp → VK → Prop := fun x xs H Q => ∃ a p, ∃ ys : List Str, x = .str a ∧ xs = [.ref p] ∧ (SqL K H p (ys.map V.str) ∨ SqT K H p (ys.map V.str)) ∧ (ys.map (·.length)).sum + ys.length * a.length ≤ 16777216 ∧ Q (.str (Txt.join a ys)) H
theorem mt_joinU {X : Cx} : MtR X "str.join" (rJoinU X.K) := mt_join
theorem ee_m1 {r : V → List V → Hp → VK → Prop} {to te : TE} (h : Ee to σ G fun x G1 => (∃ a, x = .str a) ∧ Ee te σ G1 fun y G2 => Em r x [y] G2 Q) : Ee (tM1 r to te) σ G Q := fun H Q' e l =>
  h H _ e fun x G1 H1 e1 ⟨a, h1⟩ => ⟨a, h1 H1 _ e1 fun y G2 H2 e2 h2 => h2 H2 Q' e2 l⟩
theorem em_join {K : PySem.W.Frag} {a : Str} {p : Addr} {ys : List Str} (h : SqL K G p (ys.map V.str)) (hz : (ys.map (·.length)).sum + ys.length * a.length ≤ 16777216) (q : Q (.str (Txt.join a ys)) G) : Em (rJoinU K) (.str a) [.ref p] G Q := fun H Q' e l =>
  ⟨a, p, ys, rfl, rfl, .inl (e.sl h), hz, l _ G H e q⟩
end

/-! ## statements -/
section
variable {σ : L2.St} {G G' : Hp} {D : Ek}
theorem lf_nx {D : Ek} {D' : Ends} {N : L2.St → Hp → Prop} {N' : L2.St → Hp → Prop} (l : Lf D D') (h : ∀ σ G H, Ex G H → N σ G → N' σ H) : Lf { D with nx := N } { D' with nx := N' } := ⟨h, l.rt, l.bk, l.ct⟩
theorem es_seq {t u : TS} (h : Es t { D with nx := fun σ' G' => Es u D σ' G' } σ G) : Es (tSeq t u) D σ G := fun H D' e l =>
  h H { D' with nx := u D' } e ⟨fun σ' G1 H1 e1 h1 => h1 H1 D' e1 l, l.rt, l.bk, l.ct⟩
theorem es_next (q : D.nx σ G) : Es tNext D σ G := fun H D' e l => l.nx _ _ _ e q
theorem es_brk (q : D.bk σ G) : Es tBreak D σ G := fun H D' e l => l.bk _ _ _ e q
theorem es_cont (q : D.ct σ G) : Es tCont D σ G := fun H D' e l => l.ct _ _ _ e q
theorem es_ret {te : TE} (h : Ee te σ G D.rt) : Es (tRet te) D σ G := fun H D' e l => h H _ e l.rt
theorem es_retN (q : D.rt .non G) : Es tRetN D σ G := fun H D' e l => l.rt _ _ _ e q
theorem es_drop {te : TE} (h : Ee te σ G fun _ G1 => D.nx σ G1) : Es (tDrop te) D σ G := fun H D' e l => h H _ e fun v G1 H1 e1 q => l.nx _ _ _ e1 q
theorem es_asg {te : TE} {g : TG} (h : Ee te σ G fun v G1 => Eg g v σ G1 D.nx) : Es (tAsg te g) D σ G := fun H D' e l =>
  h H _ e fun v G1 H1 e1 h1 => h1 H1 _ e1 l.nx
theorem es_if {c : TT} {t u : TS} (h : Et c σ G fun b G1 => if b = true then Es t D σ G1 else Es u D σ G1) : Es (tIfS c t u) D σ G := fun H D' e l =>
  h H _ e fun b G1 H1 e1 h1 => by
    cases b with
    | true => exact h1 H1 D' e1 l
    | false => exact h1 H1 D' e1 l
theorem es_aug {i : Nat} {te : TE} {ti : TIp} {v : V} (hv : σ[i]? = some (some v)) (h : Ee te σ G fun y G1 => Eip ti v y G1 fun z G2 => D.nx (σ.set i (some z)) G2) : Es (tAug i te ti) D σ G := fun H D' e l =>
  ⟨v, hv, h H _ e fun y G1 H1 e1 h1 => h1 H1 _ e1 fun z G2 H2 e2 q => l.nx _ _ _ e2 q⟩
theorem ip_I {f : Int → Int → Int} {i j : Int} {Q : V → Hp → Prop} (q : Q (.int (f i j)) G) : Eip (ipI f) (.int i) (.int j) G Q := fun H Q' e l => ⟨i, j, rfl, rfl, l _ G H e q⟩
/-! targets -/
theorem eg_name {i : Nat} {v : V} {Q : L2.St → Hp → Prop} (q : Q (σ.set i (some v)) G) : Eg (gName i) v σ G Q := fun H Q' e l => l _ G H e q
theorem eg_tup {K : PySem.W.Frag} {n : Nat} {t : TGs} {a : Addr} {xs : List V} {Q : L2.St → Hp → Prop} (h : SqT K G a xs) (hn : xs.length = n) (q : Egs t xs σ G Q) : Eg (gTup K n t) (.ref a) σ G Q := fun H Q' e l =>
  ⟨a, xs, rfl, e.st h, hn, q H Q' e l⟩
theorem egs_nil {Q : L2.St → Hp → Prop} (q : Q σ G) : Egs gNil [] σ G Q := fun H Q' e l => ⟨rfl, l _ G H e q⟩
theorem egs_cons {t : TG} {u : TGs} {v : V} {r : List V} {Q : L2.St → Hp → Prop} (h : Eg t v σ G fun σ' G' => Egs u r σ' G' Q) : Egs (gCons t u) (v :: r) σ G Q := fun H Q' e l =>
  ⟨v, r, rfl, h H _ e fun σ1 G1 H1 e1 h1 => h1 H1 Q' e1 l⟩
theorem eg_sub {to ti : TE} {t : TSet} {v : V} {Q : L2.St → Hp → Prop} (h : Ee to σ G fun o G1 => Ee ti σ G1 fun i G2 => Ez t o i v G2 fun G3 => Q σ G3) : Eg (gSub to ti t) v σ G Q := fun H Q' e l =>
  h H _ e fun o G1 H1 e1 h1 => h1 H1 _ e1 fun i G2 H2 e2 h2 => h2 H2 _ e2 fun G3 H3 e3 q => l _ G3 H3 e3 q
theorem ez_L {p : Addr} {k : Int} {j : Nat} {xs : List V} {v : V} {Q : Hp → Prop} (h : G p = some (.lst xs)) (hk : ixN xs.length k = some j) (q : Q (upd G p (.lst (xs.set j v)))) : Ez rSetL (.ref p) (.int k) v G Q := fun H Q' e l =>
  ⟨p, xs, k, j, rfl, rfl, e _ _ h, hk, l _ _ e.put q⟩
/-- xs[i] op= e -/
def rGetL (K : PySem.W.Frag) : V → V → Hp → VK → Prop := fun x y H Q => ∃ p xs i v, x = .ref p ∧ y = .int i ∧ SqL K H p xs ∧ 0 ≤ i ∧ xs[i.toNat]? = some v ∧ Q v H
theorem pget_list {X : Cx} : PGet X (rGetL X.K) := by
  intro pins s σ H o i ov iv Q I rx ry h
  obtain ⟨p, xs, k, v, rfl, rfl, hq, h0, hv, q⟩ := h
  cases rx
  obtain ⟨t, rfl⟩ := ry
  obtain ⟨its, r, pl, hz⟩ := I.list hq
  obtain ⟨w, ew, rw'⟩ := r.get hv
  have hlt := (List.getElem?_eq_some_iff.mp hv).1
  have hn := line63
  exact wpAny_getItem_list pl.isList h0 (by omega) (by simpa using ew) ⟨v, H, I, rw', q⟩
theorem es_augS {to ti te : TE} {tget : V → V → Hp → VK → Prop} {tip : TIp} {tset : TSet}
    (h : Ee to σ G fun o G1 => Ee ti σ G1 fun i G2 => Er tget o i G2 fun x G3 => Ee te σ G3 fun y G4 => Eip tip x y G4 fun z G5 => Ez tset o i z G5 fun G6 => D.nx σ G6) : Es (tAugS to ti te tget tip tset) D σ G := fun H D' e l =>
  h H _ e fun o G1 H1 e1 h1 => h1 H1 _ e1 fun i G2 H2 e2 h2 => h2 H2 _ e2 fun x G3 H3 e3 h3 => h3 H3 _ e3 fun y G4 H4 e4 h4 => h4 H4 _ e4 fun z G5 H5 e5 h5 => h5 H5 _ e5 fun G6 H6 e6 q => l.nx _ _ _ e6 q
theorem er_getL {K : PySem.W.Frag} {p : Addr} {i : Int} {xs : List V} {v : V} {Q : V → Hp → Prop} (h : SqL K G p xs) (h0 : 0 ≤ i) (a : xs[i.toNat]? = some v) (q : Q v G) : Er (rGetL K) (.ref p) (.int i) G Q :=
  fun H Q' e l => ⟨p, xs, i, v, rfl, rfl, e.sl h, h0, a, l _ G H e q⟩
/-! fields stored -/
theorem es_fld {K : PySem.W.Frag} {ta tv : TE} {f : Str} (h : Ee tv σ G fun y G1 => Ee ta σ G1 fun x G2 => ∃ a C dx fs, x = .ref a ∧ G2 a = some (.ins C dx fs) ∧ Cls K C ∧ NoAttr K C f ∧ fs.length < 1000 ∧ D.nx σ (upd G2 a (.ins C dx (putF f y fs)))) : Es (sFld K ta tv f) D σ G := fun H D' e l =>
  h H _ e fun y G1 H1 e1 h1 => h1 H1 _ e1 fun x G2 H2 e2 ⟨a, C, dx, fs, h2, h3, h4, h5, h6, q⟩ => ⟨a, C, dx, fs, h2, e2 _ _ h3, h4, h5, h6, l.nx _ _ _ e2.put q⟩
/-! while -/
theorem es_while {c : TT} {tb : TS} (W : Nat → L2.St → Hp → Prop) (m0 : Nat) (h0 : W m0 σ G)
    (hs : ∀ m σ G, W m σ G → Et c σ G fun b G1 => if b = true then Es tb { D with nx := fun σ' G' => ∃ m', m' < m ∧ W m' σ' G', ct := fun σ' G' => ∃ m', m' < m ∧ W m' σ' G', bk := D.nx } σ G1 else D.nx σ G1) : Es (tWhile c tb) D σ G := fun H D' e l => by
  refine ⟨fun m σ H => ∃ G, Ex G H ∧ W m σ G, ⟨m0, G, e, h0⟩, ?_⟩
  rintro m σ1 H1 ⟨G1, e1, w⟩
  refine hs m σ1 G1 w H1 _ e1 fun b G2 H2 e2 h2 => ?_
  cases b with
  | true =>
    refine ⟨fun σ' H' => ∃ G', Ex G' H' ∧ ∃ m', m' < m ∧ W m' σ' G', fun σ' H' ⟨G', e', m', lt, w'⟩ => ⟨m', lt, G', e', w'⟩, ?_⟩
    exact h2 H2 _ e2 ⟨fun σ G H e q => ⟨G, e, q⟩, l.rt, l.nx, fun σ G H e q => ⟨G, e, q⟩⟩
  | false => exact l.nx _ _ _ e2 h2
/-! what is walked -/
def Ei (wi : TI) (σ : L2.St) (G : Hp) (R : It → Hp → Prop) : Prop := ∀ (H : Hp) (R' : It → Hp → Prop), Ex G H → (∀ J G' H', Ex G' H' → R J G' → R' J H') → wi σ H R'
/-- n turns while Gd holds of the known heap; at turn i it yields as Y tells -/
structure Wk (J : It) (n : Nat) (Gd : Hp → Prop) (Y : Nat → Hp → V → Hp → Prop) : Prop where
  goes : ∀ i G H, i < n → Gd G → Ex G H → J.go i H
  stops : ∀ G H, Gd G → Ex G H → J.stop n H
  yields : ∀ i G H x H', i < n → Gd G → Ex G H → J.yld i H x H' → ∃ G', Ex G' H' ∧ Y i G x G'
/-- the i-th value, the heap as it was -/
def YV (f : Nat → Option V) : Nat → Hp → V → Hp → Prop := fun i G x G' => G' = G ∧ f i = some x
/-- a new pair -/
def YP (f g : Nat → Option V) : Nat → Hp → V → Hp → Prop := fun i G v G' => ∃ T x y, v = .ref T ∧ G T = none ∧ G' = upd G T (.tup [x, y]) ∧ f i = some x ∧ g i = some y
theorem es_for {wi : TI} {g : TG} {tb : TS}
    (h : Ei wi σ G fun J G1 => ∃ n Gd Y, Wk J n Gd Y ∧ ∃ Pv : Nat → L2.St → Hp → Prop, Pv 0 σ G1 ∧ (∀ i σ G, i ≤ n → Pv i σ G → Gd G) ∧
      (∀ i x σ G G', i < n → Pv i σ G → Y i G x G' → Eg g x σ G' fun σ2 G2 => Es tb { D with nx := Pv (i + 1), ct := Pv (i + 1), bk := D.nx } σ2 G2) ∧ (∀ σ G, Pv n σ G → D.nx σ G)) : Es (tFor wi g tb) D σ G := fun H D' e l => by
  refine h H _ e ?_
  rintro J G1 H1 e1 ⟨n, Gd, Y, wk, Pv, h0, hG, hs, hd⟩
  refine ⟨fun i m σ H => m = n - i ∧ i ≤ n ∧ ∃ G, Ex G H ∧ Pv i σ G, ⟨n, by simp, Nat.zero_le _, G1, e1, h0⟩, ?_⟩
  rintro i m σ2 H2 ⟨rfl, hi, G2, e2, p⟩
  have q := hG i σ2 G2 hi p
  by_cases hlt : i < n
  · refine .inr ⟨wk.goes i G2 H2 hlt q e2, fun σ' H' => ∃ G', Ex G' H' ∧ Pv (i + 1) σ' G', fun σ' H' ⟨G', e', p'⟩ => ⟨n - (i + 1), by omega, rfl, hlt, G', e', p'⟩, fun x H' y => ?_⟩
    obtain ⟨G3, e3, y3⟩ := wk.yields i G2 H2 x H' hlt q e2 y
    refine hs i x σ2 G2 G3 hlt p y3 H' _ e3 fun σ4 G4 H4 e4 h4 => ?_
    exact h4 H4 _ e4 ⟨fun σ G H e q => ⟨G, e, q⟩, l.rt, l.nx, fun σ G H e q => ⟨G, e, q⟩⟩
  · have en : i = n := by omega
    subst en
    exact .inl ⟨wk.stops G2 H2 q e2, l.nx _ _ _ e2 (hd σ2 G2 p)⟩
section
variable {K : PySem.W.Frag} {a b : Addr} {xs ys : List V}
theorem wk_list : Wk (Itl K a) xs.length (fun G => SqL K G a xs) (YV fun i => xs[i]?) :=
  ⟨fun i G H hi q e => ⟨xs, xs[i], e.sl q, by simp [hi]⟩, fun G H q e => ⟨xs, e.sl q, Nat.le_refl _⟩, fun i G H x H' hi q e y => ⟨G, by rw [y.1]; exact e, rfl, y.2 xs (e.sl q)⟩⟩
theorem wk_tup : Wk (Itt K a) xs.length (fun G => SqT K G a xs) (YV fun i => xs[i]?) :=
  ⟨fun i G H hi q e => ⟨xs, xs[i], e.st q, by simp [hi]⟩, fun G H q e => ⟨xs, e.st q, Nat.le_refl _⟩, fun i G H x H' hi q e y => ⟨G, by rw [y.1]; exact e, rfl, y.2 xs (e.st q)⟩⟩
theorem wk_range {lo : Int} {n : Nat} : Wk (Itr lo n) n (fun _ => True) (YV fun i => some (.int (lo + i))) :=
  ⟨fun _ _ _ hi _ _ => hi, fun _ _ _ _ => Nat.le_refl _, fun i G H x H' _ _ e y => ⟨G, by rw [y.1]; exact e, rfl, by rw [y.2]⟩⟩
theorem wk_rangeC {lo c : Int} {n : Nat} : Wk (Itc lo c n) n (fun _ => True) (YV fun i => some (.int (lo + (i : Nat) * c))) :=
  ⟨fun _ _ _ hi _ _ => hi, fun _ _ _ _ => Nat.le_refl _, fun i G H x H' _ _ e y => ⟨G, by rw [y.1]; exact e, rfl, by rw [y.2]⟩⟩
theorem wk_str {z : Str} : Wk (Its z) z.cps.size (fun _ => True) (YV fun i => z.cps[i]?.map fun c => .str ⟨#[c]⟩) :=
  ⟨fun _ _ _ hi _ _ => hi, fun _ _ _ _ => Nat.le_refl _, fun i G H x H' _ _ e y => ⟨G, by rw [y.1]; exact e, rfl, by obtain ⟨c, h1, h2⟩ := y.2; show Option.map _ _ = _; rw [h1, h2]; rfl⟩⟩
theorem wk_zip {n : Nat} (hn : n = min xs.length ys.length) : Wk (Itz K a b) n (fun G => SqL K G a xs ∧ SqL K G b ys) (YP (fun i => xs[i]?) (fun i => ys[i]?)) := by
  subst hn
  refine ⟨fun i G H hi q e => ?_, fun G H q e => ⟨xs, ys, e.sl q.1, e.sl q.2, by omega⟩, fun i G H v H' _ q e y => ?_⟩
  · have h1 : i < xs.length := by omega
    have h2 : i < ys.length := by omega
    exact ⟨xs, ys, xs[i], ys[i], e.sl q.1, e.sl q.2, by simp [h1], by simp [h2]⟩
  · obtain ⟨T, x, z, h1, h2, h3, h4, h5⟩ := y
    exact ⟨upd G T (.tup [x, z]), by rw [h3]; exact e.put, T, x, z, h1, e.nul h2, rfl, h4 xs (e.sl q.1), h5 ys (e.sl q.2)⟩
theorem wk_enum : Wk (Ite K a) xs.length (fun G => SqL K G a xs) (YP (fun i => some (.int (i : Nat))) (fun i => xs[i]?)) := by
  refine ⟨fun i G H hi q e => ⟨xs, xs[i], e.sl q, by simp [hi]⟩, fun G H q e => ⟨xs, e.sl q, Nat.le_refl _⟩, fun i G H v H' _ q e y => ?_⟩
  obtain ⟨T, x, h1, h2, h3, h4⟩ := y
  exact ⟨upd G T (.tup [.int (i : Nat), x]), by rw [h3]; exact e.put, T, .int (i : Nat), x, h1, e.nul h2, rfl, rfl, h4 xs (e.sl q)⟩
end
theorem ei_list {K : PySem.W.Frag} {tl : TE} {R : It → Hp → Prop} (h : Ee tl σ G fun x G1 => ∃ a xs, x = .ref a ∧ SqL K G1 a xs ∧ R (Itl K a) G1) : Ei (iList K tl) σ G R := fun H R' e l =>
  h H _ e fun x G1 H1 e1 ⟨a, xs, h1, h2, q⟩ => ⟨a, h1, ⟨xs, e1.sl h2⟩, l _ _ _ e1 q⟩
theorem ei_tup {K : PySem.W.Frag} {tl : TE} {R : It → Hp → Prop} (h : Ee tl σ G fun x G1 => ∃ a xs, x = .ref a ∧ SqT K G1 a xs ∧ R (Itt K a) G1) : Ei (iTup K tl) σ G R := fun H R' e l =>
  h H _ e fun x G1 H1 e1 ⟨a, xs, h1, h2, q⟩ => ⟨a, h1, ⟨xs, e1.st h2⟩, l _ _ _ e1 q⟩
theorem ei_r1 {ta : TA} {R : It → Hp → Prop} (h : Ea ta σ G fun vs G1 => ∃ j : Int, vs = [.int j] ∧ -(2 ^ 62) ≤ j ∧ j < 2 ^ 62 ∧ R (Itr 0 j.toNat) G1) : Ei (iRng1 ta) σ G R := fun H R' e l =>
  h H _ e fun vs G1 H1 e1 ⟨j, h1, h2, h3, q⟩ => ⟨j, h1, h2, h3, l _ _ _ e1 q⟩
theorem ei_r2 {ta : TA} {R : It → Hp → Prop} (h : Ea ta σ G fun vs G1 => ∃ i j : Int, vs = [.int i, .int j] ∧ (-(2 ^ 62) ≤ i ∧ i < 2 ^ 62 ∧ -(2 ^ 62) ≤ j ∧ j < 2 ^ 62) ∧ R (Itr i (j - i).toNat) G1) : Ei (iRng2 ta) σ G R := fun H R' e l =>
  h H _ e fun vs G1 H1 e1 ⟨i, j, h1, h2, q⟩ => ⟨i, j, h1, h2, l _ _ _ e1 q⟩
theorem ei_r3 {ta : TA} {R : It → Hp → Prop} (h : Ea ta σ G fun vs G1 => ∃ (i j c : Int) (n : Nat), vs = [.int i, .int j, .int c] ∧ RgC i j c n ∧ R (Itc i c n) G1) : Ei (iRng3 ta) σ G R := fun H R' e l =>
  h H _ e fun vs G1 H1 e1 ⟨i, j, c, n, h1, h2, q⟩ => ⟨i, j, c, n, h1, h2, l _ _ _ e1 q⟩
theorem ei_str {te : TE} {R : It → Hp → Prop} (h : Ee te σ G fun v G1 => ∃ x, v = .str x ∧ R (Its x) G1) : Ei (iStr te) σ G R := fun H R' e l =>
  h H _ e fun v G1 H1 e1 ⟨x, h1, q⟩ => ⟨x, h1, l _ _ _ e1 q⟩
theorem ei_zip {K : PySem.W.Frag} {ta : TA} {R : It → Hp → Prop} (h : Ea ta σ G fun vs G1 => ∃ a b xs ys, vs = [.ref a, .ref b] ∧ SqL K G1 a xs ∧ SqL K G1 b ys ∧ R (Itz K a b) G1) : Ei (iZip K ta) σ G R := fun H R' e l =>
  h H _ e fun vs G1 H1 e1 ⟨a, b, xs, ys, h1, h2, h3, q⟩ => ⟨a, b, xs, ys, h1, e1.sl h2, e1.sl h3, l _ _ _ e1 q⟩
theorem ei_enum {K : PySem.W.Frag} {ta : TA} {R : It → Hp → Prop} (h : Ea ta σ G fun vs G1 => ∃ a xs, vs = [.ref a] ∧ SqL K G1 a xs ∧ R (Ite K a) G1) : Ei (iEnum K ta) σ G R := fun H R' e l =>
  h H _ e fun vs G1 H1 e1 ⟨a, xs, h1, h2, q⟩ => ⟨a, xs, h1, e1.sl h2, l _ _ _ e1 q⟩
/-! comprehensions: Pv by the turn, the list so far, the known heap without it; p is its place -/
theorem ee_lc {wi : TI} {g : TG} {tt : TT} {te : TE} {vs : List Nat} {Q : V → Hp → Prop}
    (h : Ei wi σ G fun J G1 => ∃ n Gd Y, Wk J n Gd Y ∧ (∀ G p o, Gd G → G p = none → Gd (upd G p o)) ∧ ∀ p, G1 p = none → ∃ Pv : Nat → List V → Hp → Prop, Pv 0 [] G1 ∧ (∀ i acc G, i ≤ n → Pv i acc G → G p = none ∧ acc.length < sizeLine ∧ Gd G) ∧
      (∀ i acc x G G', i < n → Pv i acc G → Y i (upd G p (.lst acc)) x G' → Eg g x (wipe σ vs) G' fun σ2 G2 => wipe σ2 vs = wipe σ vs ∧ Et tt σ2 G2 fun b G3 =>
        if b = true then Ee te σ2 G3 fun y G4 => G4 p = some (.lst acc) ∧ ∃ G5, Ex (upd G5 p (.lst acc)) G4 ∧ Pv (i + 1) (acc ++ [y]) G5 else G3 p = some (.lst acc) ∧ ∃ G5, Ex (upd G5 p (.lst acc)) G3 ∧ Pv (i + 1) acc G5) ∧
      (∀ acc G, Pv n acc G → Q (.ref p) (upd G p (.lst acc)))) : Ee (tLc wi g tt te vs) σ G Q := fun H Q' e l => by
  refine h H _ e ?_
  rintro J G1 H1 e1 ⟨n, Gd, Y, wk, gd, hh⟩ p hp
  obtain ⟨Pv, h0, hG, hs, hd⟩ := hh p (e1.nul hp)
  refine ⟨fun i m H => m = n - i ∧ i ≤ n ∧ ∃ G acc, Ex (upd G p (.lst acc)) H ∧ Pv i acc G, ⟨n, by simp, Nat.zero_le _, G1, [], e1.put, h0⟩, ?_⟩
  rintro i m H2 ⟨rfl, hi, G2, acc, e2, pv⟩
  obtain ⟨gp, gz, gg⟩ := hG i acc G2 hi pv
  have q := gd _ p (.lst acc) gg gp
  by_cases hlt : i < n
  · refine .inr ⟨wk.goes i _ H2 hlt q e2, fun H' => ∃ G acc, Ex (upd G p (.lst acc)) H' ∧ Pv (i + 1) acc G, fun H' ⟨G', acc', e', p'⟩ => ⟨n - (i + 1), by omega, rfl, hlt, G', acc', e', p'⟩, fun x H' y => ?_⟩
    obtain ⟨G3, e3, y3⟩ := wk.yields i _ H2 x H' hlt q e2 y
    refine hs i acc x G2 G3 hlt pv y3 H' _ e3 fun σ4 G4 H4 e4 ⟨hw, h4⟩ => ⟨hw, ?_⟩
    refine h4 H4 _ e4 fun b G5 H5 e5 h5 => ?_
    cases b with
    | true =>
      refine h5 H5 _ e5 fun y G6 H6 e6 ⟨ha, G7, e7, p7⟩ => ⟨acc, e6 _ _ ha, gz, G7, _, ?_, p7⟩
      have := (e7.trans e6).put (p := p) (o := .lst (acc ++ [y]))
      rwa [upd_upd] at this
    | false =>
      obtain ⟨ha, G7, e7, p7⟩ := h5
      exact ⟨G7, acc, e7.trans e5, p7⟩
  · have en : i = n := by omega
    subst en
    exact .inl ⟨wk.stops _ H2 q e2, l _ _ _ e2 (hd acc G2 pv)⟩
theorem et_yes {Q : Bool → Hp → Prop} (q : Q true G) : Et tYes σ G Q := fun H Q' e l => l true G H e q
end
/-- a def's body, from its promise -/
theorem body_up {S : Pm} {t : TS} {N : List Str} (h : ∀ vs G Q E, S vs G Q E → Es t { nx := fun _ G' => Q .non G', rt := Q } (start N vs) G) : ∀ vs H Q E, up S vs H Q E → t { nx := fun _ H' => Q .non H', rt := Q } (start N vs) H := by
  rintro vs H Q E ⟨G, Q0, E0, e, hS, lq, le⟩
  exact h vs G Q0 E0 hS H _ e ⟨fun _ G H e q => lq _ _ _ e q, fun v G H e q => lq _ _ _ e q, fun _ _ _ _ z => z.elim, fun _ _ _ _ z => z.elim⟩
end Lw

namespace Lw
open PySem PySem.Spec PyProof.Rows L2
/-! ## defs by name -/
section
variable (P : Program) (w : World) (K : PySem.W.Frag) (mg : Str → Option Value) (base : Heap)
/-- the module's def x keeps the promise sp -/
structure Has (CX : CXT) (k : Nat) (x : Str) (ps : List Str) (sp : Sp) : Prop where
  ex : ∃ f fd, mg x = some (.ref f) ∧ PySem.W.keepIn K (.ref f) = true ∧ Binds K fd ps [] ∧ FnOk P w K mg base CX k f fd ps sp
/-- the method m of the class at C keeps it -/
structure HasM (CX : CXT) (k : Nat) (C : Addr) (m : Str) (ps : List Str) (sp : Sp) : Prop where
  ex : ∃ f fd, Meth K C m f ∧ Binds K fd ps [] ∧ FnOk P w K mg base CX k f fd ps sp
/-- the class at C is made by an __init__ that keeps it -/
structure HasI (CX : CXT) (k : Nat) (C : Addr) (ps : List Str) (sp : Sp) : Prop where
  ex : ∃ f fd, Mk K C f ∧ Binds K fd ps [] ∧ FnOk P w K mg base CX k f fd ps sp
end
/-- what the top has at a def's name -/
structure Fnd (K : PySem.W.Frag) (mg : Str → Option Value) (x : Str) (st : Stmt) : Prop where
  ex : ∃ f fd, mg x = some (.ref f) ∧ Fun K x x st f fd
/-- .. at a method's -/
structure FndM (K : PySem.W.Frag) (C : Addr) (m qual : Str) (st : Stmt) : Prop where
  ex : ∃ f fd, Meth K C m f ∧ Fun K m qual st f fd
/-- .. at a class's __init__ -/
structure FndI (K : PySem.W.Frag) (C : Addr) (qual : Str) (st : Stmt) : Prop where
  ex : ∃ f fd, Mk K C f ∧ Fun K "__init__" qual st f fd
section
variable {P : Program} {w : World} {K : PySem.W.Frag} {mg : Str → Option Value} {base : Heap}
abbrev BindOk (x qual : Str) (st : Stmt) (ps : List Str) : Prop := ∀ (kV doc pm : Value) (an : Option Addr) (cdv ct : Value) (us : List Value), us.length = ps.length → bindArgs (PySem.W.fnOf x qual (defArgs st) (defBody st) (defScope st) .none kV doc pm an cdv ct) ⟨us, []⟩ = pure (ps.zip us)
theorem fnok0 {x qual : Str} {st : Stmt} {f : Addr} {fd : FuncData} {N ps : List Str} {k : Nat} {S : Pm} {t : TS} (F : Fun K x qual st f fd) (sc : FnScope N ps (defScope st))
    (len : ∀ vs G Q E, S vs G Q E → vs.length = ps.length)
    (der : ∀ (f : Addr) (cdv : Value) (A : Around) (outer : List Env) (s : Shared) (H : Hp) (E : XK), Room k (A.deeper (envOfC qual (defScope st) s.heap.objs.size f cdv)) → PSs (cxOf CX0 P w K mg base N qual (defScope st) f cdv A outer s H E).nox (defBody st) t)
    (pure : ∀ vs G Q E, S vs G Q E → Es t { nx := fun _ G' => Q .non G', rt := Q } (start N vs) G) : FnOk P w K mg base CX0 (k + 1) f fd ps (up S) :=
  F.ok sc (fun vs H Q E ⟨G, Q0, E0, _, h, _⟩ => len vs G Q0 E0 h) fun cdv A outer s H vs Q E hr h => ⟨t, der f cdv A outer s H E hr, body_up pure vs H Q E h⟩
theorem Has.mk0 {x : Str} {st : Stmt} {N ps : List Str} {k : Nat} {S : Pm} {t : TS} (F : Fnd K mg x st) (sc : FnScope N ps (defScope st)) (hb : BindOk x x st ps)
    (len : ∀ vs G Q E, S vs G Q E → vs.length = ps.length)
    (der : ∀ (f : Addr) (cdv : Value) (A : Around) (outer : List Env) (s : Shared) (H : Hp) (E : XK), Room k (A.deeper (envOfC x (defScope st) s.heap.objs.size f cdv)) → PSs (cxOf CX0 P w K mg base N x (defScope st) f cdv A outer s H E).nox (defBody st) t)
    (pure : ∀ vs G Q E, S vs G Q E → Es t { nx := fun _ G' => Q .non G', rt := Q } (start N vs) G) : Has P w K mg base CX0 (k + 1) x ps (up S) := by
  obtain ⟨f, fd, hm, F⟩ := F.ex
  exact ⟨f, fd, hm, F.kp, F.binds hb, fnok0 F sc len der pure⟩
theorem HasM.mk0 {C : Addr} {m qual : Str} {st : Stmt} {N ps : List Str} {k : Nat} {S : Pm} {t : TS} (F : FndM K C m qual st) (sc : FnScope N ps (defScope st)) (hb : BindOk m qual st ps)
    (len : ∀ vs G Q E, S vs G Q E → vs.length = ps.length)
    (der : ∀ (f : Addr) (cdv : Value) (A : Around) (outer : List Env) (s : Shared) (H : Hp) (E : XK), Room k (A.deeper (envOfC qual (defScope st) s.heap.objs.size f cdv)) → PSs (cxOf CX0 P w K mg base N qual (defScope st) f cdv A outer s H E).nox (defBody st) t)
    (pure : ∀ vs G Q E, S vs G Q E → Es t { nx := fun _ G' => Q .non G', rt := Q } (start N vs) G) : HasM P w K mg base CX0 (k + 1) C m ps (up S) := by
  obtain ⟨f, fd, hm, F⟩ := F.ex
  exact ⟨f, fd, hm, F.binds hb, fnok0 F sc len der pure⟩
theorem HasI.mk0 {C : Addr} {qual : Str} {st : Stmt} {N ps : List Str} {k : Nat} {S : Pm} {t : TS} (F : FndI K C qual st) (sc : FnScope N ps (defScope st)) (hb : BindOk "__init__" qual st ps)
    (len : ∀ vs G Q E, S vs G Q E → vs.length = ps.length)
    (der : ∀ (f : Addr) (cdv : Value) (A : Around) (outer : List Env) (s : Shared) (H : Hp) (E : XK), Room k (A.deeper (envOfC qual (defScope st) s.heap.objs.size f cdv)) → PSs (cxOf CX0 P w K mg base N qual (defScope st) f cdv A outer s H E).nox (defBody st) t)
    (pure : ∀ vs G Q E, S vs G Q E → Es t { nx := fun _ G' => Q .non G', rt := Q } (start N vs) G) : HasI P w K mg base CX0 (k + 1) C ps (up S) := by
  obtain ⟨f, fd, hm, F⟩ := F.ex
  exact ⟨f, fd, hm, F.binds hb, fnok0 F sc len der pure⟩
/-- a promise that is never asked for -/
theorem Has.never {x : Str} {st : Stmt} {ps : List Str} {CX : CXT} {k : Nat} {S : Pm} (F : Fnd K mg x st) (hb : BindOk x x st ps) (no : ∀ vs G Q E, ¬ S vs G Q E) : Has P w K mg base CX k x ps (up S) := by
  obtain ⟨f, fd, hm, F⟩ := F.ex
  exact ⟨f, fd, hm, F.kp, F.binds hb, ⟨fun vs H Q E ⟨_, _, _, _, z, _⟩ => (no _ _ _ _ z).elim, fun _ _ _ _ _ _ _ _ _ _ _ _ _ ⟨_, _, _, _, z, _⟩ => (no _ _ _ _ z).elim⟩⟩
end
section
variable {X : Cx} {CX : CXT} {k : Nat} {C : Addr} {ps : List Str} {sp : Sp} {E : XK} {x m : Str} {p pos apos : Pos} {e o : Expr} {es : List Expr} {ta : TE} {t : TA}
theorem pe_callH (h : Has X.prog X.w X.K X.mg X.base CX k x ps sp) (hr : Room k X.A) (hg : Gl X x) (hx : Passes CX X E) (ha : PA X (e :: es) t)
    (hdb : (x == ("__debug__" : Str)) = false := by decide) (he : starEach (e :: es) X.env = (false, eval e X.env) :: starEach es X.env := by rfl) (hpl : (backTo pos (starEach es X.env)).any (·.1) = false := by rfl) :
    PE X (.Call (.Name x p) (e :: es) [] pos) (tCall sp [] E t) := by
  obtain ⟨f, fd, hm, kp, b, F⟩ := h.ex
  exact pe_call F hr hg hm kp b .nil hx ha hdb he hpl
theorem pe_callH0 (h : Has X.prog X.w X.K X.mg X.base CX k x ps sp) (hr : Room k X.A) (hg : Gl X x) (hx : Passes CX X E)
    (hdb : (x == ("__debug__" : Str)) = false := by decide) : PE X (.Call (.Name x p) [] [] pos) (tCall sp [] E tNil) := by
  obtain ⟨f, fd, hm, kp, b, F⟩ := h.ex
  exact pe_call0 F hr hg hm kp b .nil hx hdb
theorem pe_methH {pl : Sem Bool} (ho : PE X o ta) (c : Cls X.K C) (h : HasM X.prog X.w X.K X.mg X.base CX k C m ps sp) (hr : Room k X.A) (hx : Passes CX X E) (ha : PA X (e :: es) t)
    (hst : starEach (e :: es) X.env = (false, eval e X.env) :: starEach es X.env := by rfl) (hpl : (backTo pos (starEach es X.env)).any (·.1) = false := by rfl)
    (ht : eval (.Call (.Attribute o m apos) (e :: es) [] pos) X.env = (do
      let ov ← eval o X.env
      standAt apos.atName
      let (f, first) ← holding [ov] (getMethod ov m pl)
      callWith pos f first (backTo pos (starEach (e :: es) X.env)) (backToKw pos (keywordEach [] X.env))) := by rfl) :
    PE X (.Call (.Attribute o m apos) (e :: es) [] pos) (tMeth C m sp [] E ta t) := by
  obtain ⟨f, fd, hm, b, F⟩ := h.ex
  exact pe_meth ho c hm F hr b .nil hx ha hst hpl ht
theorem pe_methH0 {pl : Sem Bool} (ho : PE X o ta) (c : Cls X.K C) (h : HasM X.prog X.w X.K X.mg X.base CX k C m ps sp) (hr : Room k X.A) (hx : Passes CX X E)
    (ht : eval (.Call (.Attribute o m apos) [] [] pos) X.env = (do
      let ov ← eval o X.env
      standAt apos.atName
      let (f, first) ← holding [ov] (getMethod ov m pl)
      callWith pos f first (backTo pos (starEach [] X.env)) (backToKw pos (keywordEach [] X.env))) := by rfl) :
    PE X (.Call (.Attribute o m apos) [] [] pos) (tMeth C m sp [] E ta tNil) := by
  obtain ⟨f, fd, hm, b, F⟩ := h.ex
  exact pe_meth0 ho c hm F hr b .nil hx ht
theorem pe_makeH (h : HasI X.prog X.w X.K X.mg X.base CX k C ps sp) (hr : Room (k + 1) X.A) (hg : Gl X x) (hm : X.mg x = some (.ref C)) (hx : Passes CX X E) (ha : PA X (e :: es) t)
    (hdb : (x == ("__debug__" : Str)) = false := by decide) (he : starEach (e :: es) X.env = (false, eval e X.env) :: starEach es X.env := by rfl) (hpl : (backTo pos (starEach es X.env)).any (·.1) = false := by rfl) :
    PE X (.Call (.Name x p) (e :: es) [] pos) (tMake C sp [] E t) := by
  obtain ⟨f, fd, M, b, F⟩ := h.ex
  exact pe_make M F hr hg hm b .nil hx ha hdb he hpl
theorem pe_makeH0 (h : HasI X.prog X.w X.K X.mg X.base CX k C ps sp) (hr : Room (k + 1) X.A) (hg : Gl X x) (hm : X.mg x = some (.ref C)) (hx : Passes CX X E)
    (hdb : (x == ("__debug__" : Str)) = false := by decide) : PE X (.Call (.Name x p) [] [] pos) (tMake C sp [] E tNil) := by
  obtain ⟨f, fd, M, b, F⟩ := h.ex
  exact pe_make0 M F hr hg hm b .nil hx hdb
theorem rm64 {j : Nat} {A : Around} (r : Room j A) : A.units + 64 < cLine := r.units
theorem rm65 {j : Nat} {A : Around} (r : Room j A) : A.units + 65 < cLine := by have := r.un; omega
theorem rm0 {j : Nat} {A : Around} (r : Room j A) : A.units < cLine := r.units0
end
end Lw

namespace Lw
open PySem PySem.Spec PyProof.Rows L2
/-! ## ready forms -/
theorem ifd {P A B : Prop} [Decidable P] (h1 : P → A) (h2 : ¬ P → B) : if decide P = true then A else B := by
  by_cases h : P
  · rw [if_pos (decide_eq_true h)]; exact h1 h
  · rw [if_neg (by simp [h])]; exact h2 h
theorem ifnd {P A B : Prop} [Decidable P] (h1 : ¬ P → A) (h2 : P → B) : if (!decide P) = true then A else B := by
  by_cases h : P
  · rw [if_neg (by simp [h])]; exact h2 h
  · rw [if_pos (by simp [h])]; exact h1 h
theorem ite_nt {A B : Prop} (b : B) : if (!true) = true then A else B := by rw [if_neg (by decide)]; exact b
theorem ite_nf {A B : Prop} (a : A) : if (!false) = true then A else B := by rw [if_pos (by decide)]; exact a
theorem ift {c : Bool} {A B : Prop} (h : c = true) (a : A) : if c = true then A else B := by rw [if_pos h]; exact a
theorem iff_ {c : Bool} {A B : Prop} (h : c = false) (b : B) : if c = true then A else B := by rw [h]; exact iteF b
theorem ifb {c : Bool} {A B : Prop} (h1 : c = true → A) (h2 : c = false → B) : if c = true then A else B := by
  cases c with
  | true => exact iteT (h1 rfl)
  | false => exact iteF (h2 rfl)
theorem sz1000 {n : Nat} (h : n ≤ 1000) : n ≤ sizeLine := Nat.le_of_lt (small1000 h)
theorem szM {n : Nat} (h : n ≤ 16000000) : n ≤ sizeLine := Nat.le_trans h (by decide)
theorem szlt {n : Nat} (h : n < 16000000) : n < sizeLine := Nat.lt_of_lt_of_le h (by decide)
theorem line62 {n : Nat} (h : n ≤ sizeLine) : -(2 ^ 62) ≤ (n : Int) ∧ (n : Int) < 2 ^ 62 := by
  have : n ≤ 16777216 := by rw [← sizeLine_eq]; exact h
  omega
section
variable {σ : L2.St} {G : Hp} {D : Ek} {K : PySem.W.Frag}
theorem sqL_upd {a l : Addr} {o : HO} {xs : List V} (h : SqL K G l xs) (n : l ≠ a) : SqL K (upd G a o) l xs := by
  rcases h with (h | ⟨q, h⟩) | h
  · exact .inl (.inl (by rw [upd_ne n]; exact h))
  · exact .inl (.inr ⟨q, by rw [upd_ne n]; exact h⟩)
  · exact .inr h
theorem upd_comm {a b : Addr} {o u : HO} (h : a ≠ b) : upd (upd G a o) b u = upd (upd G b u) a o := by
  funext c; unfold upd; split
  · rename_i h1; subst h1; rw [if_neg (Ne.symm h)]
  · rfl
theorem get_new {a p : Addr} {o u : HO} (h : G a = some o) (n : G p = none) : upd G p u a = some o := by rw [upd_ne (ne_of_none h n)]; exact h
theorem get_ne {a p : Addr} {o u : HO} (h : G a = some o) (n : a ≠ p) : upd G p u a = some o := by rw [upd_ne n]; exact h
theorem nul_ne {a p : Addr} {u : HO} (h : G a = none) (n : a ≠ p) : upd G p u a = none := by rw [upd_ne n]; exact h
theorem ne_new {a p : Addr} {o : HO} (h : G a = some o) (n : G p = none) : a ≠ p := ne_of_none h n
theorem new_ne {a p : Addr} {o : HO} (h : G a = some o) (n : G p = none) : p ≠ a := (ne_of_none h n).symm
theorem nul_upd {a p : Addr} {u : HO} (h : upd G p u a = none) : G a = none := by
  by_cases q : a = p
  · subst q; rw [upd_same] at h; cases h
  · rw [upd_ne q] at h; exact h
theorem nul_updN {a p : Addr} {u : HO} (h : upd G p u a = none) : a ≠ p := by
  rintro rfl; rw [upd_same] at h; cases h
theorem er_isN_non {Q : V → Hp → Prop} (q : Q (.bl true) G) : Er rIsN .non .non G Q := er_isN q
theorem er_isN_bl {b : Bool} {Q : V → Hp → Prop} (q : Q (.bl false) G) : Er rIsN (.bl b) .non G Q := er_isN q
theorem er_isN_int {b : Int} {Q : V → Hp → Prop} (q : Q (.bl false) G) : Er rIsN (.int b) .non G Q := er_isN q
theorem er_isN_str {b : Str} {Q : V → Hp → Prop} (q : Q (.bl false) G) : Er rIsN (.str b) .non G Q := er_isN q
theorem er_isN_ref {b : Addr} {Q : V → Hp → Prop} (q : Q (.bl false) G) : Er rIsN (.ref b) .non G Q := er_isN q
theorem er_notN_non {Q : V → Hp → Prop} (q : Q (.bl false) G) : Er rNotN .non .non G Q := er_notN q
theorem er_notN_bl {b : Bool} {Q : V → Hp → Prop} (q : Q (.bl true) G) : Er rNotN (.bl b) .non G Q := er_notN q
theorem er_notN_int {b : Int} {Q : V → Hp → Prop} (q : Q (.bl true) G) : Er rNotN (.int b) .non G Q := er_notN q
theorem er_notN_str {b : Str} {Q : V → Hp → Prop} (q : Q (.bl true) G) : Er rNotN (.str b) .non G Q := er_notN q
theorem er_notN_ref {b : Addr} {Q : V → Hp → Prop} (q : Q (.bl true) G) : Er rNotN (.ref b) .non G Q := er_notN q
theorem tru_bl {b : Bool} {R : Bool → Prop} (q : R b) : ∃ k, TruV K (.bl b) G k ∧ R k := ⟨b, rfl, q⟩
theorem tru_int {b : Int} {R : Bool → Prop} (q : R (b != 0)) : ∃ k, TruV K (.int b) G k ∧ R k := ⟨_, rfl, q⟩
theorem tru_non {R : Bool → Prop} (q : R false) : ∃ k, TruV K .non G k ∧ R k := ⟨_, rfl, q⟩
theorem ex_bl {b : Bool} {R : Bool → Prop} (q : R b) : ∃ c, V.bl b = .bl c ∧ R c := ⟨b, rfl, q⟩
theorem ex_int {b : Int} {R : Int → Prop} (q : R b) : ∃ c, V.int b = .int c ∧ R c := ⟨b, rfl, q⟩
theorem ex_str {b : Str} {R : Str → Prop} (q : R b) : ∃ c, V.str b = .str c ∧ R c := ⟨b, rfl, q⟩
theorem ex_strx {b : Str} {R : Prop} (q : R) : (∃ c, V.str b = .str c) ∧ R := ⟨⟨b, rfl⟩, q⟩
theorem ex_ints1 {b : Int} {R : Int → Prop} (q : R b) : ∃ c, [V.int b] = [.int c] ∧ R c := ⟨b, rfl, q⟩
theorem ex_ints2 {a b : Int} {R : Int → Int → Prop} (q : R a b) : ∃ c d, [V.int a, V.int b] = [.int c, .int d] ∧ R c d := ⟨a, b, rfl, q⟩
def EsU (t : TS) (D : Ek) (σ : L2.St) (G : Hp) : Prop := Es t D σ G
theorem es_unf {t : TS} (h : EsU t D σ G) : Es t D σ G := h
/-! sequences of either sort -/
def Sq (K : PySem.W.Frag) (G : Hp) (a : Addr) (xs : List V) : Prop := SqL K G a xs ∨ SqT K G a xs
theorem ec_lenU {p : Addr} {xs : List V} {Q : V → Hp → Prop} (h : Sq K G p xs) (q : xs.length ≤ sizeLine → Q (.int xs.length) G) : Ec (rLenU K) [.ref p] G Q := h.elim (fun h => ec_lenL h q) fun h => ec_lenT h q
theorem er_ixU {p : Addr} {i : Int} {xs : List V} {v : V} {Q : V → Hp → Prop} (h : Sq K G p xs) (a : atI xs i = some v) (q : Q v G) : Er (rIx K) (.ref p) (.int i) G Q := h.elim (fun h => er_ixL h a q) fun h => er_ixT h a q
/-! data -/
theorem dp_list {v : V} {ds : List PyData} (h : Dp K G v (.list ds)) : ∃ a xs, v = .ref a ∧ SqL K G a xs ∧ DpAll K G xs ds := by cases h with | lst h1 h2 => exact ⟨_, _, rfl, h1, h2⟩
theorem dp_tup {v : V} {ds : List PyData} (h : Dp K G v (.tuple ds)) : ∃ a xs, v = .ref a ∧ SqT K G a xs ∧ DpAll K G xs ds := by cases h with | tup h1 h2 => exact ⟨_, _, rfl, h1, h2⟩
theorem dps_len : ∀ {xs : List V} {ds : List PyData}, DpAll K G xs ds → xs.length = ds.length
  | _, _, .nil => rfl
  | _, _, .cons _ t => by rw [List.length_cons, List.length_cons, dps_len t]
theorem dps_get : ∀ {xs : List V} {ds : List PyData} {i : Nat} {d : PyData}, DpAll K G xs ds → ds[i]? = some d → ∃ x, xs[i]? = some x ∧ Dp K G x d
  | _, _, _, _, .nil, h => by cases h
  | _, _, 0, _, .cons h _, e => by cases e; exact ⟨_, rfl, h⟩
  | _, _, i + 1, _, .cons _ t, e => dps_get (i := i) t e
theorem dps_get' : ∀ {xs : List V} {ds : List PyData} {i : Nat} {x : V}, DpAll K G xs ds → xs[i]? = some x → ∃ d, ds[i]? = some d ∧ Dp K G x d
  | _, _, _, _, .nil, h => by cases h
  | _, _, 0, _, .cons h _, e => by cases e; exact ⟨_, rfl, h⟩
  | _, _, i + 1, _, .cons _ t, e => dps_get' (i := i) t e
theorem dps_app : ∀ {xs ys : List V} {ds es : List PyData}, DpAll K G xs ds → DpAll K G ys es → DpAll K G (xs ++ ys) (ds ++ es)
  | _, _, _, _, .nil, h => h
  | _, _, _, _, .cons h t, k => .cons h (dps_app t k)
theorem dps_one {v : V} {d : PyData} (h : Dp K G v d) : DpAll K G [v] [d] := .cons h .nil
theorem dps_ints : ∀ ns : List Int, DpAll K G (ns.map V.int) (ns.map PyData.int)
  | [] => .nil
  | n :: r => .cons (.int n) (dps_ints r)
/-! data without lists: stays whatever happens to other things than tuples -/
def Tx (G H : Hp) : Prop := ∀ a xs, Rd G a (.tup xs) → Rd H a (.tup xs)
theorem Tx.refl : Tx G G := fun _ _ h => h
theorem Tx.trans {H I : Hp} (a : Tx G H) (b : Tx H I) : Tx G I := fun x o h => b x o (a x o h)
theorem Ex.tx {H : Hp} (e : Ex G H) : Tx G H := fun _ _ h => e.rd h
def NoTup (G : Hp) (p : Addr) : Prop := ∀ xs, ¬ Rd G p (.tup xs)
theorem noTup_lst {p : Addr} {xs : List V} (h : G p = some (.lst xs)) : NoTup G p := by
  rintro ys (h' | ⟨o, h'⟩) <;> (rw [h] at h'; cases h')
theorem noTup_ins {p C dx : Addr} {fs : List (Str × V)} (h : G p = some (.ins C dx fs)) : NoTup G p := by
  rintro ys (h' | ⟨o, h'⟩) <;> (rw [h] at h'; cases h')
theorem noTup_nul {p : Addr} (h : G p = none) : NoTup G p := by
  rintro ys (h' | ⟨o, h'⟩) <;> (rw [h] at h'; cases h')
theorem Tx.upd {p : Addr} {o : HO} (h : NoTup G p) : Tx G (upd G p o) := fun a xs r => by
  have n : a ≠ p := fun e => h xs (e ▸ r)
  rcases r with r | ⟨q, r⟩
  · exact .inl (by rw [upd_ne n]; exact r)
  · exact .inr ⟨q, by rw [upd_ne n]; exact r⟩
theorem Tx.st {H : Hp} {a : Addr} {xs : List V} (e : Tx G H) (h : SqT K G a xs) : SqT K H a xs := h.elim (fun r => .inl (e _ _ r)) .inr
mutual
inductive Im (K : PySem.W.Frag) (G : Hp) : V → PyData → Prop
  | non : Im K G .non .none
  | bl (b : Bool) : Im K G (.bl b) (.bool b)
  | int (i : Int) : Im K G (.int i) (.int i)
  | str (x : Str) : Im K G (.str x) (.str x)
  | tup {a : Addr} {xs : List V} {ds : List PyData} : SqT K G a xs → Ims K G xs ds → Im K G (.ref a) (.tuple ds)
inductive Ims (K : PySem.W.Frag) (G : Hp) : List V → List PyData → Prop
  | nil : Ims K G [] []
  | cons {v : V} {vs : List V} {d : PyData} {ds : List PyData} : Im K G v d → Ims K G vs ds → Ims K G (v :: vs) (d :: ds)
end
mutual
theorem Im.dp : ∀ {v : V} {d : PyData}, Im K G v d → Dp K G v d
  | _, _, .non => .non
  | _, _, .bl b => .bl b
  | _, _, .int i => .int i
  | _, _, .str x => .str x
  | _, _, .tup s h => .tup s h.dps
theorem Ims.dps : ∀ {v : List V} {d : List PyData}, Ims K G v d → DpAll K G v d
  | _, _, .nil => .nil
  | _, _, .cons h t => .cons h.dp t.dps
end
mutual
theorem Tx.im {H : Hp} (e : Tx G H) : ∀ {v : V} {d : PyData}, Im K G v d → Im K H v d
  | _, _, .non => .non
  | _, _, .bl b => .bl b
  | _, _, .int i => .int i
  | _, _, .str x => .str x
  | _, _, .tup s h => .tup (e.st s) (e.ims h)
theorem Tx.ims {H : Hp} (e : Tx G H) : ∀ {v : List V} {d : List PyData}, Ims K G v d → Ims K H v d
  | _, _, .nil => .nil
  | _, _, .cons h t => .cons (e.im h) (e.ims t)
end
theorem im_tup {v : V} {ds : List PyData} (h : Im K G v (.tuple ds)) : ∃ a xs, v = .ref a ∧ SqT K G a xs ∧ Ims K G xs ds := by cases h with | tup h1 h2 => exact ⟨_, _, rfl, h1, h2⟩
theorem ims_len : ∀ {xs : List V} {ds : List PyData}, Ims K G xs ds → xs.length = ds.length
  | _, _, .nil => rfl
  | _, _, .cons _ t => by rw [List.length_cons, List.length_cons, ims_len t]
theorem ims_get : ∀ {xs : List V} {ds : List PyData} {i : Nat} {d : PyData}, Ims K G xs ds → ds[i]? = some d → ∃ x, xs[i]? = some x ∧ Im K G x d
  | _, _, _, _, .nil, h => by cases h
  | _, _, 0, _, .cons h _, e => by cases e; exact ⟨_, rfl, h⟩
  | _, _, i + 1, _, .cons _ t, e => ims_get (i := i) t e
theorem ims_get' : ∀ {xs : List V} {ds : List PyData} {i : Nat} {x : V}, Ims K G xs ds → xs[i]? = some x → ∃ d, ds[i]? = some d ∧ Im K G x d
  | _, _, _, _, .nil, h => by cases h
  | _, _, 0, _, .cons h _, e => by cases e; exact ⟨_, rfl, h⟩
  | _, _, i + 1, _, .cons _ t, e => ims_get' (i := i) t e
theorem ims_app : ∀ {xs ys : List V} {ds es : List PyData}, Ims K G xs ds → Ims K G ys es → Ims K G (xs ++ ys) (ds ++ es)
  | _, _, _, _, .nil, h => h
  | _, _, _, _, .cons h t, k => .cons h (ims_app t k)
theorem ims_one {v : V} {d : PyData} (h : Im K G v d) : Ims K G [v] [d] := .cons h .nil
theorem ims_ints : ∀ ns : List Int, Ims K G (ns.map V.int) (ns.map PyData.int)
  | [] => .nil
  | n :: r => .cons (.int n) (ims_ints r)
/-! loops with a name for a target -/
abbrev Bd (D : Ek) (N : L2.St → Hp → Prop) : Ek := { D with nx := N, ct := N, bk := D.nx }
theorem es_forR1 {ta : TA} {j : Nat} {tb : TS} (h : Ea ta σ G fun vs G1 => ∃ n : Int, vs = [.int n] ∧ (-(2 ^ 62) ≤ n ∧ n < 2 ^ 62) ∧ ∃ Pv : Nat → L2.St → Hp → Prop, Pv 0 σ G1 ∧
    (∀ (i : Nat) σ G, (i : Int) < n → Pv i σ G → Es tb (Bd D (Pv (i + 1))) (σ.set j (some (.int (i : Int)))) G) ∧ (∀ σ G, Pv n.toNat σ G → D.nx σ G)) : Es (tFor (iRng1 ta) (gName j) tb) D σ G := by
  refine es_for (ei_r1 fun H Q' e l => h H _ e fun vs G1 H1 e1 ⟨n, h1, ⟨h2, h3⟩, Pv, h4, h5, h6⟩ => l _ G1 H1 e1 ⟨n, h1, h2, h3, _, _, _, wk_range, Pv, h4, fun _ _ _ _ _ => trivial, fun i x σ G G' hi p y => ?_, h6⟩)
  obtain ⟨rfl, y⟩ := y
  have : x = .int (i : Int) := by rw [← Option.some.inj y, Int.zero_add]
  subst this
  exact eg_name (h5 i σ G' (by omega) p)
theorem es_forR2 {ta : TA} {j : Nat} {tb : TS} (h : Ea ta σ G fun vs G1 => ∃ lo n : Int, vs = [.int lo, .int n] ∧ (-(2 ^ 62) ≤ lo ∧ lo < 2 ^ 62 ∧ -(2 ^ 62) ≤ n ∧ n < 2 ^ 62) ∧ ∃ Pv : Nat → L2.St → Hp → Prop, Pv 0 σ G1 ∧
    (∀ (i : Nat) σ G, lo + (i : Int) < n → Pv i σ G → Es tb (Bd D (Pv (i + 1))) (σ.set j (some (.int (lo + (i : Int))))) G) ∧ (∀ σ G, Pv (n - lo).toNat σ G → D.nx σ G)) : Es (tFor (iRng2 ta) (gName j) tb) D σ G := by
  refine es_for (ei_r2 fun H Q' e l => h H _ e fun vs G1 H1 e1 ⟨lo, n, h1, h2, Pv, h4, h5, h6⟩ => l _ G1 H1 e1 ⟨lo, n, h1, h2, _, _, _, wk_range, Pv, h4, fun _ _ _ _ _ => trivial, fun i x σ G G' hi p y => ?_, h6⟩)
  obtain ⟨rfl, y⟩ := y
  have : x = .int (lo + (i : Int)) := (Option.some.inj y).symm
  subst this
  exact eg_name (h5 i σ G' (by omega) p)
theorem es_forL {tl : TE} {g : TG} {tb : TS} (h : Ee tl σ G fun v G1 => ∃ a xs, v = .ref a ∧ SqL K G1 a xs ∧ ∃ Pv : Nat → L2.St → Hp → Prop, Pv 0 σ G1 ∧ (∀ i σ G, Pv i σ G → SqL K G a xs) ∧
    (∀ i x σ G, xs[i]? = some x → Pv i σ G → Eg g x σ G fun σ2 G2 => Es tb (Bd D (Pv (i + 1))) σ2 G2) ∧ (∀ σ G, Pv xs.length σ G → D.nx σ G)) : Es (tFor (iList K tl) g tb) D σ G := by
  refine es_for (ei_list fun H Q' e l => h H _ e fun v G1 H1 e1 ⟨a, xs, h1, h2, Pv, h3, h4, h5, h6⟩ => l _ G1 H1 e1 ⟨a, xs, h1, h2, _, _, _, wk_list, Pv, h3, fun i σ G _ p => h4 i σ G p, fun i x σ G G' hi p y => ?_, h6⟩)
  obtain ⟨rfl, y⟩ := y
  exact h5 i x σ G' y p
theorem es_forT {tl : TE} {g : TG} {tb : TS} (h : Ee tl σ G fun v G1 => ∃ a xs, v = .ref a ∧ SqT K G1 a xs ∧ ∃ Pv : Nat → L2.St → Hp → Prop, Pv 0 σ G1 ∧ (∀ i σ G, Pv i σ G → SqT K G a xs) ∧
    (∀ i x σ G, xs[i]? = some x → Pv i σ G → Eg g x σ G fun σ2 G2 => Es tb (Bd D (Pv (i + 1))) σ2 G2) ∧ (∀ σ G, Pv xs.length σ G → D.nx σ G)) : Es (tFor (iTup K tl) g tb) D σ G := by
  refine es_for (ei_tup fun H Q' e l => h H _ e fun v G1 H1 e1 ⟨a, xs, h1, h2, Pv, h3, h4, h5, h6⟩ => l _ G1 H1 e1 ⟨a, xs, h1, h2, _, _, _, wk_tup, Pv, h3, fun i σ G _ p => h4 i σ G p, fun i x σ G G' hi p y => ?_, h6⟩)
  obtain ⟨rfl, y⟩ := y
  exact h5 i x σ G' y p
theorem es_forS {te : TE} {j : Nat} {tb : TS} (h : Ee te σ G fun v G1 => ∃ z, v = .str z ∧ ∃ Pv : Nat → L2.St → Hp → Prop, Pv 0 σ G1 ∧
    (∀ i c σ G, z.cps[i]? = some c → Pv i σ G → Es tb (Bd D (Pv (i + 1))) (σ.set j (some (.str ⟨#[c]⟩))) G) ∧ (∀ σ G, Pv z.cps.size σ G → D.nx σ G)) : Es (tFor (iStr te) (gName j) tb) D σ G := by
  refine es_for (ei_str fun H Q' e l => h H _ e fun v G1 H1 e1 ⟨z, h1, Pv, h3, h5, h6⟩ => l _ G1 H1 e1 ⟨z, h1, _, _, _, wk_str, Pv, h3, fun _ _ _ _ _ => trivial, fun i x σ G G' hi p y => ?_, h6⟩)
  obtain ⟨rfl, y⟩ := y
  obtain ⟨c, hc, rfl⟩ := Option.map_eq_some_iff.mp y
  exact eg_name (h5 i c σ G' hc p)
theorem es_forZ {ta : TA} {g1 g2 : TG} {tb : TS} (h : Ea ta σ G fun vs G1 => ∃ a b xs ys, vs = [.ref a, .ref b] ∧ SqL K G1 a xs ∧ SqL K G1 b ys ∧ ∃ Pv : Nat → L2.St → Hp → Prop, Pv 0 σ G1 ∧ (∀ i σ G, Pv i σ G → SqL K G a xs ∧ SqL K G b ys) ∧
    (∀ i x y σ G T, xs[i]? = some x → ys[i]? = some y → Pv i σ G → G T = none → Egs (gCons g1 (gCons g2 gNil)) [x, y] σ (upd G T (.tup [x, y])) fun σ2 G2 => Es tb (Bd D (Pv (i + 1))) σ2 G2) ∧ (∀ σ G, Pv (min xs.length ys.length) σ G → D.nx σ G)) :
    Es (tFor (iZip K ta) (gTup K 2 (gCons g1 (gCons g2 gNil))) tb) D σ G := by
  refine es_for (ei_zip fun H Q' e l => h H _ e fun vs G1 H1 e1 ⟨a, b, xs, ys, h1, h2, h3, Pv, h4, h5, h6, h7⟩ => l _ G1 H1 e1 ⟨a, b, xs, ys, h1, h2, h3, _, _, _, wk_zip rfl, Pv, h4, fun i σ G _ p => h5 i σ G p, fun i x σ G G' hi p y => ?_, h7⟩)
  obtain ⟨T, x1, y1, rfl, nT, rfl, e1, e2⟩ := y
  exact eg_tup (SqT.of upd_same) rfl (h6 i x1 y1 σ G T e1 e2 p nT)
theorem es_forEn {ta : TA} {g1 g2 : TG} {tb : TS} (h : Ea ta σ G fun vs G1 => ∃ a xs, vs = [.ref a] ∧ SqL K G1 a xs ∧ ∃ Pv : Nat → L2.St → Hp → Prop, Pv 0 σ G1 ∧ (∀ i σ G, Pv i σ G → SqL K G a xs) ∧
    (∀ (i : Nat) x σ G T, xs[i]? = some x → Pv i σ G → G T = none → Egs (gCons g1 (gCons g2 gNil)) [.int (i : Int), x] σ (upd G T (.tup [.int (i : Int), x])) fun σ2 G2 => Es tb (Bd D (Pv (i + 1))) σ2 G2) ∧ (∀ σ G, Pv xs.length σ G → D.nx σ G)) :
    Es (tFor (iEnum K ta) (gTup K 2 (gCons g1 (gCons g2 gNil))) tb) D σ G := by
  refine es_for (ei_enum fun H Q' e l => h H _ e fun vs G1 H1 e1 ⟨a, xs, h1, h2, Pv, h4, h5, h6, h7⟩ => l _ G1 H1 e1 ⟨a, xs, h1, h2, _, _, _, wk_enum, Pv, h4, fun i σ G _ p => h5 i σ G p, fun i x σ G G' hi p y => ?_, h7⟩)
  obtain ⟨T, x1, y1, rfl, nT, rfl, e1, e2⟩ := y
  cases e1
  exact eg_tup (SqT.of upd_same) rfl (h6 i y1 σ G T e2 p nT)
/-! comprehensions -/
theorem ee_lcZ {ta : TA} {g1 g2 : TG} {tt : TT} {te : TE} {vs : List Nat} {Q : V → Hp → Prop}
    (h : Ea ta σ G fun us G1 => ∃ a b xs ys, us = [.ref a, .ref b] ∧ SqL K G1 a xs ∧ SqL K G1 b ys ∧ ∀ p, G1 p = none → ∃ Pv : Nat → List V → Hp → Prop, Pv 0 [] G1 ∧ (∀ i acc G, Pv i acc G → G p = none ∧ acc.length < sizeLine ∧ SqL K G a xs ∧ SqL K G b ys) ∧
      (∀ i acc x y G T, xs[i]? = some x → ys[i]? = some y → Pv i acc G → upd G p (.lst acc) T = none → Egs (gCons g1 (gCons g2 gNil)) [x, y] (wipe σ vs) (upd (upd G p (.lst acc)) T (.tup [x, y])) fun σ2 G2 => wipe σ2 vs = wipe σ vs ∧ Et tt σ2 G2 fun b G3 =>
        if b = true then Ee te σ2 G3 fun y G4 => G4 p = some (.lst acc) ∧ ∃ G5, Ex (upd G5 p (.lst acc)) G4 ∧ Pv (i + 1) (acc ++ [y]) G5 else G3 p = some (.lst acc) ∧ ∃ G5, Ex (upd G5 p (.lst acc)) G3 ∧ Pv (i + 1) acc G5) ∧
      (∀ acc G, Pv (min xs.length ys.length) acc G → Q (.ref p) (upd G p (.lst acc)))) : Ee (tLc (iZip K ta) (gTup K 2 (gCons g1 (gCons g2 gNil))) tt te vs) σ G Q := by
  refine ee_lc (ei_zip fun H Q' e l => h H _ e fun us G1 H1 e1 ⟨a, b, xs, ys, h1, h2, h3, hh⟩ => l _ G1 H1 e1 ⟨a, b, xs, ys, h1, h2, h3, _, (fun G => SqL K G a xs ∧ SqL K G b ys), _, wk_zip (a := a) (b := b) (xs := xs) (ys := ys) rfl, fun G p o hg hn => ⟨(Ex.new hn).sl hg.1, (Ex.new hn).sl hg.2⟩, fun p hp => ?_⟩)
  obtain ⟨Pv, h4, h5, h6, h7⟩ := hh p hp
  refine ⟨Pv, h4, fun i acc G _ p => h5 i acc G p, fun i acc x G G' hi p y => ?_, h7⟩
  obtain ⟨T, x1, y1, rfl, nT, rfl, e1, e2⟩ := y
  exact eg_tup (SqT.of upd_same) rfl (h6 i acc x1 y1 G T e1 e2 p nT)
theorem ee_lcL {tl : TE} {g : TG} {tt : TT} {te : TE} {vs : List Nat} {Q : V → Hp → Prop}
    (h : Ee tl σ G fun v G1 => ∃ a xs, v = .ref a ∧ SqL K G1 a xs ∧ ∀ p, G1 p = none → ∃ Pv : Nat → List V → Hp → Prop, Pv 0 [] G1 ∧ (∀ i acc G, Pv i acc G → G p = none ∧ acc.length < sizeLine ∧ SqL K G a xs) ∧
      (∀ i acc x G, xs[i]? = some x → Pv i acc G → Eg g x (wipe σ vs) (upd G p (.lst acc)) fun σ2 G2 => wipe σ2 vs = wipe σ vs ∧ Et tt σ2 G2 fun b G3 =>
        if b = true then Ee te σ2 G3 fun y G4 => G4 p = some (.lst acc) ∧ ∃ G5, Ex (upd G5 p (.lst acc)) G4 ∧ Pv (i + 1) (acc ++ [y]) G5 else G3 p = some (.lst acc) ∧ ∃ G5, Ex (upd G5 p (.lst acc)) G3 ∧ Pv (i + 1) acc G5) ∧
      (∀ acc G, Pv xs.length acc G → Q (.ref p) (upd G p (.lst acc)))) : Ee (tLc (iList K tl) g tt te vs) σ G Q := by
  refine ee_lc (ei_list fun H Q' e l => h H _ e fun v G1 H1 e1 ⟨a, xs, h1, h2, hh⟩ => l _ G1 H1 e1 ⟨a, xs, h1, h2, _, (fun G => SqL K G a xs), _, wk_list (a := a) (xs := xs), fun G p o hg hn => (Ex.new hn).sl hg, fun p hp => ?_⟩)
  obtain ⟨Pv, h4, h5, h6, h7⟩ := hh p hp
  refine ⟨Pv, h4, fun i acc G _ p => h5 i acc G p, fun i acc x G G' hi p y => ?_, h7⟩
  obtain ⟨rfl, y⟩ := y
  exact h6 i acc x G y p
theorem ee_lcR1 {ta : TA} {j : Nat} {tt : TT} {te : TE} {vs : List Nat} {Q : V → Hp → Prop}
    (h : Ea ta σ G fun us G1 => ∃ n : Int, us = [.int n] ∧ (-(2 ^ 62) ≤ n ∧ n < 2 ^ 62) ∧ ∀ p, G1 p = none → ∃ Pv : Nat → List V → Hp → Prop, Pv 0 [] G1 ∧ (∀ i acc G, Pv i acc G → G p = none ∧ acc.length < sizeLine) ∧
      (∀ (i : Nat) acc G, (i : Int) < n → Pv i acc G → wipe ((wipe σ vs).set j (some (.int (i : Int)))) vs = wipe σ vs ∧ Et tt ((wipe σ vs).set j (some (.int (i : Int)))) (upd G p (.lst acc)) fun b G3 =>
        if b = true then Ee te ((wipe σ vs).set j (some (.int (i : Int)))) G3 fun y G4 => G4 p = some (.lst acc) ∧ ∃ G5, Ex (upd G5 p (.lst acc)) G4 ∧ Pv (i + 1) (acc ++ [y]) G5 else G3 p = some (.lst acc) ∧ ∃ G5, Ex (upd G5 p (.lst acc)) G3 ∧ Pv (i + 1) acc G5) ∧
      (∀ acc G, Pv n.toNat acc G → Q (.ref p) (upd G p (.lst acc)))) : Ee (tLc (iRng1 ta) (gName j) tt te vs) σ G Q := by
  refine ee_lc (ei_r1 fun H Q' e l => h H _ e fun us G1 H1 e1 ⟨n, h1, ⟨h2, h3⟩, hh⟩ => l _ G1 H1 e1 ⟨n, h1, h2, h3, _, _, _, wk_range, fun G p o hg hn => trivial, fun p hp => ?_⟩)
  obtain ⟨Pv, h4, h5, h6, h7⟩ := hh p hp
  refine ⟨Pv, h4, fun i acc G _ p => ⟨(h5 i acc G p).1, (h5 i acc G p).2, trivial⟩, fun i acc x G G' hi p y => ?_, h7⟩
  obtain ⟨rfl, y⟩ := y
  have : x = .int (i : Int) := by rw [← Option.some.inj y, Int.zero_add]
  subst this
  exact eg_name (h6 i acc G (by omega) p)
end
end Lw

namespace Lw
open PySem PySem.Spec PyProof.Rows L2
section
variable {σ : L2.St} {G : Hp} {D : Ek} {K : PySem.W.Frag}
def rInsertU : V → List V → Hp → VK → Prop := fun x vs H Q => ∃ (l : Addr) (xs : List V) (i : Int) (y : V), x = .ref l ∧ vs = [.int i, y] ∧ H l = some (.lst xs) ∧ xs.length < sizeLine ∧ 0 ≤ i ∧ i < 2 ^ 63 ∧
    Q .non (upd H l (.lst (xs.take i.toNat ++ [y] ++ xs.drop i.toNat)))
theorem mt_insertU {X : Cx} : MtR X "list.insert" rInsertU := mt_insert
theorem em_insert {l : Addr} {xs : List V} {i : Nat} {y : V} {Q : V → Hp → Prop} (h : G l = some (.lst xs)) (hz : xs.length < sizeLine) (hi : i < 2 ^ 63) (q : Q .non (upd G l (.lst (xs.take i ++ [y] ++ xs.drop i)))) : Em rInsertU (.ref l) [.int (i : Int), y] G Q := fun H Q' e k =>
  ⟨l, xs, i, y, rfl, rfl, e _ _ h, hz, Int.natCast_nonneg _, by omega, k _ _ _ e.put q⟩
theorem eg_lst {n : Nat} {t : TGs} {a : Addr} {xs : List V} {Q : L2.St → Hp → Prop} (h : SqL K G a xs) (hn : xs.length = n) (q : Egs t xs σ G Q) : Eg (gLst K n t) (.ref a) σ G Q := fun H Q' e l =>
  ⟨a, xs, rfl, e.sl h, hn, q H Q' e l⟩
theorem em_popAt {p : Addr} {xs : List V} {y : V} {i : Nat} {Q : V → Hp → Prop} (h : G p = some (.lst xs)) (hz : xs.length < 2 ^ 62) (hy : xs[i]? = some y) (q : Q y (upd G p (.lst (xs.eraseIdx i)))) : Em rPopAt (.ref p) [.int (i : Int)] G Q := fun H Q' e l => by
  have hi := (List.getElem?_eq_some_iff.mp hy).1
  exact ⟨p, xs, i, i, y, rfl, rfl, e _ _ h, by omega, by omega, by rw [seqIndex_of (by omega) (by omega)]; simp, hy, l _ _ _ e.put q⟩
theorem Eg.weak {G' : Hp} {g : TG} {v : V} {Q : L2.St → Hp → Prop} (e : Ex G G') (h : Eg g v σ G Q) : Eg g v σ G' Q := fun H D' x l => h H D' (e.trans x) l
theorem Er.weak {G' : Hp} {r : R2} {x y : V} {Q : V → Hp → Prop} (e : Ex G G') (h : Er r x y G Q) : Er r x y G' Q := fun H D' z l => h H D' (e.trans z) l
theorem Et.weak {G' : Hp} {t : TT} {Q : Bool → Hp → Prop} (e : Ex G G') (h : Et t σ G Q) : Et t σ G' Q := fun H D' z l => h H D' (e.trans z) l
theorem Ec.weak {G' : Hp} {r : List V → Hp → VK → Prop} {x : List V} {Q : V → Hp → Prop} (e : Ex G G') (h : Ec r x G Q) : Ec r x G' Q := fun H D' z l => h H D' (e.trans z) l
theorem Em.weak {G' : Hp} {r : V → List V → Hp → VK → Prop} {y : V} {x : List V} {Q : V → Hp → Prop} (e : Ex G G') (h : Em r y x G Q) : Em r y x G' Q := fun H D' z l => h H D' (e.trans z) l
theorem ex_swap {p p2 : Addr} {u o : HO} (hp : G p = none) : Ex (upd G p2 o) (upd (upd G p u) p2 o) := (Ex.new hp).put
theorem er_eqNI {i : Int} {Q : V → Hp → Prop} (q : Q (.bl false) G) : Er (rEqU K) .non (.int i) G Q := er_orL fun H Q' e l => ⟨rfl, l _ G H e (by rw [decide_eq_false (by intro z; cases z)]; exact q)⟩
/-! pieces of a heap, apart from one another -/
def Dis (F R : Hp) : Prop := ∀ a, F a = none ∨ R a = none
theorem Dis.symm {F R : Hp} (d : Dis F R) : Dis R F := fun a => (d a).symm
theorem Dis.put {F R : Hp} {p : Addr} {o : HO} (d : Dis F R) (h : R p = none) : Dis (upd F p o) R := fun a => by
  by_cases e : a = p
  · exact .inr (e ▸ h)
  · rw [upd_ne e]; exact d a
def Fr (F G F' G' : Hp) : Prop := ∀ R, Dis F R → Ex R G → Ex R G' ∧ Dis F' R
theorem Fr.refl {F : Hp} : Fr F G F G := fun _ d e => ⟨e, d⟩
theorem Fr.trans {F F1 F2 G1 G2 : Hp} (a : Fr F G F1 G1) (b : Fr F1 G1 F2 G2) : Fr F G F2 G2 := fun R d e => let ⟨e1, d1⟩ := a R d e; b R d1 e1
theorem Fr.new {F : Hp} {p : Addr} {o : HO} (h : G p = none) : Fr F G (upd F p o) (upd G p o) := fun R d e => ⟨e.trans (Ex.new h), d.put (e.nul h)⟩
theorem Fr.mut {F : Hp} {p : Addr} {o u : HO} (h : F p = some u) : Fr F G (upd F p o) (upd G p o) := fun R d e => by
  have n : R p = none := (d p).resolve_left (by rw [h]; simp)
  exact ⟨e.mut n, d.put n⟩
theorem Fr.junk {F G' : Hp} (h : Ex G G') : Fr F G F G' := fun R d e => ⟨e.trans h, d⟩
/-- the pieces are known and apart -/
structure Ap (L : List Hp) (G : Hp) : Prop where
  ex : ∀ F ∈ L, Ex F G
  dis : L.Pairwise Dis
theorem Ap.fr {L1 L2 : List Hp} {F F' G' : Hp} (a : Ap (L1 ++ F :: L2) G) (f : Fr F G F' G') (e : Ex F' G') : Ap (L1 ++ F' :: L2) G' := by
  have hp := List.pairwise_append.mp a.dis
  have hc := List.pairwise_cons.mp hp.2.1
  refine ⟨fun X hX => ?_, List.pairwise_append.mpr ⟨hp.1, List.pairwise_cons.mpr ⟨fun R hR => ?_, hc.2⟩, fun R hR X hX => ?_⟩⟩
  · rcases List.mem_append.mp hX with h | h
    · exact (f X (hp.2.2 X h F List.mem_cons_self).symm (a.ex X (List.mem_append_left _ h))).1
    · rcases List.mem_cons.mp h with rfl | h
      · exact e
      · exact (f X (hc.1 X h) (a.ex X (List.mem_append_right _ (List.mem_cons_of_mem _ h)))).1
  · exact (f R (hc.1 R hR) (a.ex R (List.mem_append_right _ (List.mem_cons_of_mem _ hR)))).2
  · rcases List.mem_cons.mp hX with rfl | h
    · exact ((f R (hp.2.2 R hR F List.mem_cons_self).symm (a.ex R (List.mem_append_left _ hR))).2).symm
    · exact hp.2.2 R hR X (List.mem_cons_of_mem _ h)
theorem Ap.junk {L : List Hp} {G' : Hp} (a : Ap L G) (e : Ex G G') : Ap L G' := ⟨fun F h => (a.ex F h).trans e, a.dis⟩
/-- a new piece -/
def one (p : Addr) (o : HO) : Hp := upd (fun _ => none) p o
theorem Ap.add {L : List Hp} {p : Addr} {o : HO} (a : Ap L G) (h : G p = none) : Ap (one p o :: L) (upd G p o) :=
  ⟨fun F hF => by
    rcases List.mem_cons.mp hF with rfl | hF
    · exact Ex.putL (fun _ _ z => by cases z) upd_same
    · exact (a.ex F hF).trans (Ex.new h),
   List.pairwise_cons.mpr ⟨fun R hR => (show Dis (one p o) R from (show Dis (fun _ => none) R from fun _ => .inl rfl).put ((a.ex R hR).nul h)), a.dis⟩⟩
theorem Ap.drop1 {L : List Hp} {F : Hp} (a : Ap (F :: L) G) : Ap L G := ⟨fun X h => a.ex X (List.mem_cons_of_mem _ h), (List.pairwise_cons.mp a.dis).2⟩
theorem Ap.perm {L L' : List Hp} (a : Ap L G) (p : L'.Perm L) : Ap L' G := ⟨fun F h => a.ex F (p.mem_iff.mp h), (p.pairwise_iff (fun d => Dis.symm d)).mpr a.dis⟩
end
end Lw

namespace Lw
open PySem PySem.Spec PyProof.Rows L2
/-! ## defs that may raise an own error, and a try that catches it -/
/-- an own class of errors -/
structure Xc (K : PySem.W.Frag) (C : Addr) : Prop where
  q : PySem.W.excIn K C [.type "ValueError", .type "Exception", .type "BaseException", .type "object"] "ValueError.__new__" = true
  k : PySem.W.keepIn K (.ref C) = true
  b : PySem.W.subIn K (.ref C) (.type "BaseException") = some true
  t : PySem.W.typeIn K (.ref C) = some (.type "type")
  c : PySem.W.isClsIn K C = true
  s : PySem.W.subIn K (.ref C) (.ref C) = some true
theorem Xc.ex {K : PySem.W.Frag} {S : Addr} (X : Xc K S) : PySem.W.exmOne K (.ref S) (.ref S) = some true := by
  have e1 : (PySem.W.subIn K (.ref S) (.type "BaseException") == some true) = true := by rw [X.b] <;> rfl
  have e2 : ((PySem.W.clsIn K S).isSome && PySem.W.typeIn K (.ref S) == some (.type "type")) = true := by
    have h2' : (PySem.W.clsIn K S).isSome = true := X.c
    rw [h2', X.t] <;> rfl
  show (if (PySem.W.subIn K (.ref S) (.type "BaseException") == some true) = true then (if ((PySem.W.clsIn K S).isSome && PySem.W.typeIn K (.ref S) == some (.type "type")) = true then PySem.W.subIn K (.ref S) (.ref S) else none) else none) = some true
  rw [if_pos e1, if_pos e2]
  exact X.s
/-- raise C('..') -/
def tRz (C : Addr) (E : XK) : TS := fun _ _ H => E (.ref C) none H
theorem ps_rz {X : Cx} {C : Addr} {E : XK} {x m : Str} {j : Nat} {p p2 pos pos2 : Pos} (hc : X.calm = true) (T : Xc X.K C) (gC : X.mg x = some (.ref C)) (tk : Takes X fun cls d _ H => E cls d H) (hg : Gl X x)
    (hdb : (x == ("__debug__" : Str)) = false := by decide) : PS X (.Raise (some (.Call (.Name x p) [.Constant (.str m) j p2] [] pos)) none pos2) (tRz C E) :=
  ps_raise hc tk (pmk_own PySem.F.excBase_ValueError T.q gC T.k (raises_own T.b T.t) hg hdb)
theorem es_rz {C : Addr} {E : XK} {D : Ek} {σ : L2.St} {G : Hp} (h : dn E (.ref C) none G) : Es (tRz C E) D σ G := fun H _ e _ => h H e
/-- what a try wishes of its body's calls -/
abbrev WA (W : WX) : XK := fun cls d H => ∀ σ, W cls d σ H
theorem pass_try {X : Cx} {W : WX} (tk : Takes X W) : Passes (L2.CX X.prog X.w) X (WA W) := passes_call tk fun _ _ σ _ h => h σ
theorem pass_own {X : Cx} {E : XK} (tk : Takes X fun cls d _ H => E cls d H) : Passes (L2.CX X.prog X.w) X E := passes_call tk fun _ _ _ _ h => h
/-- try: .. except C: .. -/
def tTryO (K : PySem.W.Frag) (C : Addr) (tb : WX → TS) (ts : TS) : TS := fun D σ H => tb (wOnly K (.ref C) (fun _ _ _ => ts) (fun _ _ _ _ => False) D) D σ H
theorem es_try {K : PySem.W.Frag} {C : Addr} {tb : WX → TS} {ts : TS} {D : Ek} {σ : L2.St} {G : Hp} (X : Xc K C) (h : ∀ W : WX, (∀ σ' G' H', Ex G' H' → Es ts D σ' G' → W (.ref C) none σ' H') → Es (tb W) D σ G) : Es (tTryO K C tb ts) D σ G := fun H D' e l =>
  h _ (fun σ' G' H' e' hs => ⟨true, X.ex, fun _ a _ => hs H' D' e' l, fun z => Bool.noConfusion z⟩) H D' e l
theorem dn_wa {W : WX} {C : Addr} {ts : TS} {D : Ek} {G : Hp} (hW : ∀ σ' G' H', Ex G' H' → Es ts D σ' G' → W (.ref C) none σ' H') (h : ∀ σ', Es ts D σ' G) : dn (WA W) (.ref C) none G := fun H e σ' => hW σ' G H e (h σ')
theorem dn_dn {E : XK} {E0 : XK} {c : Value} {d : Option Addr} {G : Hp} (h : E0 c d G) (le : ∀ c d G', E0 c d G' → dn E c d G') : dn E c d G := le _ _ _ h
section
variable {P : Program} {w : World} {K : PySem.W.Frag} {mg : Str → Option Value} {base : Heap}
theorem body_upX {S : Pm} {t : XK → TS} {N : List Str} (h : ∀ vs G Q E, S vs G Q (dn E) → Es (t E) { nx := fun _ G' => Q .non G', rt := Q } (start N vs) G)
    (hm : ∀ vs G Q E E', S vs G Q E → (∀ c d G', E c d G' → E' c d G') → S vs G Q E') : ∀ vs H Q E, up S vs H Q E → t E { nx := fun _ H' => Q .non H', rt := Q } (start N vs) H := by
  rintro vs H Q E ⟨G, Q0, E0, e, hS, lq, le⟩
  exact h vs G Q0 E (hm _ _ _ _ _ hS fun c d G' h H' e' => le c d G' H' e' h) H _ e ⟨fun _ G H e q => lq _ _ _ e q, fun v G H e q => lq _ _ _ e q, fun _ _ _ _ z => z.elim, fun _ _ _ _ z => z.elim⟩
theorem fnokX {x qual : Str} {st : Stmt} {f : Addr} {fd : FuncData} {N ps : List Str} {k : Nat} {S : Pm} {t : XK → TS} (F : Fun K x qual st f fd) (sc : FnScope N ps (defScope st))
    (len : ∀ vs G Q E, S vs G Q E → vs.length = ps.length)
    (der : ∀ (f : Addr) (cdv : Value) (A : Around) (outer : List Env) (s : Shared) (H : Hp) (E : XK), Room k (A.deeper (envOfC qual (defScope st) s.heap.objs.size f cdv)) → PSs (cxOf (L2.CX P w) P w K mg base N qual (defScope st) f cdv A outer s H E) (defBody st) (t E))
    (pure : ∀ vs G Q E, S vs G Q (dn E) → Es (t E) { nx := fun _ G' => Q .non G', rt := Q } (start N vs) G)
    (hm : ∀ vs G Q E E', S vs G Q E → (∀ c d G', E c d G' → E' c d G') → S vs G Q E') : FnOk P w K mg base (L2.CX P w) (k + 1) f fd ps (up S) :=
  F.okX sc (fun vs H Q E ⟨G, Q0, E0, _, h, _⟩ => len vs G Q0 E0 h) fun cdv A outer s H vs Q E hr h => ⟨t E, der f cdv A outer s H E hr, body_upX pure hm vs H Q E h⟩
theorem HasM.mkX {C : Addr} {m qual : Str} {st : Stmt} {N ps : List Str} {k : Nat} {S : Pm} {t : XK → TS} (F : FndM K C m qual st) (sc : FnScope N ps (defScope st)) (hb : BindOk m qual st ps)
    (len : ∀ vs G Q E, S vs G Q E → vs.length = ps.length)
    (der : ∀ (f : Addr) (cdv : Value) (A : Around) (outer : List Env) (s : Shared) (H : Hp) (E : XK), Room k (A.deeper (envOfC qual (defScope st) s.heap.objs.size f cdv)) → PSs (cxOf (L2.CX P w) P w K mg base N qual (defScope st) f cdv A outer s H E) (defBody st) (t E))
    (pure : ∀ vs G Q E, S vs G Q (dn E) → Es (t E) { nx := fun _ G' => Q .non G', rt := Q } (start N vs) G)
    (hm : ∀ vs G Q E E', S vs G Q E → (∀ c d G', E c d G' → E' c d G') → S vs G Q E') : HasM P w K mg base (L2.CX P w) (k + 1) C m ps (up S) := by
  obtain ⟨f, fd, hm', F⟩ := F.ex
  exact ⟨f, fd, hm', F.binds hb, fnokX F sc len der pure hm⟩
theorem Has.mkX {x : Str} {st : Stmt} {N ps : List Str} {k : Nat} {S : Pm} {t : XK → TS} (F : Fnd K mg x st) (sc : FnScope N ps (defScope st)) (hb : BindOk x x st ps)
    (len : ∀ vs G Q E, S vs G Q E → vs.length = ps.length)
    (der : ∀ (f : Addr) (cdv : Value) (A : Around) (outer : List Env) (s : Shared) (H : Hp) (E : XK), Room k (A.deeper (envOfC x (defScope st) s.heap.objs.size f cdv)) → PSs (cxOf (L2.CX P w) P w K mg base N x (defScope st) f cdv A outer s H E) (defBody st) (t E))
    (pure : ∀ vs G Q E, S vs G Q (dn E) → Es (t E) { nx := fun _ G' => Q .non G', rt := Q } (start N vs) G)
    (hm : ∀ vs G Q E E', S vs G Q E → (∀ c d G', E c d G' → E' c d G') → S vs G Q E') : Has P w K mg base (L2.CX P w) (k + 1) x ps (up S) := by
  obtain ⟨f, fd, hm', F⟩ := F.ex
  exact ⟨f, fd, hm', F.kp, F.binds hb, fnokX F sc len der pure hm⟩
end
/-- xs.f += y on an object -/
theorem es_fldaug {K : PySem.W.Frag} {ta tv : TE} {rd : V → V → Hp → VK → Prop} {f : Str} {D : Ek} {σ : L2.St} {G : Hp}
    (h : Ee ta σ G fun x G1 => ∃ a C dx fs v, x = .ref a ∧ G1 a = some (.ins C dx fs) ∧ Cls K C ∧ NoAttr K C f ∧ fs.lookup f = some v ∧
      Ee tv σ G1 fun y G2 => Eip rd v y G2 fun z G3 => ∃ dx' fs', G3 a = some (.ins C dx' fs') ∧ fs'.length < 1000 ∧ D.nx σ (upd G3 a (.ins C dx' (putF f z fs')))) : Es (sFldAug K ta tv rd f) D σ G := fun H D' e l =>
  h H _ e fun x G1 H1 e1 ⟨a, C, dx, fs, v, h1, h2, h3, h4, h5, h6⟩ => ⟨a, C, dx, fs, v, h1, e1 _ _ h2, h3, h4, h5, h6 H1 _ e1 fun y G2 H2 e2 h7 => h7 H2 _ e2 fun z G3 H3 e3 ⟨dx', fs', h8, h9, q⟩ => ⟨dx', fs', e3 _ _ h8, h9, l.nx _ _ _ e3.put q⟩⟩
theorem pe_globE {X : Cx} {x : Str} {v : V} {p : Pos} (hg : Gl X x) (h : ∃ u, RelV v u ∧ X.mg x = some u) (hdb : (x == ("__debug__" : Str)) = false := by decide) : PE X (.Name x p) (tC v) := by
  obtain ⟨u, r, m⟩ := h
  exact pe_glob hg m r hdb
end Lw

namespace Lw
open PySem PySem.Spec PyProof.Rows L2
/-! ## a list comprehension whose element lets an exception out of a call -/
section
variable {X : Cx} {pins : List (Addr × Obj)} {σ : L2.St} {H : Hp} {s s1 : Shared} {E : XK} {m : Str → Option Value} {ce : Env} {u : Value}
theorem block_out (I : Inv X pins σ H s) (hs : X.stack = X.env :: X.outer) (hf : X.env.frame = some X.env.locals) (tk : Takes X fun cls d _ H => E cls d H) (hcf : ce.frame = X.env.frame) (hn : s.heap.Ns ce.locals m) (f : FpOk X pins H ce.locals)
    (c : L2.CX X.prog X.w X.stack H s E u s1) : notedBy (model X.prog X.w) X.A ce (CompFails (model X.prog X.w) X.A X.xe ce) u s1 := by
  obtain ⟨f0, f1, f2, f3, f4, f5⟩ := f
  have hfr : X.A.frames = some (X.env :: X.outer) := by rw [I.ok.frames, hs]
  have nfr : ce.locals ∉ frs X.stack := fun hm => by
    rcases List.mem_cons.mp (I.stkSub _ hm) with z | z
    · exact f1 z
    · exact f2 z
  obtain ⟨a, B, H', cls, d, rfl, fl, hok, ub, na, os, ag, hE⟩ := c
  obtain ⟨G, g1, g2⟩ := restrict s1.heap fun b => (B.get? b).isSome || decide (b ∈ frs X.stack)
  have st : B.StaysIn s1.heap := fl.1
  have gB : ∀ b o, B.get? b = some o → G.get? b = some o := fun b o e => by
    rw [g1 b (by simp [e])]
    exact st b o e
  have gF : ∀ b, b ∈ frs X.stack → G.get? b = s1.heap.get? b := fun b hb => g1 b (by simp [hb])
  have og : ∀ b o, G.get? b = some o → s1.heap.get? b = some o ∧ ((B.get? b).isSome = true ∨ b ∈ frs X.stack) := fun b o e => by
    cases q : ((B.get? b).isSome || decide (b ∈ frs X.stack)) with
    | false => rw [g2 b q] at e; cases e
    | true =>
      rw [g1 b q] at e
      exact ⟨e, by simpa [Bool.or_eq_true] using q⟩
  obtain ⟨oC, es, ep, hoC, hdC, rC⟩ := id hn
  have hBC : B.get? ce.locals = some oC := ub.keep _ _ hoC f0 nfr
  have hC' : H' ce.locals = none := ub.free _ _ hoC f0
  have J : Inv X pins σ H' { s with heap := G, gens := s1.gens, drawn := s1.drawn, toks := s1.toks } :=
    I.call (ch := []) ⟨fun b o e n hb _ => gB b o (ub.keep b o e n hb), fun b o e n hb _ => by
        obtain ⟨sl, q⟩ := ub.slot b o e hb
        exact ⟨sl, by rw [gF b hb]; exact q⟩, fun b o e n _ => ub.free b o e n, fun b o e _ => by
        by_cases hb : b ∈ frs X.stack
        · obtain ⟨sl, q⟩ := ub.slot b o e hb
          exact ⟨_, by rw [gF b hb]; exact q⟩
        · obtain ⟨o', q⟩ := ub.there b o e hb
          exact ⟨o', gB b o' q⟩, ub.tups, ub.frzs, ub.tbls⟩ (hok.kept gB) ag (fun _ z => nomatch z)
  have J2 : Inv X pins σ H' { s with heap := PySem.W.hideAll G [ce.locals], gens := s1.gens, drawn := s1.drawn, toks := s1.toks } :=
    J.turned (t' := s1.toks) (fun b o hb e => PySem.W.hideAll_get _ e (by simpa using hb)) hC' f1 f3 f4 f5
  show wpAny _ _ (noteFrame (.ref a) ce) _ _ s1
  rw [noteFrame_env _ hcf]
  rw [hs] at fl
  refine HandSPX.looks_onZ Zc.steady hfr hf fl fun h2 hh up2 => ?_
  obtain ⟨k1, k2, k3, k4⟩ := hh
  have hn2 : h2.Ns ce.locals m := (hn.at fun o e => by rw [hoC] at e; cases e; exact k1 _ _ hBC)
  refine ⟨m, hn2, fun h3 m3 hn3 hs3 => ?_⟩
  obtain ⟨oe, vs, T, oT, ts, he, hz, hd, h1, hnT, hTe, hT, hdT, hts⟩ := k4
  have hC2 : h2.get? ce.locals = some oC := k1 _ _ hBC
  have nea : a ≠ ce.locals := fun z => by rw [z, hC2] at he; cases he; rw [hdC] at hd; cases hd
  have neT : T ≠ ce.locals := fun z => by rw [z, hC2] at hT; cases hT; rw [hdC] at hdT; cases hdT
  have he3 : h3.get? a = some oe := (hs3.2 a nea).trans he
  have hT3 : h3.get? T = some oT := (hs3.2 T neT).trans hT
  have bB : ∀ {b o}, (PySem.W.hideAll B [ce.locals]).get? b = some o → B.get? b = some o ∧ b ≠ ce.locals := fun {b o} e =>
    ⟨PySem.W.of_hideAll _ e, fun z => by
      have := PySem.W.hideAll_none (h := B) (l := [ce.locals]) (b := b) (by simp [z])
      rw [this] at e; cases e⟩
  have nB : ∀ {b}, B.get? b = none → (PySem.W.hideAll B [ce.locals]).get? b = none := fun {b} e => by
    cases q : (PySem.W.hideAll B [ce.locals]).get? b with
    | none => rfl
    | some o => rw [(bB q).1] at e; cases e
  have K3 : HandSPX.HeldZ (PySem.W.hideAll B [ce.locals]) (X.env :: X.outer) a (Zc cls d) X.env.locals h3 := by
    refine ⟨fun b o e => (hs3.2 b (bB e).2).trans (k1 b o (bB e).1), nB k2, ?_, oe, vs, T, oT, ts, he3, hz, hd, h1, nB hnT, hTe, hT3, hdT, hts⟩
    refine funFrames_none (Heap.FunFrames.sameBut hs3 hn3 k3) fun L hL => nB ?_
    have := k3.mem (by exact hL)
    exact this.1
  unfold PySem.passOn
  refine wpAny_bind (wpAny_field he3 hd h1 ?_)
  rw [if_neg (show ¬ ((Value.ref T == Value.none) = true) from by simp), hcf, hf]
  have fin : wpAny (model X.prog X.w) X.A (setFlight (.ref a) (some X.env.locals)) (fun _ s4 => wpAny (model X.prog X.w) X.A (throw (.ref a) : Sem Value) (fun _ _ => False) X.xe s4) X.xe { s1 with heap := h3 } := by
    refine HandSPX.setFlight_onZ K3 fun h4 hh4 up4 => wpAny_throw (tk _ _ ?_)
    refine ⟨a, PySem.W.hideAll B [ce.locals], _, pins, σ, H', cls, d, rfl, J2, fun b o e hb => ?_, fun b o e hnf => ?_, .inr (.inr (by rw [hs]; exact hh4)), na, os, ag, hE⟩
    · have e' : G.get? b = some o := PySem.W.of_hideAll _ e
      have nb : b ≠ ce.locals := fun z => by
        have := PySem.W.hideAll_none (h := G) (l := [ce.locals]) (b := b) (by simp [z])
        have e2 : (PySem.W.hideAll G [ce.locals]).get? b = some o := e
        rw [this] at e2; cases e2
      obtain ⟨e1, h⟩ := og b o e'
      refine PySem.W.hideAll_get _ ?_ (by simpa using nb)
      rcases h with h | h
      · obtain ⟨o', q⟩ := Option.isSome_iff_exists.mp h
        have z := st b o' q
        rw [e1] at z; cases z
        exact q
      · exact absurd h hb
    · have e' : G.get? b = some o := PySem.W.of_hideAll _ e
      have nb : b ≠ ce.locals := fun z => by
        have := PySem.W.hideAll_none (h := G) (l := [ce.locals]) (b := b) (by simp [z])
        have e2 : (PySem.W.hideAll G [ce.locals]).get? b = some o := e
        rw [this] at e2; cases e2
      obtain ⟨sl, q⟩ := up2 b o (og b o e').1 hnf
      obtain ⟨sl2, q2⟩ := up4 b _ ((hs3.2 b nb).trans q) hnf
      exact ⟨sl2, q2⟩
  first
    | exact wpAny_bind fin
    | exact wpAny_bind (wpAny_pure (wpAny_bind fin))
end
section
variable {X : Cx}
theorem pe_lcX {E : XK} {elt tg iter : Expr} {ifs : List Expr} {scope : Scope} {own : List (Str × Nat)} {pos : Pos} {wi : TI} {g : TG} {tt : TT} {te : TE} (hc : X.calm = true) (hsk : X.stack = X.env :: X.outer) (hfk : X.env.frame = some X.env.locals) (tk : Takes X fun cls d _ H => E cls d H)
    (hN : X.N.Nodup) (hi : PI X tg iter wi) (ok : BlkOk X.N X.env.scope scope own)
    (hg : ∀ (s : Shared) (H : Hp) (C : Addr) (cl : List (Str × Addr)) (fp : List Addr), PG (X.blk s H scope (compEnvC scope cl C X.env) fp) tg g) (ht : ∀ (s : Shared) (H : Hp) (C : Addr) (cl : List (Str × Addr)) (fp : List Addr), PTs (X.blk s H scope (compEnvC scope cl C X.env) fp) ifs tt)
    (he : ∀ (s : Shared) (H : Hp) (C : Addr) (cl : List (Str × Addr)) (fp : List Addr) (xe : Value → Shared → Prop), Passes (L2.CX X.prog X.w) ((X.blk s H scope (compEnvC scope cl C X.env) fp).wish xe) E → PE ((X.blk s H scope (compEnvC scope cl C X.env) fp).wish xe) elt te)
    (hs : ∀ x, foldedSetIterable iter X.env x = pure x := by intro _; rfl) :
    PE X (.ListComp elt [⟨tg, iter, ifs, 0⟩] scope pos) (tLc wi g tt te (own.map (·.2))) := by
  refine ⟨fun pins s σ H Q I h => ?_⟩
  rw [eval_ListComp]
  have hfree : ∀ y ∈ scope.names, y.2 = .free → ∃ c, X.env.cells.lookup y.1 = some c := fun y hy e => by
    rcases ok.free y hy e with k | k
    · exact I.ok.has _ (.inl k)
    · exact I.ok.has _ (.inr k)
  refine comprehension_at (use := none) rfl hs (closure_ok hfree) ok.kind (fun y hy e => by rw [ok.uniq y hy, e])
    (thn (hi.run pins s σ H _ I h) fun xv s1 hx => thn hx fun itv s2 h2 => ?_)
  obtain ⟨it, fp, tn, J, H2, e, I2, T, st2, f2, q⟩ := h2
  subst e
  refine wpAny_newObj_type (newEnv_comp ?_) (by show 0 ≤ sizeLine; decide)
  generalize hD : s2.heap.objs.size = D
  have hDn : H2 D = none := I2.hok.fresh (Nat.le_of_eq hD)
  obtain ⟨W, ⟨m0, w0⟩, turn⟩ := q D hDn
  generalize hs3 : ({ s2 with heap := s2.heap.push { cls := .type "list", data := .seq ([] : List Value).toArray } } : Shared) = s3
  have I3 : Inv X pins σ (upd H2 D (.lst [])) s3 := by
    rw [← hs3]
    refine I2.laid (t' := s2.toks) (fun b o e => Heap.get?_push_of_some _ e) (Nat.le_of_eq hD) ⟨Nat.zero_le _, [], 0, .nil, ?_⟩
    rw [← hD]
    exact Heap.get?_push_size _ rfl
  have h3 : s3.heap = s2.heap.push { cls := .type "list", data := .seq ([] : List Value).toArray } := by rw [← hs3]
  have sz : ∀ b ∈ fp, b < s2.heap.objs.size := fun b hb => by
    obtain ⟨o, e, _⟩ := T.obj _ _ st2 b hb
    exact Heap.lt_size e
  have f3 : ∀ b ∈ fp, FpOk X pins (upd H2 D (.lst [])) b ∧ b < s3.heap.objs.size := fun b hb => by
    have hlt := sz b hb
    refine ⟨⟨?_, (f2 b hb).2⟩, by rw [h3, Heap.size_push]; exact Nat.lt_succ_of_lt hlt⟩
    rw [upd_ne (by rw [← hD]; exact Nat.ne_of_lt hlt)]
    exact (f2 b hb).1
  have st3 : tn 0 s3.heap := T.keep _ _ _ st2 fun b _ o e => by rw [h3]; exact Heap.get?_push_of_some _ e
  have I4 := block_start I3 ok hN f3
  have pg := hg s3 (upd H2 D (.lst [])) s3.heap.objs.size (cellsFrom (s3.heap.objs.size + 1) scope.names (cloFrom X.env.cells scope.names [])) fp
  have pt := ht s3 (upd H2 D (.lst [])) s3.heap.objs.size (cellsFrom (s3.heap.objs.size + 1) scope.names (cloFrom X.env.cells scope.names [])) fp
  have pe := he s3 (upd H2 D (.lst [])) s3.heap.objs.size (cellsFrom (s3.heap.objs.size + 1) scope.names (cloFrom X.env.cells scope.names [])) fp
  show codeAny _ _ (.compStart (.ListComp elt [⟨tg, iter, ifs, 0⟩] scope pos) 0 (.ref it) (.ref D) (compEnvC scope (cellsFrom (s3.heap.objs.size + 1) scope.names (cloFrom X.env.cells scope.names [])) s3.heap.objs.size X.env)) (compEnds (model X.prog X.w) X.A X.xe none (EP X pins σ Q) (.ref D) (compEnvC scope (cellsFrom (s3.heap.objs.size + 1) scope.names (cloFrom X.env.cells scope.names [])) s3.heap.objs.size X.env)) { s3 with heap := pushCells (s3.heap.push { cls := .type "dict", data := .dict #[] }) scope.names }
  have nfp : ∀ b ∈ fp, (upd H2 D (.lst [])) b = none := fun b hb => (f3 b hb).1.1
  generalize hce : compEnvC scope (cellsFrom (s3.heap.objs.size + 1) scope.names (cloFrom X.env.cells scope.names [])) s3.heap.objs.size X.env = ce at I4 pg pt pe ⊢
  have cL : ce.locals = s3.heap.objs.size := by subst hce; rfl
  have cF : ce.frame = X.env.frame := by subst hce; rfl
  generalize hH3 : upd H2 D (.lst []) = H3 at I3 I4 pg pt pe w0 nfp f3
  generalize hs4 : ({ s3 with heap := pushCells (s3.heap.push { cls := .type "dict", data := .dict #[] }) scope.names } : Shared) = s4 at I4 ⊢
  have st4 : tn 0 s4.heap := T.keep _ _ _ st3 fun b _ o e => by rw [← hs4]; exact pushCells_keeps _ _ _ _ (Heap.get?_push_of_some _ e)
  have stat : ∀ {σ' : L2.St} {H' : Hp} {s' : Shared}, Inv (X.blk s3 H3 scope ce fp) [] σ' H' s' → (∀ b ∈ fp, H' b = none) → ∀ b ∈ fp, FpOk (X.blk s3 H3 scope ce fp) [] H' b := fun {σ' H' s'} I' hn b hb =>
    ⟨hn b hb, (I'.ok.exf b hb).1, I'.ok.exfs b hb, .inl hb, fun x c e => (I'.ok.exf b hb).2 x c e, fun p hp => absurd (show p ∈ ([] : List (Addr × Obj)) ++ [] from hp) (by simp)⟩
  -- back in the def's context
  have back : ∀ {pn : List (Addr × Obj)} {σ' : L2.St} {H5 : Hp} {s6 : Shared}, Inv (X.blk s3 H3 scope ce fp) pn σ' H5 s6 → Inv X pins σ H5 s6 ∧ FpOk X pins H5 ce.locals ∧ ∃ m, s6.heap.Ns ce.locals m := fun {pn σ' H5 s6} I6 => by
    have I7 : Inv X pins σ H5 s6 := I3.call' (ch := fp) I6.os I6.base I6.hok I6.bare fun b hb => ⟨(f3 b hb).1.2.2.2.1, (f3 b hb).1.2.1, (f3 b hb).1.2.2.2.2.1, (f3 b hb).1.2.2.2.2.2⟩
    have nC : H5 ce.locals = none := I6.free
    obtain ⟨m, hn, _⟩ := I6.loc
    exact ⟨I7, I3.fpOk (by rw [cL]; exact Nat.le_refl _) nC, m, hn⟩
  have loop : codeAny (model X.prog X.w) X.A (.compLoop (.ListComp elt [⟨tg, iter, ifs, 0⟩] scope pos) 0 (.ref it) (.ref D) ce) (compEnds (model X.prog X.w) X.A X.xe none (EP X pins σ Q) (.ref D) ce) s4 := by
    refine compLoop_any (fun n s' => ∃ i H', Inv (X.blk s3 H3 scope ce fp) [] (wipe σ (own.map (·.2))) H' s' ∧ tn i s'.heap ∧ (∀ b ∈ fp, H' b = none) ∧ W i n H') ?_ m0 ⟨0, H3, I4, st4, nfp, w0⟩
    rintro n s5 ⟨i, H5, I5, st5, n5, w5⟩
    rcases turn i n H5 w5 with ⟨stop, qq⟩ | ⟨go, Nx, hNx, step⟩
    · have td := T.done (X.blk s3 H3 scope ce fp) rfl rfl rfl hc i [] s5 _ H5 (fun _ _ => False) I5 (stat I5 n5) st5 stop
      refine thnF td fun r s6 ⟨hr, I6⟩ => ?_
      subst hr
      obtain ⟨I7, f, m, hn⟩ := back I6
      refine ⟨m, hn, fun h'' sb => ?_⟩
      obtain ⟨g0, g1, g2, g3, g4, g5⟩ := f
      exact ⟨.ref D, H5, I7.turned (t' := s6.toks) (fun b o hb e => (sb.2 b hb).trans e) g0 g1 g3 g4 g5, rfl, qq⟩
    · have ti := T.item (X.blk s3 H3 scope ce fp) rfl rfl rfl hc i [] s5 _ H5 (fun _ _ => False) I5 (stat I5 n5) st5 go
      refine thnF ti fun r s6 ⟨u, hr, h6⟩ => ?_
      subst hr
      refine thnF h6 fun _ s7 ⟨x, H7, I7, r7, y7, st7, n7⟩ => ?_
      have I7' := I7.pinned (stat I7 n7) (T.obj _ _ st7)
      refine thnF (pg.run _ s7 _ H7 x u _ I7' r7 (step x H7 y7)) fun _ s8 ⟨σ8, H8, I8, hw8, q8⟩ => ?_
      refine thnF (pt.run _ s8 σ8 H8 _ I8 q8) fun b s9 ⟨H9, I9, q9⟩ => ?_
      have fin : ∀ {s' : Shared} {H' : Hp}, Inv (X.blk s3 H3 scope ce fp) ([] ++ pinsAt fp s7.heap) σ8 H' s' → Nx H' → ∃ m, m < n ∧ ∃ i H', Inv (X.blk s3 H3 scope ce fp) [] (wipe σ (own.map (·.2))) H' s' ∧ tn i s'.heap ∧ (∀ b ∈ fp, H' b = none) ∧ W i m H' := fun {s' H'} I' nx => by
        obtain ⟨m', hm, w'⟩ := hNx H' nx
        have pin' : ∀ b ∈ fp, ∀ o, s7.heap.get? b = some o → s'.heap.get? b = some o ∧ H' b = none := fun b hb o e =>
          let z := I'.pin (b, o) (List.mem_append_right _ (List.mem_append_right _ (mem_pinsAt hb e)))
          ⟨z.1, z.2.1⟩
        have hl : (wipe σ (own.map (·.2))).length = σ8.length := by rw [← hw8, wipe_length]
        refine ⟨m', hm, i + 1, H', (I'.unpinned (pins := [])).weak hl (fun j v e => ?_), T.keep _ _ _ st7 fun b hb o e => (pin' b hb o e).1, fun b hb => ?_, w'⟩
        · rw [← hw8] at e
          exact (wipe_some e).1
        · obtain ⟨o, e, _⟩ := T.obj _ _ st7 b hb
          exact (pin' b hb o e).2
      cases b with
      | false =>
        simp only [Bool.false_eq_true, if_false] at q9 ⊢
        exact fin I9 q9
      | true =>
        simp only [if_true] at q9 ⊢
        have run := (pe (fun u s' => ∃ (pn : List (Addr × Obj)) (σ' : L2.St) (H' : Hp) (s0 : Shared), Inv (X.blk s3 H3 scope ce fp) pn σ' H' s0 ∧ L2.CX X.prog X.w X.stack H' s0 E u s') fun pn σ' H' s0 e s' I' c => ⟨pn, σ', H', s0, I'.unwish, c⟩).run _ s9 σ8 H9 _ (I9.wish _) q9
        refine wpAny_mono run (fun z s10 hz => ?_) fun u s' hu => ?_
        · obtain ⟨yv, H10, I10, r10, acc, hD10, hz10, nx⟩ := hz
          exact app_ok (X := X.blk s3 H3 scope ce fp) I10.unwish hD10 hz10 r10 fun s11 I11 => fin I11 nx
        · obtain ⟨pn, σ', H', s0, I', c⟩ := hu
          obtain ⟨I7, f, m, hn⟩ := back I'
          exact block_out I7 hsk hfk tk cF hn f c
  exact codeAny_compStart_list loop (T.self X.A 0 _ _ _ st4 loop)
end
end Lw

namespace Lw
open PySem PySem.Spec PyProof.Rows L2
/-! ## a method called in a try whose suite reads the slots -/
def tMethW (C : Addr) (m : Str) (sp : Sp) (E : L2.St → XK) (ta : TE) : TE := fun σ H Q => ta σ H fun x H1 => ∃ a dx fs, x = .ref a ∧ H1 a = some (.ins C dx fs) ∧ fs.lookup m = none ∧ sp [x] H1 Q (E σ)
section
variable {X : Cx} {CX : CXT} {k : Nat} {C : Addr} {ps : List Str} {sp : Sp} {E : L2.St → XK} {m : Str} {pos apos : Pos} {o : Expr} {ta : TE}
theorem pe_methW0 {pl : Sem Bool} (ho : PE X o ta) (c : Cls X.K C) (h : HasM X.prog X.w X.K X.mg X.base CX k C m ps sp) (hr : Room k X.A) (hx : ∀ σ, PassesAt CX X σ (E σ))
    (ht : eval (.Call (.Attribute o m apos) [] [] pos) X.env = (do
      let ov ← eval o X.env
      standAt apos.atName
      let (f, first) ← holding [ov] (getMethod ov m pl)
      callWith pos f first (backTo pos (starEach [] X.env)) (backToKw pos (keywordEach [] X.env))) := by rfl) :
    PE X (.Call (.Attribute o m apos) [] [] pos) (tMethW C m sp E ta) := by
  obtain ⟨f, fd, hm, hb, F⟩ := h.ex
  refine ⟨fun pins s σ H Q I h => ?_⟩
  refine PySem.W.methodCall_KW (pl := pl) (thn (ho.run pins s σ H _ I h) fun u s1 ⟨x, H1, I1, rx, a, dx, fs, ex, ea, l, q⟩ => ?_) ht
  subst ex
  obtain rfl : u = Value.ref a := rx
  refine getmeth_ok I1 ea c hm l ?_
  exact PySem.W.callWith_K0 (first := [.ref a]) I1.kIn hm.kp (run_fnS (us := [.ref a]) (vs := [.ref a]) (E := E) F hr hb (hx σ) I1 (.cons rfl .nil) q)
end
theorem ee_methW {C : Addr} {m : Str} {S : Pm} {E : L2.St → XK} {ta : TE} {σ : L2.St} {G : Hp} {Q : V → Hp → Prop}
    (h : Ee ta σ G fun x G1 => ∃ a dx fs, x = .ref a ∧ G1 a = some (.ins C dx fs) ∧ fs.lookup m = none ∧ S [x] G1 Q (dn (E σ))) : Ee (tMethW C m (up S) E ta) σ G Q := fun H Q' e l =>
  h H _ e fun x G1 H1 e1 ⟨a, dx, fs, h1, h2, h3, h4⟩ => ⟨a, dx, fs, h1, e1 _ _ h2, h3, ⟨G1, Q, dn (E σ), e1, h4, l, fun c d G' H' e' h' => h' H' e'⟩⟩
theorem dn_we {W : WX} {C : Addr} {ts : TS} {D : Ek} {σ : L2.St} {G : Hp} (hW : ∀ σ' G' H', Ex G' H' → Es ts D σ' G' → W (.ref C) none σ' H') (h : Es ts D σ G) : dn (WE W σ) (.ref C) none G := fun H e => hW σ G H e h
section
variable {K : PySem.W.Frag} {σ : L2.St} {G : Hp}
theorem ee_lcT {tl : TE} {g : TG} {tt : TT} {te : TE} {vs : List Nat} {Q : V → Hp → Prop}
    (h : Ee tl σ G fun v G1 => ∃ a xs, v = .ref a ∧ SqT K G1 a xs ∧ ∀ p, G1 p = none → ∃ Pv : Nat → List V → Hp → Prop, Pv 0 [] G1 ∧ (∀ i acc G, Pv i acc G → G p = none ∧ acc.length < sizeLine ∧ SqT K G a xs) ∧
      (∀ i acc x G, xs[i]? = some x → Pv i acc G → Eg g x (wipe σ vs) (upd G p (.lst acc)) fun σ2 G2 => wipe σ2 vs = wipe σ vs ∧ Et tt σ2 G2 fun b G3 =>
        if b = true then Ee te σ2 G3 fun y G4 => G4 p = some (.lst acc) ∧ ∃ G5, Ex (upd G5 p (.lst acc)) G4 ∧ Pv (i + 1) (acc ++ [y]) G5 else G3 p = some (.lst acc) ∧ ∃ G5, Ex (upd G5 p (.lst acc)) G3 ∧ Pv (i + 1) acc G5) ∧
      (∀ acc G, Pv xs.length acc G → Q (.ref p) (upd G p (.lst acc)))) : Ee (tLc (iTup K tl) g tt te vs) σ G Q := by
  refine ee_lc (ei_tup fun H Q' e l => h H _ e fun v G1 H1 e1 ⟨a, xs, h1, h2, hh⟩ => l _ G1 H1 e1 ⟨a, xs, h1, h2, _, (fun G => SqT K G a xs), _, wk_tup (a := a) (xs := xs), fun G p o hg hn => (Ex.new hn).st hg, fun p hp => ?_⟩)
  obtain ⟨Pv, h4, h5, h6, h7⟩ := hh p hp
  refine ⟨Pv, h4, fun i acc G _ p => h5 i acc G p, fun i acc x G G' hi p y => ?_, h7⟩
  obtain ⟨rfl, y⟩ := y
  exact h6 i acc x G y p
theorem ee_lcS {te0 : TE} {j : Nat} {tt : TT} {te : TE} {vs : List Nat} {Q : V → Hp → Prop}
    (h : Ee te0 σ G fun v G1 => ∃ z, v = .str z ∧ ∀ p, G1 p = none → ∃ Pv : Nat → List V → Hp → Prop, Pv 0 [] G1 ∧ (∀ i acc G, Pv i acc G → G p = none ∧ acc.length < sizeLine) ∧
      (∀ i acc c G, z.cps[i]? = some c → Pv i acc G → wipe ((wipe σ vs).set j (some (.str ⟨#[c]⟩))) vs = wipe σ vs ∧ Et tt ((wipe σ vs).set j (some (.str ⟨#[c]⟩))) (upd G p (.lst acc)) fun b G3 =>
        if b = true then Ee te ((wipe σ vs).set j (some (.str ⟨#[c]⟩))) G3 fun y G4 => G4 p = some (.lst acc) ∧ ∃ G5, Ex (upd G5 p (.lst acc)) G4 ∧ Pv (i + 1) (acc ++ [y]) G5 else G3 p = some (.lst acc) ∧ ∃ G5, Ex (upd G5 p (.lst acc)) G3 ∧ Pv (i + 1) acc G5) ∧
      (∀ acc G, Pv z.cps.size acc G → Q (.ref p) (upd G p (.lst acc)))) : Ee (tLc (iStr te0) (gName j) tt te vs) σ G Q := by
  refine ee_lc (ei_str fun H Q' e l => h H _ e fun v G1 H1 e1 ⟨z, h1, hh⟩ => l _ G1 H1 e1 ⟨z, h1, _, (fun _ => True), _, wk_str (z := z), fun G p o hg hn => trivial, fun p hp => ?_⟩)
  obtain ⟨Pv, h4, h5, h6, h7⟩ := hh p hp
  refine ⟨Pv, h4, fun i acc G _ p => ⟨(h5 i acc G p).1, (h5 i acc G p).2, trivial⟩, fun i acc x G G' hi p y => ?_, h7⟩
  obtain ⟨rfl, y⟩ := y
  obtain ⟨c, hc, rfl⟩ := Option.map_eq_some_iff.mp y
  exact eg_name (h6 i acc c G hc p)
end
/-- what does not come needs no wish -/
theorem pass_none {X : Cx} : Passes (L2.CX X.prog X.w) X E0 := fun _ _ _ _ _ _ _ c => by
  obtain ⟨_, _, _, _, _, _, _, _, _, _, _, _, z⟩ := c
  exact z.elim
end Lw

namespace Lw
open PySem PySem.Spec PyProof.Rows L2
/-! ### what is new in a heap; two pieces together -/
def newp (G G' : Hp) : Hp := fun b => match G b with
  | none => G' b
  | some _ => none
def un (F R : Hp) : Hp := fun b => match F b with
  | some o => some o
  | none => R b
theorem newp_of {G G' : Hp} {b : Addr} {o : HO} (h : newp G G' b = some o) : G b = none ∧ G' b = some o := by
  unfold newp at h
  split at h
  · rename_i e; exact ⟨e, h⟩
  · cases h
theorem newp_get {G G' : Hp} {b : Addr} {o : HO} (h : G b = none) (h' : G' b = some o) : newp G G' b = some o := by unfold newp; rw [h]; exact h'
theorem un_l {F R : Hp} : Ex F (un F R) := fun b o h => by unfold un; rw [h]
theorem un_r {F R : Hp} {b : Addr} {o : HO} (h : F b = none) (h' : R b = some o) : un F R b = some o := by unfold un; rw [h]; exact h'
theorem un_of {F R : Hp} {b : Addr} {o : HO} (h : un F R b = some o) : F b = some o ∨ R b = some o := by
  unfold un at h
  split at h
  · rename_i e; exact .inl (e.trans h)
  · exact .inr h
theorem un_ex {F G G' : Hp} (e : Ex F G) (e' : Ex G G') : Ex (un F (newp G G')) G' := fun b o h => by
  rcases un_of h with h | h
  · exact e' _ _ (e _ _ h)
  · exact (newp_of h).2
theorem un_fr {F G G' : Hp} (e' : Ex G G') : Fr F G (un F (newp G G')) G' := fun R d e => by
  refine ⟨e.trans e', fun b => ?_⟩
  cases h : R b with
  | none => exact .inr rfl
  | some o =>
    refine .inl ?_
    have hF := (d b).resolve_right (by rw [h]; simp)
    unfold un newp
    rw [hF, e _ _ h]
theorem un_grow {F G G' G'' : Hp} (e : Ex G' G'') : Ex (un F (newp G G')) (un F (newp G G'')) := fun b o h => by
  rcases un_of h with h' | h'
  · exact un_l _ _ h'
  · obtain ⟨h1, h2⟩ := newp_of h'
    cases hF : F b with
    | some u => have := un_l (R := newp G G') _ _ hF; rw [this] at h; cases h; exact un_l _ _ hF
    | none => exact un_r hF (newp_get h1 (e _ _ h2))
theorem un_at {F G G' : Hp} {b : Addr} {o : HO} (e : Ex F G) (h : G b = none) (h' : G' b = some o) : un F (newp G G') b = some o := un_r (e.nul h) (newp_get h h')
theorem Ap.alloc {T : Hp} {L : List Hp} {G G' : Hp} (a : Ap (T :: L) G) (e : Ex G G') : Ap (un T (newp G G') :: L) G' :=
  Ap.fr (L1 := []) a (un_fr e) (un_ex (a.ex T List.mem_cons_self) e)
theorem Ap.new1 {T : Hp} {L : List Hp} {G : Hp} {p : Addr} {o : HO} (a : Ap (T :: L) G) (h : G p = none) : Ap (upd T p o :: L) (upd G p o) :=
  Ap.fr (L1 := []) a (Fr.new h) (a.ex T List.mem_cons_self).put
theorem Ap.mut1 {T : Hp} {L : List Hp} {G : Hp} {p : Addr} {o u : HO} (a : Ap (T :: L) G) (h : T p = some u) : Ap (upd T p o :: L) (upd G p o) :=
  Ap.fr (L1 := []) a (Fr.mut h) (a.ex T List.mem_cons_self).put
theorem Ap.fr2 {T : Hp} {L : List Hp} {F F' G G' : Hp} (a : Ap (T :: F :: L) G) (f : Fr F G F' G') (e : Ex F' G') : Ap (T :: F' :: L) G' := Ap.fr (L1 := [T]) a f e
/-! ### File.write -/
theorem Ap.sub {L L' : List Hp} {G : Hp} (a : Ap L G) (h : L'.Sublist L) : Ap L' G := ⟨fun F hF => a.ex F (h.subset hF), a.dis.sublist h⟩
/-- all that is new, as a piece -/
theorem Ap.grab {T : Hp} {L : List Hp} {G G' : Hp} (a : Ap (T :: L) G) (e : Ex G G') : Ap (T :: newp G G' :: L) G' := by
  have b := a.junk e
  have d : ∀ F ∈ T :: L, Dis (newp G G') F := fun F hF x => by
    cases h : newp G G' x with
    | none => exact .inl rfl
    | some o => exact .inr ((a.ex F hF).nul (newp_of h).1)
  have n : Ap (newp G G' :: T :: L) G' := ⟨fun F hF => by
    rcases List.mem_cons.mp hF with rfl | hF
    · exact fun b o h => (newp_of h).2
    · exact b.ex F hF, List.pairwise_cons.mpr ⟨d, b.dis⟩⟩
  exact n.perm (List.Perm.swap _ _ _)
theorem Ap.add2 {T : Hp} {L : List Hp} {G : Hp} {p : Addr} {o : HO} (a : Ap (T :: L) G) (h : G p = none) : Ap (T :: one p o :: L) (upd G p o) := (a.add h).perm (List.Perm.swap _ _ _)
theorem one_at {p : Addr} {o : HO} : one p o p = some o := upd_same
end Lw

namespace Lw
open PySem PySem.Spec PyProof.Rows L2
/-! ### lists of ints, and lists of those, as data -/
theorem lay_ints : ∀ ns : List Int, PyData.canLayAll0 (ns.map PyData.int) = true := by
  intro ns; induction ns with
  | nil => rfl
  | cons n r ih => rw [List.map_cons]; simp only [PyData.canLayAll0, PyData.canLay0, ih, Bool.and_self, Bool.true_and]
theorem dep_ints : ∀ ns : List Int, PyData.depthAll (ns.map PyData.int) = 0 := by
  intro ns; induction ns with
  | nil => rfl
  | cons n r ih => rw [List.map_cons]; simp only [PyData.depthAll, PyData.depth, ih]; rfl
theorem sh_ints (ns : List Int) : SeqAt.shaped (.list (ns.map PyData.int)) = true := by
  unfold SeqAt.shaped
  simp only [PyData.canLay0, PyData.depth, lay_ints, dep_ints]
  decide
theorem eqv_all : ∀ ns ms : List Int, PyData.eqvAll (ns.map PyData.int) (ms.map PyData.int) = decide (ns = ms)
  | [], [] => by simp [PyData.eqvAll]
  | [], _ :: _ => by simp [PyData.eqvAll]
  | _ :: _, [] => by simp [PyData.eqvAll]
  | n :: ns, m :: ms => by
    rw [List.map_cons, List.map_cons, PyData.eqvAll, eqv_all ns ms, PyData.eqv]
    by_cases h : n = m <;> by_cases h' : ns = ms <;> simp [h, h']
theorem eqv_int2 (ns ms : List Int) : PyData.eqv (.list (ns.map PyData.int)) (.list (ms.map PyData.int)) = decide (ns = ms) := by rw [PyData.eqv]; exact eqv_all ns ms
theorem int_depth (n : Int) : (PyData.int n).depth < 8 := by simp [PyData.depth]
theorem ints_depth (ns : List Int) : (PyData.list (ns.map PyData.int)).depth < 8 := by simp [PyData.depth, dep_ints]
theorem dep_il : ∀ ds : List (List Int), PyData.depthAll (ds.map fun d => PyData.list (d.map PyData.int)) ≤ 1 := by
  intro ds; induction ds with
  | nil => simp [PyData.depthAll]
  | cons n r ih => rw [List.map_cons]; simp only [PyData.depthAll, PyData.depth, dep_ints]; omega
/-- two lists of ints compared -/
theorem er_neIs {K : PySem.W.Frag} {G : Hp} {Q : V → Hp → Prop} {p r : Addr} {xs ys : List Int} (h : SqL K G p (xs.map V.int)) (h' : SqL K G r (ys.map V.int)) (q : Q (.bl (!decide (xs = ys))) G) : Er (rNeU K) (.ref p) (.ref r) G Q :=
  er_neD (d := .list (xs.map PyData.int)) (d' := .list (ys.map PyData.int)) (.lst h (dps_ints xs)) (.lst h' (dps_ints ys)) (sh_ints xs) (sh_ints ys) (by rw [eqv_int2]; exact q)
theorem er_eqIs {K : PySem.W.Frag} {G : Hp} {Q : V → Hp → Prop} {p r : Addr} {xs ys : List Int} (h : SqL K G p (xs.map V.int)) (h' : SqL K G r (ys.map V.int)) (q : Q (.bl (decide (xs = ys))) G) : Er (rEqU K) (.ref p) (.ref r) G Q :=
  er_eqD (d := .list (xs.map PyData.int)) (d' := .list (ys.map PyData.int)) (.lst h (dps_ints xs)) (.lst h' (dps_ints ys)) (sh_ints xs) (sh_ints ys) (by rw [eqv_int2]; exact q)
end Lw

namespace Lw
open PySem PySem.Spec PyProof.Rows L2
/-! ## records: plain lists of numbers, no program -/
def ckF (t : Int) (d : List Int) : Int := d.foldl (fun t b => (31 * t + b + 1) % 4294967296) t
def chk (d : List Int) : Int := ckF 7 d
def num (n : Nat) : List Int := if n < 128 then [(n : Int)] else [(n : Int) % 128 + 128, (n : Int) / 128]
def tl4 (c : Int) : List Int := [c / 16777216, c / 65536 % 256, c / 256 % 256, c % 256]
def rcd (d : List Int) : List Int := num d.length ++ d ++ tl4 (chk d)
def By (d : List Int) : Prop := ∀ b ∈ d, 0 ≤ b ∧ b < 256
/-- the number that is read -/
def rdG (total factor : Int) (idx : Nat) : Nat → List Int → Option (Int × Nat)
  | 0, _ => none
  | _ + 1, [] => none
  | f + 1, b :: r => if b < 128 then (if b = 0 ∧ 0 < idx then none else some (total + b % 128 * factor, idx + 1)) else rdG (total + b % 128 * factor) (factor * 128) (idx + 1) f r
def rd (w : List Int) : Option (Int × Nat) := rdG 0 1 0 60 (w.take 60)
/-- behind it no record begins -/
def Bad (w : List Int) : Prop := rd w = none ∨ ∃ (n k : Nat), rd w = some ((n : Int), k) ∧ n ≤ 2000 ∧ k ≤ 2 ∧ (w.length < k + n + 4 ∨ tl4 (chk ((w.drop k).take n)) ≠ (w.drop (k + n)).take 4)
theorem num_len (n : Nat) : (num n).length = if n < 128 then 1 else 2 := by unfold num; split <;> rfl
theorem num_le (n : Nat) : (num n).length ≤ 2 ∧ 1 ≤ (num n).length := by rw [num_len]; split <;> omega
theorem rd_num {n : Nat} (h : n < 16384) (r : List Int) : rd (num n ++ r) = some ((n : Int), (num n).length) := by
  unfold rd num
  by_cases hn : n < 128
  · rw [if_pos hn]
    show rdG 0 1 0 60 ((n : Int) :: r.take 59) = _
    unfold rdG
    rw [if_pos (by omega), if_neg (by omega), Int.zero_add, Int.mul_one, Int.emod_eq_of_lt (by omega) (by omega)]
    rfl
  · rw [if_neg hn]
    show rdG 0 1 0 60 (((n : Int) % 128 + 128) :: ((n : Int) / 128) :: r.take 58) = _
    unfold rdG
    rw [if_neg (by omega)]
    unfold rdG
    rw [if_pos (by omega), if_neg (by omega)]
    congr 2
    omega
theorem tl4_len (c : Int) : (tl4 c).length = 4 := rfl
theorem rcd_len (d : List Int) : (rcd d).length = (num d.length).length + d.length + 4 := by
  unfold rcd; rw [List.length_append, List.length_append, tl4_len]
theorem rcd_drop (d r : List Int) : (rcd d ++ r).drop (num d.length).length = d ++ (tl4 (chk d) ++ r) := by
  unfold rcd; rw [List.append_assoc, List.append_assoc, List.drop_left]
theorem rcd_drop2 (d r : List Int) : (rcd d ++ r).drop ((num d.length).length + d.length) = tl4 (chk d) ++ r := by
  rw [← List.drop_drop, rcd_drop, List.drop_left]
theorem rd_rcd {d : List Int} (h : d.length < 16384) (r : List Int) : rd (rcd d ++ r) = some ((d.length : Int), (num d.length).length) := by
  unfold rcd; rw [List.append_assoc, List.append_assoc]; exact rd_num h _
theorem tl4_inj {c c' : Int} (h : 0 ≤ c ∧ c < 4294967296) (h' : 0 ≤ c' ∧ c' < 4294967296) (e : tl4 c = tl4 c') : c = c' := by
  unfold tl4 at e
  simp only [List.cons.injEq, and_true] at e
  omega
theorem ckF_bd : ∀ (d : List Int) {t : Int}, 0 ≤ t ∧ t < 4294967296 → 0 ≤ ckF t d ∧ ckF t d < 4294967296
  | [], _, h => h
  | b :: r, t, _ => ckF_bd r (t := (31 * t + b + 1) % 4294967296) (by omega)
theorem chk_bd (d : List Int) : 0 ≤ chk d ∧ chk d < 4294967296 := ckF_bd d (by omega)
theorem ckF_ne : ∀ (d : List Int) {t t' : Int}, 0 ≤ t ∧ t < 4294967296 → 0 ≤ t' ∧ t' < 4294967296 → t ≠ t' → ckF t d ≠ ckF t' d
  | [], _, _, _, _, h => h
  | b :: r, t, t', h, h', n => ckF_ne r (t := (31 * t + b + 1) % 4294967296) (t' := (31 * t' + b + 1) % 4294967296) (by omega) (by omega) (by omega)
theorem ckF_set : ∀ (d : List Int) (t : Int) (j : Nat) (c b : Int), 0 ≤ t ∧ t < 4294967296 → d[j]? = some b → 0 ≤ b ∧ b < 256 → 0 ≤ c ∧ c < 256 → c ≠ b → ckF t (d.set j c) ≠ ckF t d
  | [], _, _, _, _, _, h, _, _, _ => by simp at h
  | x :: r, t, 0, c, b, ht, h, hb, hc, n => by
    obtain rfl : x = b := Option.some.inj h
    exact ckF_ne r (t := (31 * t + c + 1) % 4294967296) (t' := (31 * t + x + 1) % 4294967296) (by omega) (by omega) (by omega)
  | x :: r, t, j + 1, c, b, ht, h, hb, hc, n => ckF_set r ((31 * t + x + 1) % 4294967296) j c b (by omega) h hb hc n
theorem bad_nil : Bad [] := .inl rfl
theorem rd_one {b : Int} (h : 128 ≤ b) : rd [b] = none := by
  unfold rd
  show rdG 0 1 0 60 [b] = none
  unfold rdG
  rw [if_neg (by omega)]
  rfl
theorem bad_pre {d : List Int} (h : d.length ≤ 2000) {r : Nat} (hr : r < (rcd d).length) : Bad ((rcd d).take r) := by
  have hl := rcd_len d
  have hn := num_len d.length
  by_cases c : r < (num d.length).length
  · refine .inl ?_
    have e : (rcd d).take r = (num d.length).take r := by
      unfold rcd; rw [List.append_assoc, List.take_append_of_le_length (by omega)]
    rw [e]
    by_cases h0 : r = 0
    · subst h0; rfl
    · have h1 : r = 1 := by split at hn <;> omega
      subst h1
      have h2 : ¬ d.length < 128 := fun z => by rw [if_pos z] at hn; omega
      unfold num
      rw [if_neg h2]
      exact rd_one (by omega)
  · refine .inr ⟨d.length, (num d.length).length, ?_, h, (num_le _).1, .inl ?_⟩
    · have e : (rcd d).take r = num d.length ++ (d ++ tl4 (chk d)).take (r - (num d.length).length) := by
        unfold rcd; rw [List.append_assoc, List.take_append, List.take_of_length_le (by omega)]
      rw [e]
      exact rd_num (by omega) _
    · rw [List.length_take]; omega
/-- another byte in the four of the checksum -/
theorem bad_tail {d : List Int} (h : d.length ≤ 2000) {t : List Int} (ht : t.length = 4) (n : tl4 (chk d) ≠ t) (r : List Int) : Bad (num d.length ++ d ++ t ++ r) := by
  refine .inr ⟨d.length, (num d.length).length, ?_, h, (num_le _).1, .inr ?_⟩
  · rw [List.append_assoc, List.append_assoc]; exact rd_num (by omega) _
  · have e1 : (num d.length ++ d ++ t ++ r).drop (num d.length).length = d ++ (t ++ r) := by
      rw [List.append_assoc, List.append_assoc, List.drop_left]
    have e2 : (num d.length ++ d ++ t ++ r).drop ((num d.length).length + d.length) = t ++ r := by
      rw [← List.drop_drop, e1, List.drop_left]
    rw [e1, e2, List.take_left, ← ht, List.take_left]
    exact n
theorem bad_sum {d : List Int} (h : d.length ≤ 2000) (hb : By d) {j : Nat} {b c : Int} (hj : d[j]? = some b) (hc : 0 ≤ c ∧ c < 256) (n : c ≠ b) (r : List Int) : Bad (num d.length ++ d.set j c ++ tl4 (chk d) ++ r) := by
  have e : d.length = (d.set j c).length := (List.length_set).symm
  rw [e]
  refine bad_tail (by rw [← e]; exact h) rfl (fun q => ?_) r
  exact ckF_set d 7 j c b (by omega) hj (hb b (List.mem_of_getElem? hj)) hc n (tl4_inj (chk_bd _) (chk_bd _) q)
theorem rdG_needless : ∀ (z f : Nat) (t k : Int) (i : Nat) (r : List Int), z < f → 0 < i → rdG t k i f ((List.replicate z 128 ++ [0] ++ r).take f) = none
  | 0, f + 1, t, k, i, r, _, hi => by
    show rdG t k i (f + 1) (0 :: (r.take f)) = none
    unfold rdG
    rw [if_pos (by omega), if_pos ⟨rfl, hi⟩]
  | z + 1, f + 1, t, k, i, r, h, hi => by
    show rdG t k i (f + 1) (128 :: ((List.replicate z 128 ++ [0] ++ r).take f)) = none
    unfold rdG
    rw [if_neg (by omega)]
    exact rdG_needless z f _ _ (i + 1) r (by omega) (by omega)
/-- a needless byte -/
theorem bad_needless {n z : Nat} (hn : n ≤ 2000) (hz : z ≤ 2) (r : List Int) :
    Bad ((num n).take ((num n).length - 1) ++ ([((num n).getD ((num n).length - 1) 0) + 128] ++ List.replicate z 128 ++ [0]) ++ r) := by
  refine .inl ?_
  unfold rd num
  by_cases h : n < 128
  · rw [if_pos h]
    show rdG 0 1 0 60 (((n : Int) + 128) :: ((List.replicate z 128 ++ [0] ++ r).take 59)) = none
    unfold rdG
    rw [if_neg (by omega)]
    exact rdG_needless z 59 _ _ 1 r (by omega) (by omega)
  · rw [if_neg h]
    show rdG 0 1 0 60 (((n : Int) % 128 + 128) :: ((n : Int) / 128 + 128) :: ((List.replicate z 128 ++ [0] ++ r).take 58)) = none
    unfold rdG
    rw [if_neg (by omega)]
    unfold rdG
    rw [if_neg (by omega)]
    exact rdG_needless z 58 _ _ 2 r (by omega) (by omega)
/-! all records one after another; where each begins -/
def alls (ds : List (List Int)) : List Int := (ds.map rcd).flatten
theorem alls_cons (d : List Int) (ds : List (List Int)) : alls (d :: ds) = rcd d ++ alls ds := rfl
theorem alls_snoc (ds : List (List Int)) (d : List Int) : alls (ds ++ [d]) = alls ds ++ rcd d := by unfold alls; rw [List.map_append, List.flatten_append]; simp
def begs (o : Nat) : List (List Int) → List Int
  | [] => [(o : Int)]
  | d :: ds => (o : Int) :: begs (o + (rcd d).length) ds
theorem begs_snoc : ∀ (o : Nat) (ds : List (List Int)) (d : List Int), begs o (ds ++ [d]) = begs o ds ++ [((o + (alls (ds ++ [d])).length : Nat) : Int)]
  | o, [], d => by simp [begs, alls]
  | o, x :: ds, d => by
    show (o : Int) :: begs (o + (rcd x).length) (ds ++ [d]) = (o : Int) :: begs (o + (rcd x).length) ds ++ _
    rw [begs_snoc, List.cons_append, List.cons_append, alls_cons, List.length_append, Nat.add_assoc]
theorem begs_len : ∀ (o : Nat) (ds : List (List Int)), (begs o ds).length = ds.length + 1
  | _, [] => rfl
  | o, d :: ds => by show (begs _ ds).length + 1 = _; rw [begs_len]; rfl
theorem begs_ge : ∀ (o : Nat) (ds : List (List Int)), ∀ x ∈ begs o ds, (o : Int) ≤ x
  | o, [], x, h => by rw [List.mem_singleton.mp h]; exact Int.le_refl _
  | o, d :: ds, x, h => by
    rcases List.mem_cons.mp h with rfl | h
    · exact Int.le_refl _
    · have := begs_ge _ ds x h; omega
theorem begs_get : ∀ (o : Nat) (ds : List (List Int)) (j : Nat), j ≤ ds.length → (begs o ds)[j]? = some ((o + (alls (ds.take j)).length : Nat) : Int)
  | o, ds, 0, _ => by cases ds <;> simp [begs, alls]
  | o, [], j + 1, h => by simp at h
  | o, d :: ds, j + 1, h => by
    show (begs (o + (rcd d).length) ds)[j]? = _
    rw [begs_get _ ds j (by simpa using h), List.take_succ_cons, alls_cons, List.length_append, Nat.add_assoc]
theorem filt_none : ∀ (l : List Int) (e : Int), (∀ x ∈ l, e < x) → l.filter (fun x => decide (x ≤ e)) = []
  | [], _, _ => rfl
  | x :: l, e, h => by
    rw [List.filter_cons_of_neg (by have := h x List.mem_cons_self; simp; omega)]
    exact filt_none l e fun y hy => h y (List.mem_cons_of_mem _ hy)
theorem cut_alls : ∀ (ds : List (List Int)) (o e : Nat), (∀ d ∈ ds, d.length ≤ 2000) → e ≤ (alls ds).length → ∃ j t, j ≤ ds.length ∧ ((begs o ds).filter fun x => decide (x ≤ ((o + e : Nat) : Int))).length = j + 1 ∧ (alls ds).take e = alls (ds.take j) ++ t ∧ Bad t
  | [], o, e, _, h => ⟨0, [], Nat.le_refl _, by
    show ([(o : Int)].filter fun x => decide (x ≤ ((o + e : Nat) : Int))).length = 1
    rw [List.filter_cons_of_pos (by simp; omega)]; rfl, by simp [alls], bad_nil⟩
  | d :: ds, o, e, hd, h => by
    by_cases c : e < (rcd d).length
    · refine ⟨0, (rcd d).take e, Nat.zero_le _, ?_, ?_, bad_pre (hd d List.mem_cons_self) c⟩
      · show ((((o : Nat) : Int) :: begs (o + (rcd d).length) ds).filter _).length = 1
        rw [List.filter_cons_of_pos (by simp; omega), filt_none _ _ fun x hx => by have := begs_ge _ ds x hx; omega]
        rfl
      · rw [alls_cons, List.take_append_of_le_length (by omega)]; rfl
    · obtain ⟨j, t, h1, h2, h3, h4⟩ := cut_alls ds (o + (rcd d).length) (e - (rcd d).length) (fun x hx => hd x (List.mem_cons_of_mem _ hx)) (by rw [alls_cons, List.length_append] at h; omega)
      have ee : o + (rcd d).length + (e - (rcd d).length) = o + e := by omega
      rw [ee] at h2
      refine ⟨j + 1, t, by rw [List.length_cons]; omega, ?_, ?_, h4⟩
      · show ((((o : Nat) : Int) :: begs (o + (rcd d).length) ds).filter _).length = _
        rw [List.filter_cons_of_pos (by simp; omega), List.length_cons, h2]
      · rw [alls_cons, List.take_append, List.take_of_length_le (by omega), h3, List.take_succ_cons, alls_cons, List.append_assoc]
/-! slices -/
theorem cut_mid (xs : List V) (a b : Nat) (hab : a ≤ b) : cutV xs (some (a : Int)) (some (b : Int)) = (xs.drop a).take (b - a) := by
  unfold cutV
  rw [HT.sIx_nat, HT.sIx_nat]
  by_cases ha : a ≤ xs.length
  · have e1 : min a xs.length = a := Nat.min_eq_left ha
    rw [e1]
    by_cases hb : b ≤ xs.length
    · rw [Nat.min_eq_left hb]
    · have e2 : min b xs.length = xs.length := Nat.min_eq_right (by omega)
      rw [e2, List.take_of_length_le (by simp), List.take_of_length_le (by simp; omega)]
  · have e1 : min a xs.length = xs.length := Nat.min_eq_right (by omega)
    rw [e1, List.drop_of_length_le (i := a) (by omega)]
    simp
theorem cut_from (xs : List V) (a : Nat) : cutV xs (some (a : Int)) none = xs.drop a := by
  unfold cutV
  rw [HT.sIx_nat, HT.sIx_none]
  by_cases ha : a ≤ xs.length
  · have e1 : min a xs.length = a := Nat.min_eq_left ha
    rw [e1, List.take_of_length_le (by simp)]
  · have e1 : min a xs.length = xs.length := Nat.min_eq_right (by omega)
    rw [e1, List.drop_of_length_le (i := a) (by omega)]
    simp
theorem cut_toN (xs : List V) (a : Nat) : cutV xs none (some (a : Int)) = xs.take a := by
  unfold cutV
  rw [HT.sIx_none, HT.sIx_nat, List.drop_zero, Nat.sub_zero]
  by_cases ha : a ≤ xs.length
  · rw [Nat.min_eq_left ha]
  · have e1 : min a xs.length = xs.length := Nat.min_eq_right (by omega)
    rw [e1, List.take_of_length_le (by simp), List.take_of_length_le (by omega)]
theorem cut_m4 (xs : List V) (h : 4 ≤ xs.length) : cutV xs (some (-4)) none = xs.drop (xs.length - 4) := by
  unfold cutV
  have e1 : HT.sIx xs.length 0 (some (-4)) = xs.length - 4 := by
    show (if (-4 : Int) < 0 then ((-4 : Int) + (xs.length : Int)).toNat else min (-4 : Int).toNat xs.length) = _
    rw [if_pos (by decide)]
    omega
  rw [e1, HT.sIx_none, List.take_of_length_le (by simp)]
end Lw

namespace Lw
open PySem PySem.Spec PyProof.Rows L2
/-! ## bytes read, in plain Lean: what is read at a place, and the place behind it -/
def mkS (l : List Nat) : Str := ⟨l.toArray⟩
inductive Dd
  | back (n : Int)
  | change (m : List Nat) (rm : List (Int × Int)) (bh : Option (Int × Int)) (n : Int) (t : List Nat)
def mkD (m : Int × Int) : PyData := .tuple [.int m.1, .int m.2]
def bhD : Option (Int × Int) → PyData
  | none => .none
  | some m => mkD m
def Dd.data : Dd → PyData
  | .back n => .tuple [.str (Str.ofString "back"), .int n]
  | .change m rm bh n t => .tuple [.str (Str.ofString "change"), .str (mkS m), .tuple (rm.map mkD), bhD bh, .int n, .str (mkS t)]
abbrev Tri := Int × Int × Dd
def triD (t : Tri) : PyData := .tuple [.int t.1, .int t.2.1, t.2.2.data]
abbrev Rdr (α : Type) := List Int → Nat → Option (α × Nat)
def rdB : Rdr Int := fun bs a => bs[a]?.map fun b => (b, a + 1)
def rdN : Rdr Int := fun bs a => (rdG 0 1 0 60 (bs.drop a)).map fun x => (x.1, a + x.2)
def rdCh (n : Int) : Rdr Int := fun bs a => match rdB bs a with
  | none => none
  | some (b, a) => if n ≤ b then none else some (b, a)
def rdC : Rdr Int := fun bs a => match rdN bs a with
  | none => none
  | some (n, a) => if (bs.length : Int) - (a : Int) < n then none else some (n, a)
def sign (c : Int) : Option Nat := if c = 10 then some 10 else if 32 ≤ c ∧ c < 37 then some c.toNat else if 38 ≤ c ∧ c < 127 then some c.toNat else none
def rdX : Rdr Nat := fun bs a => match rdN bs a with
  | none => none
  | some (c, a) => (sign c).map fun x => (x, a)
def rdR {α : Type} (f : Rdr α) (bs : List Int) : Nat → Nat → Option (List α × Nat)
  | 0, a => some ([], a)
  | n + 1, a => match rdR f bs n a with
    | none => none
    | some (xs, a) => match f bs a with
      | none => none
      | some (x, a) => some (xs ++ [x], a)
def rdL {α : Type} (f : Rdr α) : Rdr (List α) := fun bs a => match rdC bs a with
  | none => none
  | some (n, a) => rdR f bs n.toNat a
def rdS : Rdr (List Nat) := rdL rdX
def rdM : Rdr (Int × Int) := fun bs a => match rdN bs a with
  | none => none
  | some (n, a) => match rdN bs a with
    | none => none
    | some (r, a) => some ((n, r), a)
def rdBh : Rdr (Option (Int × Int)) := fun bs a => match rdCh 2 bs a with
  | none => none
  | some (c, a) => if c = 1 then (rdM bs a).map fun x => (some x.1, x.2) else some (none, a)
def rdCg : Rdr Dd := fun bs a => match rdS bs a with
  | none => none
  | some (m, a) => match rdL rdM bs a with
    | none => none
    | some (rm, a) => match rdBh bs a with
      | none => none
      | some (bh, a) => match rdN bs a with
        | none => none
        | some (n, a) => match rdS bs a with
          | none => none
          | some (t, a) => some (.change m rm bh n t, a)
def rdD : Rdr Dd := fun bs a => match rdCh 2 bs a with
  | none => none
  | some (c, a) => if c = 1 then (rdN bs a).map fun x => (.back x.1, x.2) else rdCg bs a
def rdT : Rdr Tri := fun bs a => match rdM bs a with
  | none => none
  | some (m, a) => (rdD bs a).map fun x => ((m.1, m.2, x.1), x.2)
def rdTs : Rdr (List Tri) := rdL rdT
def rdP : Rdr (List Tri) := fun bs a => match rdB bs a with
  | none => none
  | some (b, a) => if b = 1 then rdTs bs a else none
theorem rdG_nn : ∀ (f : Nat) (t k : Int) (i : Nat) (w : List Int) (n : Int) (j : Nat), 0 ≤ t → 0 ≤ k → rdG t k i f w = some (n, j) → 0 ≤ n ∧ i < j ∧ j ≤ i + w.length
  | 0, _, _, _, _, _, _, _, _, h => by cases h
  | _ + 1, _, _, _, [], _, _, _, _, h => by cases h
  | f + 1, t, k, i, b :: r, n, j, ht, hk, h => by
    unfold rdG at h
    have hb : 0 ≤ b % 128 * k := Int.mul_nonneg (by omega) hk
    split at h
    · split at h
      · cases h
      · obtain ⟨rfl, rfl⟩ := Prod.mk.inj (Option.some.inj h)
        exact ⟨by omega, by omega, by rw [List.length_cons]; omega⟩
    · have := rdG_nn f _ _ _ _ _ _ (by omega) (by omega) h
      rw [List.length_cons]; omega
theorem rdN_nn {bs : List Int} {a a' : Nat} {n : Int} (h : rdN bs a = some (n, a')) : 0 ≤ n ∧ a < a' ∧ (a ≤ bs.length → a' ≤ bs.length) := by
  unfold rdN at h
  obtain ⟨⟨m, j⟩, h1, h2⟩ := Option.map_eq_some_iff.mp h
  obtain ⟨rfl, rfl⟩ := Prod.mk.inj h2
  have := rdG_nn _ _ _ _ _ _ _ (by omega) (by omega) h1
  rw [List.length_drop] at this
  dsimp only
  omega
end Lw

namespace Lw
open PySem PySem.Spec PyProof.Rows L2
/-! ## bytes written, in plain Lean; what is written is read back -/
def wrN (n : Nat) : List Int := if h : n < 128 then [(n : Int)] else ((n % 128 + 128 : Nat) : Int) :: wrN (n / 128)
termination_by n
decreasing_by omega
theorem wrN_lt {n : Nat} (h : n < 128) : wrN n = [(n : Int)] := by rw [wrN, dif_pos h]
theorem wrN_ge {n : Nat} (h : ¬ n < 128) : wrN n = ((n % 128 + 128 : Nat) : Int) :: wrN (n / 128) := by rw [wrN, dif_neg h]
def wrL (items : List (List Int)) : List Int := wrN items.length ++ items.flatten
def wrS (s : List Nat) : List Int := wrL (s.map wrN)
def wrM (m : Int × Int) : List Int := wrN m.1.toNat ++ wrN m.2.toNat
def wrBh : Option (Int × Int) → List Int
  | none => [0]
  | some m => [1] ++ wrM m
def wrD : Dd → List Int
  | .back n => [1] ++ wrN n.toNat
  | .change m rm bh n t => [0] ++ wrS m ++ wrL (rm.map wrM) ++ wrBh bh ++ wrN n.toNat ++ wrS t
def wrT (t : Tri) : List Int := wrN t.1.toNat ++ wrN t.2.1.toNat ++ wrD t.2.2
def wrTs (ts : List Tri) : List Int := wrL (ts.map wrT)
def wrP (ts : List Tri) : List Int := [1] ++ wrTs ts
theorem rdG_wr : ∀ (k n : Nat) (t f : Int) (i : Nat) (r : List Int), 0 < k → n < 128 ^ k → (0 < i → 0 < n) → rdG t f i k (wrN n ++ r) = some (t + (n : Int) * f, i + (wrN n).length)
  | 0, _, _, _, _, _, h, _, _ => absurd h (by decide)
  | k + 1, n, t, f, i, r, _, h, hi => by
    by_cases hn : n < 128
    · rw [wrN_lt hn]
      show rdG t f i (k + 1) ((n : Int) :: r) = _
      unfold rdG
      rw [if_pos (by omega), if_neg (by rintro ⟨a, b⟩; have := hi b; omega), Int.emod_eq_of_lt (by omega) (by omega)]
      rfl
    · rw [wrN_ge hn]
      show rdG t f i (k + 1) (((n % 128 + 128 : Nat) : Int) :: (wrN (n / 128) ++ r)) = _
      unfold rdG
      rw [if_neg (by omega), rdG_wr k (n / 128) _ _ (i + 1) r (by
        rcases Nat.eq_zero_or_pos k with z | z
        · subst z; exact absurd h (by simpa using hn)
        · exact z) (by rw [Nat.pow_succ] at h; omega) (fun _ => by omega)]
      have e1 : ((n % 128 + 128 : Nat) : Int) % 128 = ((n % 128 : Nat) : Int) := by omega
      have e2 : (n : Int) = ((n % 128 : Nat) : Int) + 128 * ((n / 128 : Nat) : Int) := by omega
      rw [e1, List.length_cons]
      congr 2
      · conv => rhs; rw [e2]
        rw [Int.add_mul, ← Int.add_assoc]
        congr 1
        rw [Int.mul_comm f 128, ← Int.mul_assoc, Int.mul_comm 128]
      · omega
/-- at a place something written stands -/
def At (bs : List Int) (a : Nat) (w : List Int) : Prop := ∃ r, bs.drop a = w ++ r
theorem At.app {bs : List Int} {a : Nat} {w v : List Int} (h : At bs a (w ++ v)) : At bs a w ∧ At bs (a + w.length) v := by
  obtain ⟨r, e⟩ := h
  refine ⟨⟨v ++ r, by rw [e, List.append_assoc]⟩, r, ?_⟩
  rw [← List.drop_drop, e, List.append_assoc, List.drop_left]
theorem At.len {bs : List Int} {a : Nat} {w : List Int} (h : At bs a w) (hw : w ≠ []) : a + w.length ≤ bs.length := by
  obtain ⟨r, e⟩ := h
  have := congrArg List.length e
  rw [List.length_drop, List.length_append] at this
  have : 0 < w.length := List.length_pos_iff.mpr hw
  omega
theorem At.le {bs : List Int} {a : Nat} {w : List Int} (h : At bs a w) (ha : a ≤ bs.length) : a + w.length ≤ bs.length := by
  obtain ⟨r, e⟩ := h
  have := congrArg List.length e
  rw [List.length_drop, List.length_append] at this
  omega
theorem wrN_ne (n : Nat) : wrN n ≠ [] := by
  by_cases h : n < 128
  · rw [wrN_lt h]; exact List.cons_ne_nil _ _
  · rw [wrN_ge h]; exact List.cons_ne_nil _ _
theorem wrN_pos (n : Nat) : 1 ≤ (wrN n).length := List.length_pos_iff.mpr (wrN_ne n)
def Big (n : Int) : Prop := 0 ≤ n ∧ n < 128 ^ 60
theorem rdN_wr {bs : List Int} {a n : Nat} (h : At bs a (wrN n)) (hn : n < 128 ^ 60) : rdN bs a = some ((n : Int), a + (wrN n).length) := by
  obtain ⟨r, e⟩ := h
  unfold rdN
  rw [e, rdG_wr 60 n 0 1 0 r (by decide) hn (fun z => absurd z (by decide))]
  simp
theorem rdN_wrI {bs : List Int} {a : Nat} {n : Int} (h : At bs a (wrN n.toNat)) (hn : Big n) : rdN bs a = some (n, a + (wrN n.toNat).length) := by
  have e : ((n.toNat : Nat) : Int) = n := Int.toNat_of_nonneg hn.1
  rw [rdN_wr h (by have := hn.2; omega), e]
theorem rdB_wr {bs : List Int} {a : Nat} {b : Int} (h : At bs a [b]) : rdB bs a = some (b, a + 1) := by
  obtain ⟨r, e⟩ := h
  unfold rdB
  have : bs[a]? = some b := by
    have := congrArg (fun l => l[0]?) e
    simpa using this
  rw [this]; rfl
/-- a list of things each of which is read back -/
theorem rdR_wr {α : Type} {f : Rdr α} {wr : α → List Int} {bs : List Int} : ∀ (xs : List α) (a : Nat), (∀ x ∈ xs, ∀ a, At bs a (wr x) → f bs a = some (x, a + (wr x).length)) → At bs a ((xs.map wr).flatten) →
    ∀ n ≤ xs.length, rdR f bs n a = some (xs.take n, a + ((xs.take n).map wr).flatten.length) := by
  intro xs a hf h n
  induction n with
  | zero => intro _; simp [rdR]
  | succ n ih =>
    intro hn
    have hx : xs[n]? = some xs[n] := List.getElem?_eq_getElem (by omega)
    have e3 : xs.take (n + 1) = xs.take n ++ [xs[n]] := by rw [List.take_add_one, hx]; rfl
    have e4 : (xs.map wr).flatten = ((xs.take n).map wr).flatten ++ (wr xs[n] ++ ((xs.drop (n + 1)).map wr).flatten) := by
      conv => lhs; rw [← List.take_append_drop n xs, List.drop_eq_getElem_cons (by omega)]
      rw [List.map_append, List.flatten_append, List.map_cons, List.flatten_cons]
    rw [e4] at h
    have h1 := (h.app).2.app.1
    unfold rdR
    rw [ih (by omega)]
    simp only
    rw [hf _ (List.getElem_mem (by omega)) _ h1]
    simp only
    rw [e3, List.map_append, List.flatten_append]
    simp [Nat.add_assoc]
theorem flat_len {α : Type} {wr : α → List Int} (h1 : ∀ x, 1 ≤ (wr x).length) : ∀ xs : List α, xs.length ≤ (xs.map wr).flatten.length
  | [] => Nat.le_refl _
  | x :: r => by
    rw [List.map_cons, List.flatten_cons, List.length_append, List.length_cons]
    have := h1 x
    have := flat_len h1 r
    omega
theorem rdL_wr {α : Type} {f : Rdr α} {wr : α → List Int} {bs : List Int} {a : Nat} {xs : List α} (h1 : ∀ x, 1 ≤ (wr x).length) (hf : ∀ x ∈ xs, ∀ a, At bs a (wr x) → f bs a = some (x, a + (wr x).length)) (hl : bs.length ≤ 1000000) (h : At bs a (wrL (xs.map wr))) :
    rdL f bs a = some (xs, a + (wrL (xs.map wr)).length) := by
  unfold wrL at h ⊢
  have hne := h.len (by intro z; exact wrN_ne _ (List.append_eq_nil_iff.mp z).1)
  obtain ⟨h2, h3⟩ := h.app
  have hx := flat_len h1 xs
  rw [List.length_append, List.length_map] at hne
  rw [List.length_map] at h2 h3
  have big : (1000000 : Nat) < 128 ^ 60 := by decide
  have e1 : rdC bs a = some ((xs.length : Int), a + (wrN xs.length).length) := by
    unfold rdC
    rw [rdN_wr h2 (by omega)]
    simp only
    rw [if_neg (by omega)]
  unfold rdL
  rw [e1]
  simp only
  rw [Int.toNat_natCast, rdR_wr xs _ hf h3 xs.length (Nat.le_refl _), List.take_length, List.length_append, List.length_map, Nat.add_assoc]
theorem sign_ok {c : Nat} (h : c = 10 ∨ (32 ≤ c ∧ c < 127 ∧ c ≠ 37)) : sign (c : Int) = some c := by
  unfold sign
  rcases h with rfl | ⟨h1, h2, h3⟩
  · rfl
  · rw [if_neg (by omega)]
    by_cases h4 : c < 37
    · rw [if_pos (by omega)]; simp
    · rw [if_neg (by omega), if_pos (by omega)]; simp
def TxOk (s : List Nat) : Prop := ∀ c ∈ s, c = 10 ∨ (32 ≤ c ∧ c < 127 ∧ c ≠ 37)
theorem rdS_wr {bs : List Int} {a : Nat} {s : List Nat} (hs : TxOk s) (hl : bs.length ≤ 1000000) (h : At bs a (wrS s)) : rdS bs a = some (s, a + (wrS s).length) := by
  refine rdL_wr (f := rdX) (wr := wrN) wrN_pos (fun c hc a h => ?_) hl h
  unfold rdX
  have := hs c hc
  rw [rdN_wr h (by have : (127 : Nat) < 128 ^ 60 := by decide
                   omega)]
  simp only
  rw [sign_ok (hs c hc)]
  rfl
def MkOk (m : Int × Int) : Prop := Big m.1 ∧ Big m.2
theorem wrM_pos (m : Int × Int) : 1 ≤ (wrM m).length := by
  unfold wrM; rw [List.length_append]; have := wrN_pos m.1.toNat; omega
theorem rdM_wr {bs : List Int} {a : Nat} {m : Int × Int} (hm : MkOk m) (h : At bs a (wrM m)) : rdM bs a = some (m, a + (wrM m).length) := by
  unfold wrM at h ⊢
  obtain ⟨h1, h2⟩ := h.app
  unfold rdM
  rw [rdN_wrI h1 hm.1]
  simp only
  rw [rdN_wrI h2 hm.2]
  simp only [List.length_append, Nat.add_assoc]
def BhOk : Option (Int × Int) → Prop
  | none => True
  | some m => MkOk m
theorem rdBh_wr {bs : List Int} {a : Nat} {b : Option (Int × Int)} (hb : BhOk b) (h : At bs a (wrBh b)) : rdBh bs a = some (b, a + (wrBh b).length) := by
  cases b with
  | none =>
    have := rdB_wr h
    unfold rdBh rdCh
    rw [this]
    rfl
  | some m =>
    obtain ⟨h1, h2⟩ := At.app (w := [1]) h
    have := rdB_wr h1
    unfold rdBh rdCh
    rw [this]
    simp only
    rw [if_neg (by decide)]
    simp only [if_true]
    have e := rdM_wr hb h2
    rw [show a + ([1] : List Int).length = a + 1 from rfl] at e
    rw [e]
    simp [wrBh, Nat.add_assoc, Nat.add_comm 1]
def DOk : Dd → Prop
  | .back n => Big n
  | .change m rm bh n t => TxOk m ∧ (∀ x ∈ rm, MkOk x) ∧ BhOk bh ∧ Big n ∧ TxOk t
theorem rdD_wr {bs : List Int} {a : Nat} {d : Dd} (hd : DOk d) (hl : bs.length ≤ 1000000) (h : At bs a (wrD d)) : rdD bs a = some (d, a + (wrD d).length) := by
  cases d with
  | back n =>
    obtain ⟨h1, h2⟩ := At.app (w := [1]) h
    have := rdB_wr h1
    unfold rdD rdCh
    rw [this]
    simp only
    rw [if_neg (by decide)]
    simp only [if_true]
    have e := rdN_wrI h2 hd
    rw [show a + ([1] : List Int).length = a + 1 from rfl] at e
    rw [e]
    simp [wrD, Nat.add_assoc, Nat.add_comm 1]
  | change m rm bh n t =>
    obtain ⟨d1, d2, d3, d4, d5⟩ := hd
    unfold wrD at h
    obtain ⟨h, k6⟩ := h.app
    obtain ⟨h, k5⟩ := h.app
    obtain ⟨h, k4⟩ := h.app
    obtain ⟨h, k3⟩ := h.app
    obtain ⟨k1, k2⟩ := h.app
    have e1 := rdB_wr k1
    have e2 := rdS_wr d1 hl k2
    have e3 := rdL_wr (f := rdM) (wr := wrM) wrM_pos (fun x hx a h => rdM_wr (d2 x hx) h) hl k3
    have e4 := rdBh_wr d3 k4
    have e5 := rdN_wrI k5 d4
    have e6 := rdS_wr d5 hl k6
    simp only [List.length_append, List.length_cons, List.length_nil, Nat.zero_add, Nat.add_assoc] at e2 e3 e4 e5 e6
    unfold rdD rdCh
    rw [e1]
    simp only
    rw [if_neg (by decide)]
    simp only
    rw [if_neg (by decide)]
    unfold rdCg
    rw [e2]; simp only [Nat.add_assoc]
    rw [e3]; simp only [Nat.add_assoc]
    rw [e4]; simp only [Nat.add_assoc]
    rw [e5]; simp only [Nat.add_assoc]
    rw [e6]
    simp only [wrD, List.length_append, List.length_cons, List.length_nil, Nat.zero_add, Nat.add_assoc]
def TOk (t : Tri) : Prop := Big t.1 ∧ Big t.2.1 ∧ DOk t.2.2
theorem wrT_pos (t : Tri) : 1 ≤ (wrT t).length := by
  unfold wrT; rw [List.length_append, List.length_append]; have := wrN_pos t.1.toNat; omega
theorem rdT_wr {bs : List Int} {a : Nat} {t : Tri} (ht : TOk t) (hl : bs.length ≤ 1000000) (h : At bs a (wrT t)) : rdT bs a = some (t, a + (wrT t).length) := by
  unfold wrT at h
  obtain ⟨h, k3⟩ := h.app
  obtain ⟨k1, k2⟩ := h.app
  have e1 := rdN_wrI k1 ht.1
  have e2 := rdN_wrI k2 ht.2.1
  have e3 := rdD_wr ht.2.2 hl k3
  simp only [List.length_append, Nat.add_assoc] at e2 e3
  unfold rdT rdM
  rw [e1]; simp only [Nat.add_assoc]
  rw [e2]; simp only [Nat.add_assoc]
  rw [e3]
  simp only [wrT, List.length_append, Nat.add_assoc, Option.map_some]
theorem rdTs_wr {bs : List Int} {a : Nat} {ts : List Tri} (ht : ∀ t ∈ ts, TOk t) (hl : bs.length ≤ 1000000) (h : At bs a (wrTs ts)) : rdTs bs a = some (ts, a + (wrTs ts).length) :=
  rdL_wr (f := rdT) (wr := wrT) wrT_pos (fun x hx a h => rdT_wr (ht x hx) hl h) hl h
theorem rdP_wr {bs : List Int} {a : Nat} {ts : List Tri} (ht : ∀ t ∈ ts, TOk t) (hl : bs.length ≤ 1000000) (h : At bs a (wrP ts)) : rdP bs a = some (ts, a + (wrP ts).length) := by
  obtain ⟨h1, h2⟩ := At.app (w := [1]) h
  have e1 := rdB_wr h1
  have e2 := rdTs_wr ht hl h2
  rw [show a + ([1] : List Int).length = a + 1 from rfl] at e2
  unfold rdP
  rw [e1]
  simp only [if_true]
  rw [e2]
  simp [wrP, Nat.add_assoc, Nat.add_comm 1]
end Lw

namespace Lw
open PySem PySem.Spec PyProof.Rows L2
/-! ## what is read lies within the bytes -/
def Le {α : Type} (f : Rdr α) : Prop := ∀ bs a x b, a ≤ bs.length → f bs a = some (x, b) → b ≤ bs.length
theorem le_B : Le rdB := fun bs a x b h e => by
  unfold rdB at e
  obtain ⟨y, hy, h'⟩ := Option.map_eq_some_iff.mp e
  obtain ⟨rfl, rfl⟩ := Prod.mk.inj h'
  exact (List.getElem?_eq_some_iff.mp hy).1
theorem le_N : Le rdN := fun bs a x b h e => (rdN_nn e).2.2 h
theorem le_Ch {n : Int} : Le (rdCh n) := fun bs a x b h e => by
  unfold rdCh at e
  split at e
  · cases e
  · rename_i y c e1
    split at e
    · cases e
    · obtain ⟨rfl, rfl⟩ := Prod.mk.inj (Option.some.inj e)
      exact le_B _ _ _ _ h e1
theorem le_C : Le rdC := fun bs a x b h e => by
  unfold rdC at e
  split at e
  · cases e
  · rename_i y c e1
    split at e
    · cases e
    · obtain ⟨rfl, rfl⟩ := Prod.mk.inj (Option.some.inj e)
      exact le_N _ _ _ _ h e1
theorem le_X : Le rdX := fun bs a x b h e => by
  unfold rdX at e
  split at e
  · cases e
  · rename_i y c e1
    obtain ⟨z, hz, h'⟩ := Option.map_eq_some_iff.mp e
    obtain ⟨rfl, rfl⟩ := Prod.mk.inj h'
    exact le_N _ _ _ _ h e1
theorem le_R {α : Type} {f : Rdr α} (hf : Le f) {bs : List Int} {a : Nat} (h : a ≤ bs.length) : ∀ n xs b, rdR f bs n a = some (xs, b) → b ≤ bs.length
  | 0, xs, b, e => by
    obtain ⟨rfl, rfl⟩ := Prod.mk.inj (Option.some.inj e)
    exact h
  | n + 1, xs, b, e => by
    unfold rdR at e
    split at e
    · cases e
    · rename_i ys c e1
      split at e
      · cases e
      · rename_i x d e2
        obtain ⟨rfl, rfl⟩ := Prod.mk.inj (Option.some.inj e)
        exact hf _ _ _ _ (le_R hf h n _ _ e1) e2
theorem le_L {α : Type} {f : Rdr α} (hf : Le f) : Le (rdL f) := fun bs a x b h e => by
  unfold rdL at e
  split at e
  · cases e
  · rename_i n c e1
    exact le_R hf (le_C _ _ _ _ h e1) _ _ _ e
theorem le_S : Le rdS := le_L le_X
theorem le_M : Le rdM := fun bs a x b h e => by
  unfold rdM at e
  split at e
  · cases e
  · rename_i n c e1
    split at e
    · cases e
    · rename_i r d e2
      obtain ⟨rfl, rfl⟩ := Prod.mk.inj (Option.some.inj e)
      exact le_N _ _ _ _ (le_N _ _ _ _ h e1) e2
theorem le_Bh : Le rdBh := fun bs a x b h e => by
  unfold rdBh at e
  split at e
  · cases e
  · rename_i c d e1
    have h1 := le_Ch _ _ _ _ h e1
    split at e
    · obtain ⟨⟨z, w⟩, hz, h'⟩ := Option.map_eq_some_iff.mp e
      obtain ⟨rfl, rfl⟩ := Prod.mk.inj h'
      exact le_M _ _ _ _ h1 hz
    · obtain ⟨rfl, rfl⟩ := Prod.mk.inj (Option.some.inj e)
      exact h1
theorem le_Cg : Le rdCg := fun bs a x b h e => by
  unfold rdCg at e
  split at e
  · cases e
  · rename_i m c1 e1
    have h1 := le_S _ _ _ _ h e1
    split at e
    · cases e
    · rename_i rm c2 e2
      have h2 := le_L le_M _ _ _ _ h1 e2
      split at e
      · cases e
      · rename_i bh c3 e3
        have h3 := le_Bh _ _ _ _ h2 e3
        split at e
        · cases e
        · rename_i n c4 e4
          have h4 := le_N _ _ _ _ h3 e4
          split at e
          · cases e
          · rename_i t c5 e5
            obtain ⟨rfl, rfl⟩ := Prod.mk.inj (Option.some.inj e)
            exact le_S _ _ _ _ h4 e5
theorem le_D : Le rdD := fun bs a x b h e => by
  unfold rdD at e
  split at e
  · cases e
  · rename_i c d e1
    have h1 := le_Ch _ _ _ _ h e1
    split at e
    · obtain ⟨⟨z, w⟩, hz, h'⟩ := Option.map_eq_some_iff.mp e
      obtain ⟨rfl, rfl⟩ := Prod.mk.inj h'
      exact le_N _ _ _ _ h1 hz
    · exact le_Cg _ _ _ _ h1 e
theorem le_T : Le rdT := fun bs a x b h e => by
  unfold rdT at e
  split at e
  · cases e
  · rename_i m c e1
    obtain ⟨⟨z, w⟩, hz, h'⟩ := Option.map_eq_some_iff.mp e
    obtain ⟨rfl, rfl⟩ := Prod.mk.inj h'
    exact le_D _ _ _ _ (le_M _ _ _ _ h e1) hz
theorem le_Ts : Le rdTs := le_L le_T
theorem le_P : Le rdP := fun bs a x b h e => by
  unfold rdP at e
  split at e
  · cases e
  · rename_i n c e1
    split at e
    · exact le_Ts _ _ _ _ (le_B _ _ _ _ h e1) e
    · cases e
/-! ## things of the five kinds -/
inductive Th
  | num (n : Int)
  | txt (s : List Nat)
  | deed (d : Dd)
  | tris (ts : List Tri)
def Th.data : Th → PyData
  | .num n => .int n
  | .txt s => .str (mkS s)
  | .deed d => d.data
  | .tris ts => .list (ts.map triD)
def rdK (k : Nat) (bs : List Int) : Option (Th × Nat) := match k with
  | 0 => (rdN bs 0).map fun x => (.num x.1, x.2)
  | 1 => (rdS bs 0).map fun x => (.txt x.1, x.2)
  | 2 => (rdD bs 0).map fun x => (.deed x.1, x.2)
  | 3 => (rdTs bs 0).map fun x => (.tris x.1, x.2)
  | _ => (rdP bs 0).map fun x => (.tris x.1, x.2)
theorem rdK_le {k : Nat} {bs : List Int} {t : Th} {b : Nat} (h : rdK k bs = some (t, b)) : b ≤ bs.length := by
  unfold rdK at h
  split at h <;> (obtain ⟨⟨x, c⟩, hx, h'⟩ := Option.map_eq_some_iff.mp h; obtain ⟨rfl, rfl⟩ := Prod.mk.inj h')
  · exact le_N _ _ _ _ (Nat.zero_le _) hx
  · exact le_S _ _ _ _ (Nat.zero_le _) hx
  · exact le_D _ _ _ _ (Nat.zero_le _) hx
  · exact le_Ts _ _ _ _ (Nat.zero_le _) hx
  · exact le_P _ _ _ _ (Nat.zero_le _) hx
end Lw

namespace Lw
open PySem L2
structure Ad where
  cReader : Addr
  cDamagedPacket : Addr
structure Cf (K : PySem.W.Frag) (A : Ad) : Prop where
  cl : Cls K A.cReader
  n1 : NoAttr K A.cReader "data"
  n2 : NoAttr K A.cReader "at"
  xc : Xc K A.cDamagedPacket
end Lw

namespace Lw
open PySem PySem.Spec PyProof.Rows L2
local macro_rules | `(tactic| k_extra "x1") => `(tactic| first
  | with_reducible refine es_seq ?_
  | with_reducible refine es_asg ?_
  | with_reducible refine es_if ?_
  | with_reducible refine es_ret ?_
  | with_reducible refine es_drop ?_
  | with_reducible refine es_next ?_
  | with_reducible refine es_augS ?_
  | with_reducible refine es_fld ?_
  | ((with_reducible show Ee (tVar _) _ _ _); refine ee_var rfl ?_)
  | with_reducible refine ee_c ?_
  | with_reducible refine ee_op ?_
  | with_reducible refine ee_un ?_
  | with_reducible refine eu_neg ?_
  | with_reducible refine ee_cb ?_
  | with_reducible refine ee_call ?_
  | with_reducible refine ea_nil ?_
  | with_reducible refine ea_cons ?_
  | with_reducible refine ee_sl ?_
  | with_reducible refine eo_no ?_
  | with_reducible refine eo_part ?_
  | with_reducible refine ee_tup ?_
  | with_reducible refine ee_lst ?_
  | with_reducible refine et_test ?_
  | with_reducible refine et_tB ?_
  | with_reducible refine et_tru ?_
  | with_reducible refine et_and ?_
  | with_reducible refine et_or ?_
  | with_reducible refine et_not ?_
  | with_reducible refine ee_and ?_
  | with_reducible refine ee_or ?_
  | with_reducible refine ee_not ?_
  | with_reducible refine ee_if ?_
  | with_reducible refine ee_chain ?_
  | with_reducible refine er_addI ?_
  | with_reducible refine er_subI ?_
  | with_reducible refine er_eqI ?_
  | with_reducible refine er_neI ?_
  | with_reducible refine er_eqNI ?_
  | with_reducible refine er_eqS ?_
  | with_reducible refine er_neS ?_
  | with_reducible refine er_eqB ?_
  | with_reducible refine er_neB ?_
  | with_reducible refine er_lt ?_
  | with_reducible refine er_le ?_
  | with_reducible refine er_gt ?_
  | with_reducible refine er_ge ?_
  | with_reducible refine er_isN_non ?_
  | with_reducible refine er_isN_bl ?_
  | with_reducible refine er_isN_int ?_
  | with_reducible refine er_isN_str ?_
  | with_reducible refine er_isN_ref ?_
  | with_reducible refine er_notN_non ?_
  | with_reducible refine er_notN_bl ?_
  | with_reducible refine er_notN_int ?_
  | with_reducible refine er_notN_str ?_
  | with_reducible refine er_notN_ref ?_
  | with_reducible refine er_isN ?_
  | with_reducible refine er_notN ?_
  | with_reducible refine ec_int ?_
  | with_reducible refine ec_intB ?_
  | with_reducible refine ec_max2 ?_
  | with_reducible refine ec_min2 ?_
  | with_reducible refine ip_I ?_
  | ((with_reducible refine eg_name ?_); (try dsimp only [L2.wipe, List.set_cons_zero, List.set_cons_succ]))
  | with_reducible refine eg_sub ?_
  | with_reducible refine egs_cons ?_
  | with_reducible refine egs_nil ?_
  | with_reducible refine tru_bl ?_
  | with_reducible refine tru_int ?_
  | with_reducible refine tru_non ?_
  | with_reducible refine iteT ?_
  | with_reducible refine iteF ?_
  | with_reducible refine ite_nt ?_
  | with_reducible refine ite_nf ?_
  | with_reducible refine ⟨_, rfl, ?_⟩)
local macro_rules | `(tactic| k_extra "s") => `(tactic| ((first | k_extra "x1" | ((with_reducible refine es_unf ?_); refine es_seq ?_)); (repeat k_extra "x1")))
local macro_rules | `(tactic| k_extra "x") => `(tactic| (repeat first | k_extra "x1" | ((with_reducible refine es_unf ?_); refine es_seq ?_)))
local macro_rules | `(tactic| k_extra "start") => `(tactic| dsimp only [L2.start, List.map_cons, List.map_nil, List.length_cons, List.length_nil, Nat.reduceAdd, Nat.reduceSub, List.replicate, List.cons_append, List.nil_append, Nat.zero_add])
local macro_rules | `(tactic| k_extra "e1") => `(tactic| first
  | with_reducible refine es_next ?_
  | ((with_reducible show Ee (tVar _) _ _ _); refine ee_var rfl ?_)
  | with_reducible refine ee_c ?_
  | with_reducible refine ee_op ?_
  | with_reducible refine ee_un ?_
  | with_reducible refine eu_neg ?_
  | with_reducible refine ee_cb ?_
  | with_reducible refine ee_call ?_
  | with_reducible refine ea_nil ?_
  | with_reducible refine ea_cons ?_
  | with_reducible refine ee_sl ?_
  | with_reducible refine eo_no ?_
  | with_reducible refine eo_part ?_
  | with_reducible refine ee_tup ?_
  | with_reducible refine ee_lst ?_
  | with_reducible refine et_test ?_
  | with_reducible refine et_tB ?_
  | with_reducible refine et_tru ?_
  | with_reducible refine et_and ?_
  | with_reducible refine et_or ?_
  | with_reducible refine et_not ?_
  | with_reducible refine ee_and ?_
  | with_reducible refine ee_or ?_
  | with_reducible refine ee_not ?_
  | with_reducible refine ee_if ?_
  | with_reducible refine ee_chain ?_
  | with_reducible refine er_addI ?_
  | with_reducible refine er_subI ?_
  | with_reducible refine er_eqI ?_
  | with_reducible refine er_neI ?_
  | with_reducible refine er_eqNI ?_
  | with_reducible refine er_eqS ?_
  | with_reducible refine er_neS ?_
  | with_reducible refine er_eqB ?_
  | with_reducible refine er_neB ?_
  | with_reducible refine er_lt ?_
  | with_reducible refine er_le ?_
  | with_reducible refine er_gt ?_
  | with_reducible refine er_ge ?_
  | with_reducible refine er_isN_non ?_
  | with_reducible refine er_isN_bl ?_
  | with_reducible refine er_isN_int ?_
  | with_reducible refine er_isN_str ?_
  | with_reducible refine er_isN_ref ?_
  | with_reducible refine er_notN_non ?_
  | with_reducible refine er_notN_bl ?_
  | with_reducible refine er_notN_int ?_
  | with_reducible refine er_notN_str ?_
  | with_reducible refine er_notN_ref ?_
  | with_reducible refine er_isN ?_
  | with_reducible refine er_notN ?_
  | with_reducible refine ec_int ?_
  | with_reducible refine ec_intB ?_
  | with_reducible refine ec_max2 ?_
  | with_reducible refine ec_min2 ?_
  | with_reducible refine ip_I ?_
  | ((with_reducible refine eg_name ?_); (try dsimp only [L2.wipe, List.set_cons_zero, List.set_cons_succ]))
  | with_reducible refine eg_sub ?_
  | with_reducible refine egs_cons ?_
  | with_reducible refine egs_nil ?_
  | with_reducible refine tru_bl ?_
  | with_reducible refine tru_int ?_
  | with_reducible refine tru_non ?_
  | with_reducible refine iteT ?_
  | with_reducible refine iteF ?_
  | with_reducible refine ite_nt ?_
  | with_reducible refine ite_nf ?_
  | with_reducible refine ex_bl ?_
  | with_reducible refine ex_int ?_
  | with_reducible refine ex_str ?_
  | with_reducible refine ex_strx ?_
  | with_reducible refine ex_ints1 ?_
  | with_reducible refine ex_ints2 ?_)
local macro_rules | `(tactic| k_extra "t1") => `(tactic| first
  | with_reducible refine es_asg ?_
  | with_reducible refine es_if ?_
  | with_reducible refine es_ret ?_
  | with_reducible refine es_drop ?_
  | with_reducible refine es_augS ?_
  | with_reducible refine es_fld ?_)
local macro_rules | `(tactic| k_extra "e") => `(tactic| first
  | ((with_reducible refine es_seq ?_); (try k_extra "t1"); (repeat k_extra "e1"))
  | (k_extra "t1"; (repeat k_extra "e1"))
  | (k_extra "e1"; (repeat k_extra "e1"))
  | ((with_reducible refine es_unf ?_); (refine es_seq ?_); (try k_extra "t1"); (repeat k_extra "e1")))
/-! ### the reader -/
def rF (p : Addr) (i : Nat) : List (Str × V) := [(Str.ofString "data", .ref p), (Str.ofString "at", .int i)]
theorem nda : ¬ (Str.ofString "data" = Str.ofString "at") := by decide +kernel
theorem nad : ¬ (Str.ofString "at" = Str.ofString "data") := by decide +kernel
theorem rF_data (p : Addr) (i : Nat) : (rF p i).lookup (Str.ofString "data") = some (.ref p) := by simp [rF, List.lookup]
theorem rF_at (p : Addr) (i : Nat) : (rF p i).lookup (Str.ofString "at") = some (.int i) := by
  have : (Str.ofString "at" == Str.ofString "data") = false := beq_false_of_ne nad
  simp [rF, List.lookup, this]
theorem rF_init (p : Addr) : putF (Str.ofString "at") (.int 0) (putF (Str.ofString "data") (.ref p) []) = rF p 0 := by simp [putF, rF, nda]
theorem rF_put (p : Addr) (i j : Nat) : putF (Str.ofString "at") (.int j) (rF p i) = rF p j := by simp [putF, rF, nda]
theorem rF_no {p : Addr} {i : Nat} {m : Str} (h1 : ¬ m = Str.ofString "data") (h2 : ¬ m = Str.ofString "at") : (rF p i).lookup m = none := by
  have a : (m == Str.ofString "data") = false := beq_false_of_ne h1
  have b : (m == Str.ofString "at") = false := beq_false_of_ne h2
  simp [rF, List.lookup, a, b]
def S_Reader_init (K : PySem.W.Frag) (A : Ad) : Pm := fun vs G Q _ => ∃ (x dx pd : Addr) (bs : List Int), vs = [.ref x, .ref pd] ∧ G x = some (.ins A.cReader dx []) ∧ SqL K G pd (bs.map V.int) ∧
  ∀ p, G p = none → Q .non (upd (upd G p (.lst (bs.map V.int))) x (.ins A.cReader dx (rF p 0)))
/-! Reader.__init__ -/
def t_Reader_init (K : PySem.W.Frag) (A : Ad) : TS := tSeq (sFld K (tVar 0) (tCB (rListU K) (tCons (tVar 1) tNil)) "data") (sFld K (tVar 0) (tC (.int 0)) "at")
theorem len_Reader_init {K : PySem.W.Frag} {A : Ad} : ∀ vs G Q E, S_Reader_init K A vs G Q E → vs.length = ["self", "data"].length := by
  rintro vs G Q E ⟨x, dx, pd, bs, rfl, _⟩; rfl
theorem ok_Reader_init {K : PySem.W.Frag} {A : Ad} (C : Cf K A) : ∀ vs G Q E, S_Reader_init K A vs G Q E → Es (t_Reader_init K A) { nx := fun _ G' => Q .non G', rt := Q } (L2.start ["self", "data"] vs) G := by
  rintro vs G Q E ⟨x, dx, pd, bs, rfl, hx, hd, q⟩
  change Es _ _ (_ :: _ :: []) _
  k_extra "e"
  refine ec_list (.inl hd) fun p hp => ?_
  have hxp : x ≠ p := ne_new hx hp
  k_extra "e"
  refine ⟨x, _, dx, _, rfl, get_ne hx hxp, C.cl, C.n1, by decide, ?_⟩
  k_extra "e"
  refine ⟨x, _, dx, _, rfl, upd_same, C.cl, C.n2, by simp [putF], ?_⟩
  rw [rF_init, upd_upd]
  exact q p hp

def rAt (A : Ad) (G : Hp) (x dx p : Addr) (a : Nat) : Hp := upd G x (.ins A.cReader dx (rF p a))
structure Rs (A : Ad) (G : Hp) (x dx p : Addr) (bs : List Int) (a : Nat) : Prop where
  g : G x = some (.ins A.cReader dx (rF p a))
  d : G p = some (.lst (bs.map V.int))
  hl : bs.length ≤ 1000000
section
variable {A : Ad} {G G' G1 : Hp} {x dx p : Addr} {bs : List Int} {a b : Nat}
theorem Rs.ne (h : Rs A G x dx p bs a) : p ≠ x := fun z => by
  have := h.d
  rw [z, h.g] at this; cases this
theorem Rs.to (h : Rs A G x dx p bs a) (b : Nat) : Rs A (rAt A G x dx p b) x dx p bs b := ⟨upd_same, get_ne h.d h.ne, h.hl⟩
theorem Rs.up (h : Rs A G x dx p bs a) (e : Ex G G') : Rs A G' x dx p bs a := ⟨e _ _ h.g, e _ _ h.d, h.hl⟩
theorem Rs.next (h : Rs A G x dx p bs a) (e : Ex (rAt A G x dx p b) G') : Rs A G' x dx p bs b := (h.to b).up e
theorem rAt_at (A : Ad) (G : Hp) (x dx p : Addr) (a b : Nat) : rAt A (rAt A G x dx p a) x dx p b = rAt A G x dx p b := upd_upd
theorem Rs.same (h : Rs A G x dx p bs a) : rAt A G x dx p a = G := by
  funext c
  by_cases hc : c = x
  · subst hc; unfold rAt; rw [upd_same]; exact h.g.symm
  · unfold rAt; rw [upd_ne hc]
theorem ex_at {c : Nat} (e : Ex (rAt A G x dx p b) G1) (e2 : Ex (rAt A G1 x dx p c) G') : Ex (rAt A G x dx p c) G' := by
  have := Ex.put (p := x) (o := .ins A.cReader dx (rF p c)) e
  have t : upd (rAt A G x dx p b) x (.ins A.cReader dx (rF p c)) = rAt A G x dx p c := upd_upd
  rw [t] at this
  exact this.trans e2
theorem tx_at (h : Rs A G x dx p bs a) (e : Ex (rAt A G x dx p b) G') : Tx G G' := (Tx.upd (noTup_ins h.g)).trans e.tx
end
def RdQ {α : Type} (K : PySem.W.Frag) (A : Ad) (R : Hp → V → α → Prop) (f : Rdr α) : Pm := fun vs G Q E => ∃ (x dx p : Addr) (bs : List Int) (a : Nat), vs = [.ref x] ∧ Rs A G x dx p bs a ∧
  (∀ r b v G', f bs a = some (r, b) → Ex (rAt A G x dx p b) G' → R G' v r → Q v G') ∧ (f bs a = none → ∀ b G', Ex (rAt A G x dx p b) G' → E (.ref A.cDamagedPacket) none G')
def RI : Hp → V → Int → Prop := fun _ v n => v = .int n
def RX : Hp → V → Nat → Prop := fun _ v c => v = .str (mkS [c])
def RS : Hp → V → List Nat → Prop := fun _ v l => v = .str (mkS l)
def RM (K : PySem.W.Frag) : Hp → V → Int × Int → Prop := fun G v m => Im K G v (mkD m)
def RD (K : PySem.W.Frag) : Hp → V → Dd → Prop := fun G v d => Im K G v d.data
def RT (K : PySem.W.Frag) : Hp → V → Tri → Prop := fun G v t => Im K G v (triD t)
def RTs (K : PySem.W.Frag) : Hp → V → List Tri → Prop := fun G v ts => ∃ l xs, v = .ref l ∧ G l = some (.lst xs) ∧ Ims K G xs (ts.map triD)
theorem lenQ {α : Type} {K : PySem.W.Frag} {A : Ad} {R : Hp → V → α → Prop} {f : Rdr α} : ∀ vs G Q E, RdQ K A R f vs G Q E → vs.length = ["self"].length := by
  rintro vs G Q E ⟨x, dx, p, bs, a, rfl, _⟩; rfl
theorem monQ {α : Type} {K : PySem.W.Frag} {A : Ad} {R : Hp → V → α → Prop} {f : Rdr α} : ∀ vs G Q E E', RdQ K A R f vs G Q E → (∀ c d G', E c d G' → E' c d G') → RdQ K A R f vs G Q E' := by
  rintro vs G Q E E' ⟨x, dx, p, bs, a, h1, h2, h3, h4⟩ m
  exact ⟨x, dx, p, bs, a, h1, h2, h3, fun z b G' e => m _ _ _ (h4 z b G' e)⟩
/-- a method of the reader is called -/
theorem ee_rd {α : Type} {K : PySem.W.Frag} {A : Ad} {R : Hp → V → α → Prop} {f : Rdr α} {m : Str} {E : XK} {σ : L2.St} {G : Hp} {Q : V → Hp → Prop} {x dx p : Addr} {bs : List Int} {a i : Nat} (hi : σ[i]? = some (some (.ref x))) (hr : Rs A G x dx p bs a) (h1 : ¬ m = Str.ofString "data") (h2 : ¬ m = Str.ofString "at")
    (q : ∀ r b v G', f bs a = some (r, b) → Ex (rAt A G x dx p b) G' → R G' v r → Q v G') (e : f bs a = none → ∀ b G', Ex (rAt A G x dx p b) G' → dn E (.ref A.cDamagedPacket) none G') :
    Ee (tMeth A.cReader m (up (RdQ K A R f)) [] E (tVar i) tNil) σ G Q :=
  ee_meth (ee_var hi ⟨x, dx, _, rfl, hr.g, rF_no h1 h2, ea_nil ⟨x, dx, p, bs, a, rfl, hr, q, e⟩⟩)
def S_Reader_read_byte (K : PySem.W.Frag) (A : Ad) : Pm := RdQ K A RI rdB
/-! Reader.read_byte -/
def t_Reader_read_byte_1 (K : PySem.W.Frag) (A : Ad) (E : XK) : TS := tSeq (sFldAug K (tVar 0) (tC (.int 1)) (ipI fun i j => i + j) "at") (tRet (tOp (rIx K) (tFld K (tVar 0) "data") (tOp (rSubI) (tFld K (tVar 0) "at") (tC (.int 1)))))
def t_Reader_read_byte (K : PySem.W.Frag) (A : Ad) (E : XK) : TS := tSeq (tIfS (tTest (tOp (rGeI) (tFld K (tVar 0) "at") (tCB (rLenU K) (tCons (tFld K (tVar 0) "data") tNil)))) (tRz A.cDamagedPacket E) tNext) (t_Reader_read_byte_1 K A E)
theorem len_Reader_read_byte {K : PySem.W.Frag} {A : Ad} : ∀ vs G Q E, S_Reader_read_byte K A vs G Q E → vs.length = ["self"].length := lenQ
theorem mon_Reader_read_byte {K : PySem.W.Frag} {A : Ad} : ∀ vs G Q E E', S_Reader_read_byte K A vs G Q E → (∀ c d G', E c d G' → E' c d G') → S_Reader_read_byte K A vs G Q E' := monQ
theorem ok_Reader_read_byte {K : PySem.W.Frag} {A : Ad} (C : Cf K A) : ∀ vs G Q E, S_Reader_read_byte K A vs G Q (dn E) → Es (t_Reader_read_byte K A E) { nx := fun _ G' => Q .non G', rt := Q } (L2.start ["self"] vs) G := by
  rintro vs G Q E ⟨x, dx, p, bs, i, rfl, hr, hq, he⟩
  change Es _ _ (_ :: []) _
  have hxp := hr.ne
  k_extra "e"
  refine ee_fld ?_
  k_extra "e"
  refine ⟨x, _, dx, _, _, rfl, hr.g, C.cl, C.n2, rF_at _ _, ?_⟩
  k_extra "e"
  refine ee_fld ?_
  k_extra "e"
  refine ⟨x, _, dx, _, _, rfl, hr.g, C.cl, C.n1, rF_data _ _, ?_⟩
  k_extra "e"
  refine ec_lenL (SqL.of hr.d) fun _ => ?_
  k_extra "e"
  rw [List.length_map]
  refine ifd (fun h => ?_) (fun h => ?_)
  · refine es_rz (he ?_ i _ (by rw [hr.same]; exact Ex.refl _))
    unfold rdB
    rw [List.getElem?_eq_none (by omega)]; rfl
  · k_extra "e"
    have hi : i < bs.length := by omega
    refine es_seq (es_fldaug ?_)
    k_extra "e"
    refine ⟨x, _, dx, _, _, rfl, hr.g, C.cl, C.n2, rF_at _ _, ?_⟩
    k_extra "e"
    refine ⟨dx, _, hr.g, by simp [rF], ?_⟩
    have e1 : ((i : Int) + 1) = ((i + 1 : Nat) : Int) := rfl
    rw [e1, rF_put]
    k_extra "e"
    refine ee_fld ?_
    k_extra "e"
    refine ⟨x, _, dx, _, _, rfl, upd_same, C.cl, C.n1, rF_data _ _, ?_⟩
    k_extra "e"
    refine ee_fld ?_
    k_extra "e"
    refine ⟨x, _, dx, _, _, rfl, upd_same, C.cl, C.n2, rF_at _ _, ?_⟩
    k_extra "e"
    have e2 : (((i + 1 : Nat) : Int) - 1) = (i : Nat) := by omega
    rw [e2]
    refine er_ixL (SqL.of (get_ne hr.d hxp)) (atI_nat (j := i) (by rw [List.getElem?_map, List.getElem?_eq_getElem hi]; rfl)) ?_
    exact hq bs[i] (i + 1) _ _ (by unfold rdB; rw [List.getElem?_eq_getElem hi]; rfl) (Ex.refl _) rfl
def S_Reader_read_choice (K : PySem.W.Frag) (A : Ad) : Pm := fun vs G Q E => ∃ (x dx p : Addr) (bs : List Int) (a : Nat) (n : Int), vs = [.ref x, .int n] ∧ Rs A G x dx p bs a ∧
  (∀ r b v G', rdCh n bs a = some (r, b) → Ex (rAt A G x dx p b) G' → RI G' v r → Q v G') ∧ (rdCh n bs a = none → ∀ b G', Ex (rAt A G x dx p b) G' → E (.ref A.cDamagedPacket) none G')
/-! Reader.read_choice -/
def t_Reader_read_choice_1 (K : PySem.W.Frag) (A : Ad) (E : XK) : TS := tSeq (tIfS (tTest (tOp (rGeI) (tVar 2) (tVar 1))) (tRz A.cDamagedPacket E) tNext) (tRet (tVar 2))
def t_Reader_read_choice (K : PySem.W.Frag) (A : Ad) (E : XK) : TS := tSeq (tAsg (tMeth A.cReader "read_byte" (up (S_Reader_read_byte K A)) [] E (tVar 0) tNil) (gName 2)) (t_Reader_read_choice_1 K A E)
theorem len_Reader_read_choice {K : PySem.W.Frag} {A : Ad} : ∀ vs G Q E, S_Reader_read_choice K A vs G Q E → vs.length = ["self", "count"].length := by
  rintro vs G Q E ⟨x, dx, p, bs, a, n, rfl, _⟩; rfl
theorem mon_Reader_read_choice {K : PySem.W.Frag} {A : Ad} : ∀ vs G Q E E', S_Reader_read_choice K A vs G Q E → (∀ c d G', E c d G' → E' c d G') → S_Reader_read_choice K A vs G Q E' := by
  rintro vs G Q E E' ⟨x, dx, p, bs, a, n, h1, h2, h3, h4⟩ m
  exact ⟨x, dx, p, bs, a, n, h1, h2, h3, fun z b G' e => m _ _ _ (h4 z b G' e)⟩
theorem ok_Reader_read_choice {K : PySem.W.Frag} {A : Ad} (C : Cf K A) : ∀ vs G Q E, S_Reader_read_choice K A vs G Q (dn E) → Es (t_Reader_read_choice K A E) { nx := fun _ G' => Q .non G', rt := Q } (L2.start ["self", "count", "byte"] vs) G := by
  rintro vs G Q E ⟨x, dx, p, bs, a, n, rfl, hr, hq, he⟩
  change Es _ _ (_ :: _ :: _ :: []) _
  k_extra "e"
  refine ee_rd rfl hr (by decide +kernel) (by decide +kernel) (fun r b v G' h e hv => ?_) (fun h b G' e => ?_)
  · cases hv
    have e0 : rdCh n bs a = if n ≤ r then none else some (r, b) := by unfold rdCh; rw [h]
    k_extra "e"
    k_extra "e"
    refine ifd (fun hn => ?_) (fun hn => ?_)
    · exact es_rz (he (by rw [e0, if_pos hn]) _ _ e)
    · k_extra "e"
      k_extra "e"
      exact hq r b _ _ (by rw [e0, if_neg hn]) e rfl
  · exact he (by unfold rdCh; rw [h]) _ _ e
end Lw

namespace Lw
open PySem PySem.Spec PyProof.Rows L2
local macro_rules | `(tactic| k_extra "x1") => `(tactic| first
  | with_reducible refine es_seq ?_
  | with_reducible refine es_asg ?_
  | with_reducible refine es_if ?_
  | with_reducible refine es_ret ?_
  | with_reducible refine es_drop ?_
  | with_reducible refine es_next ?_
  | with_reducible refine es_augS ?_
  | with_reducible refine es_fld ?_
  | ((with_reducible show Ee (tVar _) _ _ _); refine ee_var rfl ?_)
  | with_reducible refine ee_c ?_
  | with_reducible refine ee_op ?_
  | with_reducible refine ee_un ?_
  | with_reducible refine eu_neg ?_
  | with_reducible refine ee_cb ?_
  | with_reducible refine ee_call ?_
  | with_reducible refine ea_nil ?_
  | with_reducible refine ea_cons ?_
  | with_reducible refine ee_sl ?_
  | with_reducible refine eo_no ?_
  | with_reducible refine eo_part ?_
  | with_reducible refine ee_tup ?_
  | with_reducible refine ee_lst ?_
  | with_reducible refine et_test ?_
  | with_reducible refine et_tB ?_
  | with_reducible refine et_tru ?_
  | with_reducible refine et_and ?_
  | with_reducible refine et_or ?_
  | with_reducible refine et_not ?_
  | with_reducible refine ee_and ?_
  | with_reducible refine ee_or ?_
  | with_reducible refine ee_not ?_
  | with_reducible refine ee_if ?_
  | with_reducible refine ee_chain ?_
  | with_reducible refine er_addI ?_
  | with_reducible refine er_subI ?_
  | with_reducible refine er_eqI ?_
  | with_reducible refine er_neI ?_
  | with_reducible refine er_eqNI ?_
  | with_reducible refine er_eqS ?_
  | with_reducible refine er_neS ?_
  | with_reducible refine er_eqB ?_
  | with_reducible refine er_neB ?_
  | with_reducible refine er_lt ?_
  | with_reducible refine er_le ?_
  | with_reducible refine er_gt ?_
  | with_reducible refine er_ge ?_
  | with_reducible refine er_isN_non ?_
  | with_reducible refine er_isN_bl ?_
  | with_reducible refine er_isN_int ?_
  | with_reducible refine er_isN_str ?_
  | with_reducible refine er_isN_ref ?_
  | with_reducible refine er_notN_non ?_
  | with_reducible refine er_notN_bl ?_
  | with_reducible refine er_notN_int ?_
  | with_reducible refine er_notN_str ?_
  | with_reducible refine er_notN_ref ?_
  | with_reducible refine er_isN ?_
  | with_reducible refine er_notN ?_
  | with_reducible refine ec_int ?_
  | with_reducible refine ec_intB ?_
  | with_reducible refine ec_max2 ?_
  | with_reducible refine ec_min2 ?_
  | with_reducible refine ip_I ?_
  | ((with_reducible refine eg_name ?_); (try dsimp only [L2.wipe, List.set_cons_zero, List.set_cons_succ]))
  | with_reducible refine eg_sub ?_
  | with_reducible refine egs_cons ?_
  | with_reducible refine egs_nil ?_
  | with_reducible refine tru_bl ?_
  | with_reducible refine tru_int ?_
  | with_reducible refine tru_non ?_
  | with_reducible refine iteT ?_
  | with_reducible refine iteF ?_
  | with_reducible refine ite_nt ?_
  | with_reducible refine ite_nf ?_
  | with_reducible refine ⟨_, rfl, ?_⟩)
local macro_rules | `(tactic| k_extra "s") => `(tactic| ((first | k_extra "x1" | ((with_reducible refine es_unf ?_); refine es_seq ?_)); (repeat k_extra "x1")))
local macro_rules | `(tactic| k_extra "x") => `(tactic| (repeat first | k_extra "x1" | ((with_reducible refine es_unf ?_); refine es_seq ?_)))
local macro_rules | `(tactic| k_extra "start") => `(tactic| dsimp only [L2.start, List.map_cons, List.map_nil, List.length_cons, List.length_nil, Nat.reduceAdd, Nat.reduceSub, List.replicate, List.cons_append, List.nil_append, Nat.zero_add])
local macro_rules | `(tactic| k_extra "e1") => `(tactic| first
  | with_reducible refine es_next ?_
  | ((with_reducible show Ee (tVar _) _ _ _); refine ee_var rfl ?_)
  | with_reducible refine ee_c ?_
  | with_reducible refine ee_op ?_
  | with_reducible refine ee_un ?_
  | with_reducible refine eu_neg ?_
  | with_reducible refine ee_cb ?_
  | with_reducible refine ee_call ?_
  | with_reducible refine ea_nil ?_
  | with_reducible refine ea_cons ?_
  | with_reducible refine ee_sl ?_
  | with_reducible refine eo_no ?_
  | with_reducible refine eo_part ?_
  | with_reducible refine ee_tup ?_
  | with_reducible refine ee_lst ?_
  | with_reducible refine et_test ?_
  | with_reducible refine et_tB ?_
  | with_reducible refine et_tru ?_
  | with_reducible refine et_and ?_
  | with_reducible refine et_or ?_
  | with_reducible refine et_not ?_
  | with_reducible refine ee_and ?_
  | with_reducible refine ee_or ?_
  | with_reducible refine ee_not ?_
  | with_reducible refine ee_if ?_
  | with_reducible refine ee_chain ?_
  | with_reducible refine er_addI ?_
  | with_reducible refine er_subI ?_
  | with_reducible refine er_eqI ?_
  | with_reducible refine er_neI ?_
  | with_reducible refine er_eqNI ?_
  | with_reducible refine er_eqS ?_
  | with_reducible refine er_neS ?_
  | with_reducible refine er_eqB ?_
  | with_reducible refine er_neB ?_
  | with_reducible refine er_lt ?_
  | with_reducible refine er_le ?_
  | with_reducible refine er_gt ?_
  | with_reducible refine er_ge ?_
  | with_reducible refine er_isN_non ?_
  | with_reducible refine er_isN_bl ?_
  | with_reducible refine er_isN_int ?_
  | with_reducible refine er_isN_str ?_
  | with_reducible refine er_isN_ref ?_
  | with_reducible refine er_notN_non ?_
  | with_reducible refine er_notN_bl ?_
  | with_reducible refine er_notN_int ?_
  | with_reducible refine er_notN_str ?_
  | with_reducible refine er_notN_ref ?_
  | with_reducible refine er_isN ?_
  | with_reducible refine er_notN ?_
  | with_reducible refine ec_int ?_
  | with_reducible refine ec_intB ?_
  | with_reducible refine ec_max2 ?_
  | with_reducible refine ec_min2 ?_
  | with_reducible refine ip_I ?_
  | ((with_reducible refine eg_name ?_); (try dsimp only [L2.wipe, List.set_cons_zero, List.set_cons_succ]))
  | with_reducible refine eg_sub ?_
  | with_reducible refine egs_cons ?_
  | with_reducible refine egs_nil ?_
  | with_reducible refine tru_bl ?_
  | with_reducible refine tru_int ?_
  | with_reducible refine tru_non ?_
  | with_reducible refine iteT ?_
  | with_reducible refine iteF ?_
  | with_reducible refine ite_nt ?_
  | with_reducible refine ite_nf ?_
  | with_reducible refine ex_bl ?_
  | with_reducible refine ex_int ?_
  | with_reducible refine ex_str ?_
  | with_reducible refine ex_strx ?_
  | with_reducible refine ex_ints1 ?_
  | with_reducible refine ex_ints2 ?_)
local macro_rules | `(tactic| k_extra "t1") => `(tactic| first
  | with_reducible refine es_asg ?_
  | with_reducible refine es_if ?_
  | with_reducible refine es_ret ?_
  | with_reducible refine es_drop ?_
  | with_reducible refine es_augS ?_
  | with_reducible refine es_fld ?_)
local macro_rules | `(tactic| k_extra "e") => `(tactic| first
  | ((with_reducible refine es_seq ?_); (try k_extra "t1"); (repeat k_extra "e1"))
  | (k_extra "t1"; (repeat k_extra "e1"))
  | (k_extra "e1"; (repeat k_extra "e1"))
  | ((with_reducible refine es_unf ?_); (refine es_seq ?_); (try k_extra "t1"); (repeat k_extra "e1")))
def S_Reader_end (K : PySem.W.Frag) (A : Ad) : Pm := fun vs G Q E => ∃ (x dx p : Addr) (bs : List Int) (a : Nat), vs = [.ref x] ∧ Rs A G x dx p bs a ∧ (bs.length ≤ a → Q .non G) ∧ (a < bs.length → E (.ref A.cDamagedPacket) none G)
/-! Reader.end -/
def t_Reader_end (K : PySem.W.Frag) (A : Ad) (E : XK) : TS := (tIfS (tTest (tOp (rLtU K) (tFld K (tVar 0) "at") (tCB (rLenU K) (tCons (tFld K (tVar 0) "data") tNil)))) (tRz A.cDamagedPacket E) tNext)
theorem len_Reader_end {K : PySem.W.Frag} {A : Ad} : ∀ vs G Q E, S_Reader_end K A vs G Q E → vs.length = ["self"].length := by
  rintro vs G Q E ⟨x, dx, p, bs, a, rfl, _⟩; rfl
theorem mon_Reader_end {K : PySem.W.Frag} {A : Ad} : ∀ vs G Q E E', S_Reader_end K A vs G Q E → (∀ c d G', E c d G' → E' c d G') → S_Reader_end K A vs G Q E' := by
  rintro vs G Q E E' ⟨x, dx, p, bs, a, h1, h2, h3, h4⟩ m
  exact ⟨x, dx, p, bs, a, h1, h2, h3, fun z => m _ _ _ (h4 z)⟩
theorem ok_Reader_end {K : PySem.W.Frag} {A : Ad} (C : Cf K A) : ∀ vs G Q E, S_Reader_end K A vs G Q (dn E) → Es (t_Reader_end K A E) { nx := fun _ G' => Q .non G', rt := Q } (L2.start ["self"] vs) G := by
  rintro vs G Q E ⟨x, dx, p, bs, i, rfl, hr, hq, he⟩
  change Es _ _ (_ :: []) _
  refine es_if ?_
  k_extra "e"
  refine ee_fld ?_
  k_extra "e"
  refine ⟨x, _, dx, _, _, rfl, hr.g, C.cl, C.n2, rF_at _ _, ?_⟩
  k_extra "e"
  refine ee_fld ?_
  k_extra "e"
  refine ⟨x, _, dx, _, _, rfl, hr.g, C.cl, C.n1, rF_data _ _, ?_⟩
  k_extra "e"
  refine ec_lenL (SqL.of hr.d) fun _ => ?_
  k_extra "e"
  rw [List.length_map]
  refine ifd (fun h => ?_) (fun h => ?_)
  · exact es_rz (he (by omega))
  · refine es_next ?_
    exact hq (by omega)
def S_Reader_read_number (K : PySem.W.Frag) (A : Ad) : Pm := RdQ K A RI rdN
/-! Reader.read_number -/
def t_Reader_read_number_1 (K : PySem.W.Frag) (A : Ad) (E : XK) : TS := tSeq (tIfS (tAnd (tTest (tOp (rEqU K) (tVar 4) (tC (.int 0)))) (tTest (tOp (rGtI) (tVar 3) (tC (.int 0))))) (tRz A.cDamagedPacket E) tNext) (tRet (tVar 1))
def t_Reader_read_number_2 (K : PySem.W.Frag) (A : Ad) (E : XK) : TS := tSeq (tIfS (tTest (tOp (rLtU K) (tVar 4) (tC (.int 128)))) (t_Reader_read_number_1 K A E) tNext) (tAsg (tOp (rMulU) (tVar 2) (tC (.int 128))) (gName 2))
def t_Reader_read_number_3 (K : PySem.W.Frag) (A : Ad) (E : XK) : TS := tSeq (tAug 1 (tOp (rMulU) (tOp (rModU) (tVar 4) (tC (.int 128))) (tVar 2)) (ipI fun i j => i + j)) (t_Reader_read_number_2 K A E)
def t_Reader_read_number_4 (K : PySem.W.Frag) (A : Ad) (E : XK) : TS := tSeq (tAsg (tMeth A.cReader "read_byte" (up (S_Reader_read_byte K A)) [] E (tVar 0) tNil) (gName 4)) (t_Reader_read_number_3 K A E)
def t_Reader_read_number_5 (K : PySem.W.Frag) (A : Ad) (E : XK) : TS := tSeq (tFor (iRng1 (tCons (tC (.int 60)) tNil)) (gName 3) (t_Reader_read_number_4 K A E)) (tRz A.cDamagedPacket E)
def t_Reader_read_number_6 (K : PySem.W.Frag) (A : Ad) (E : XK) : TS := tSeq (tAsg (tC (.int 1)) (gName 2)) (t_Reader_read_number_5 K A E)
def t_Reader_read_number (K : PySem.W.Frag) (A : Ad) (E : XK) : TS := tSeq (tAsg (tC (.int 0)) (gName 1)) (t_Reader_read_number_6 K A E)
theorem len_Reader_read_number {K : PySem.W.Frag} {A : Ad} : ∀ vs G Q E, S_Reader_read_number K A vs G Q E → vs.length = ["self"].length := lenQ
theorem mon_Reader_read_number {K : PySem.W.Frag} {A : Ad} : ∀ vs G Q E E', S_Reader_read_number K A vs G Q E → (∀ c d G', E c d G' → E' c d G') → S_Reader_read_number K A vs G Q E' := monQ
theorem rdG_cons (t f : Int) (i n : Nat) (b : Int) (r : List Int) : rdG t f i (n + 1) (b :: r) = if b < 128 then (if b = 0 ∧ 0 < i then none else some (t + b % 128 * f, i + 1)) else rdG (t + b % 128 * f) (f * 128) (i + 1) n r := rfl
theorem ok_Reader_read_number {K : PySem.W.Frag} {A : Ad} (C : Cf K A) : ∀ vs G Q E, S_Reader_read_number K A vs G Q (dn E) → Es (t_Reader_read_number K A E) { nx := fun _ G' => Q .non G', rt := Q } (L2.start ["self", "total", "factor", "index", "byte"] vs) G := by
  rintro vs G Q E ⟨x, dx, p, bs, a, rfl, hr, hq, he⟩
  change Es _ _ (_ :: _ :: _ :: _ :: _ :: []) _
  have fail : ∀ {b : Nat} {G' : Hp}, rdG 0 1 0 60 (bs.drop a) = none → Ex (rAt A G x dx p b) G' → dn E (.ref A.cDamagedPacket) none G' := fun {b G'} h e => he (by unfold rdN; rw [h]; rfl) b G' e
  have good : ∀ {n : Int} {k : Nat} {G' : Hp}, rdG 0 1 0 60 (bs.drop a) = some (n, k) → Ex (rAt A G x dx p (a + k)) G' → Q (.int n) G' := fun {n k G'} h e => hq n (a + k) _ G' (by unfold rdN; rw [h]; rfl) e rfl
  k_extra "e"
  k_extra "e"
  k_extra "e"
  refine es_forR1 ?_
  k_extra "e"
  refine ⟨by omega, fun i σ G' => ∃ (t f : Int) (c3 c4 : Option V), σ = [some (.ref x), some (.int t), some (.int f), c3, c4] ∧ Ex (rAt A G x dx p (a + i)) G' ∧ rdG t f i (60 - i) (bs.drop (a + i)) = rdG 0 1 0 60 (bs.drop a), ⟨0, 1, _, _, rfl, ?_, rfl⟩, ?_, ?_⟩
  · rw [Nat.add_zero, hr.same]; exact Ex.refl _
  · rintro i σ G' hi ⟨t, f, c3, c4, rfl, e, hg⟩
    have hi60 : i < 60 := by omega
    have e60 : 60 - i = (60 - (i + 1)) + 1 := by omega
    rw [e60] at hg
    k_extra "e"
    refine ee_rd rfl (hr.next e) (by decide +kernel) (by decide +kernel) (fun b b' v G1 h e1 hv => ?_) (fun h b G1 e1 => ?_)
    · cases hv
      unfold rdB at h
      obtain ⟨y, hy, h'⟩ := Option.map_eq_some_iff.mp h
      obtain ⟨rfl, rfl⟩ := Prod.mk.inj h'
      have hd : bs.drop (a + i) = y :: bs.drop (a + (i + 1)) := by
        rw [List.drop_eq_getElem_cons (List.getElem?_eq_some_iff.mp hy).1]
        congr 1
        exact (List.getElem?_eq_some_iff.mp hy).2
      have e2 := ex_at e e1
      rw [hd, rdG_cons] at hg
      k_extra "e"
      refine es_seq (es_aug rfl ?_)
      k_extra "e"
      refine er_mod (by decide) ?_
      k_extra "e"
      refine er_mulL (by omega) ?_
      k_extra "e"
      k_extra "e"
      refine ifd (fun h128 => ?_) (fun h128 => ?_)
      · rw [if_pos h128] at hg
        k_extra "e"
        refine ifd (fun h0 => ?_) (fun h0 => ?_)
        · k_extra "e"
          refine ifd (fun h1 => ?_) (fun h1 => ?_)
          · rw [if_pos ⟨h0, by omega⟩] at hg
            exact es_rz (fail hg.symm e2)
          · rw [if_neg (fun z => h1 (by omega))] at hg
            refine es_next ?_
            k_extra "e"
            exact good hg.symm e2
        · rw [if_neg (fun z => h0 z.1)] at hg
          k_extra "e"
          k_extra "e"
          exact good hg.symm e2
      · rw [if_neg h128] at hg
        k_extra "e"
        k_extra "e"
        refine er_mulR (by decide) ?_
        k_extra "e"
        exact ⟨_, _, _, _, rfl, e2, hg⟩
    · unfold rdB at h
      have hl : bs.length ≤ a + i := by
        rcases Nat.lt_or_ge (a + i) bs.length with z | z
        · rw [List.getElem?_eq_getElem z] at h; cases h
        · exact z
      have hd : bs.drop (a + i) = [] := List.drop_of_length_le hl
      rw [hd] at hg
      exact fail hg.symm (ex_at e e1)
  · rintro σ G' ⟨t, f, c3, c4, rfl, e, hg⟩
    exact es_rz (fail hg.symm e)
def S_Reader_read_count (K : PySem.W.Frag) (A : Ad) : Pm := RdQ K A RI rdC
/-! Reader.read_count -/
def t_Reader_read_count_1 (K : PySem.W.Frag) (A : Ad) (E : XK) : TS := tSeq (tIfS (tTest (tOp (rGtI) (tVar 1) (tOp (rSubI) (tCB (rLenU K) (tCons (tFld K (tVar 0) "data") tNil)) (tFld K (tVar 0) "at")))) (tRz A.cDamagedPacket E) tNext) (tRet (tVar 1))
def t_Reader_read_count (K : PySem.W.Frag) (A : Ad) (E : XK) : TS := tSeq (tAsg (tMeth A.cReader "read_number" (up (S_Reader_read_number K A)) [] E (tVar 0) tNil) (gName 1)) (t_Reader_read_count_1 K A E)
theorem len_Reader_read_count {K : PySem.W.Frag} {A : Ad} : ∀ vs G Q E, S_Reader_read_count K A vs G Q E → vs.length = ["self"].length := lenQ
theorem mon_Reader_read_count {K : PySem.W.Frag} {A : Ad} : ∀ vs G Q E E', S_Reader_read_count K A vs G Q E → (∀ c d G', E c d G' → E' c d G') → S_Reader_read_count K A vs G Q E' := monQ
theorem ok_Reader_read_count {K : PySem.W.Frag} {A : Ad} (C : Cf K A) : ∀ vs G Q E, S_Reader_read_count K A vs G Q (dn E) → Es (t_Reader_read_count K A E) { nx := fun _ G' => Q .non G', rt := Q } (L2.start ["self", "count"] vs) G := by
  rintro vs G Q E ⟨x, dx, p, bs, a, rfl, hr, hq, he⟩
  change Es _ _ (_ :: _ :: []) _
  k_extra "e"
  refine ee_rd rfl hr (by decide +kernel) (by decide +kernel) (fun r b v G' h e hv => ?_) (fun h b G' e => ?_)
  · cases hv
    have e0 : rdC bs a = if (bs.length : Int) - (b : Int) < r then none else some (r, b) := by unfold rdC; rw [h]
    have hr1 := hr.next e
    k_extra "e"
    k_extra "e"
    refine ee_fld ?_
    k_extra "e"
    refine ⟨x, _, dx, _, _, rfl, hr1.g, C.cl, C.n1, rF_data _ _, ?_⟩
    k_extra "e"
    refine ec_lenL (SqL.of hr1.d) fun _ => ?_
    rw [List.length_map]
    refine ee_fld ?_
    k_extra "e"
    refine ⟨x, _, dx, _, _, rfl, hr1.g, C.cl, C.n2, rF_at _ _, ?_⟩
    k_extra "e"
    refine ifd (fun hn => ?_) (fun hn => ?_)
    · exact es_rz (he (by rw [e0, if_pos hn]) _ _ e)
    · k_extra "e"
      k_extra "e"
      exact hq r b _ _ (by rw [e0, if_neg hn]) e rfl
  · exact he (by unfold rdC; rw [h]) _ _ e
theorem before_at : ∀ i : Nat, i < 5 → ((" !\"#$" : Str)).cps.toList[i]? = some (32 + i) := by decide +kernel
theorem after_at : ∀ i : Nat, i < 89 → (("&'()*+,-./0123456789:;<=>?@ABCDEFGHIJKLMNOPQRSTUVWXYZ[\\]^_`abcdefghijklmnopqrstuvwxyz{|}~" : Str)).cps.toList[i]? = some (38 + i) := by decide +kernel
def S_Reader_read_character (K : PySem.W.Frag) (A : Ad) : Pm := RdQ K A RX rdX
/-! Reader.read_character -/
def t_Reader_read_character_1 (K : PySem.W.Frag) (A : Ad) (E : XK) : TS := tSeq (tIfS (tTest (tChain (rLeI) (rLtU K) (tC (.int 38)) (tVar 1) (tC (.int 127)))) (tRet (tOp (rIx K) (tC (.str "&'()*+,-./0123456789:;<=>?@ABCDEFGHIJKLMNOPQRSTUVWXYZ[\\]^_`abcdefghijklmnopqrstuvwxyz{|}~")) (tOp (rSubI) (tVar 1) (tC (.int 38))))) tNext) (tRz A.cDamagedPacket E)
def t_Reader_read_character_2 (K : PySem.W.Frag) (A : Ad) (E : XK) : TS := tSeq (tIfS (tTest (tChain (rLeI) (rLtU K) (tC (.int 32)) (tVar 1) (tC (.int 37)))) (tRet (tOp (rIx K) (tC (.str " !\"#$")) (tOp (rSubI) (tVar 1) (tC (.int 32))))) tNext) (t_Reader_read_character_1 K A E)
def t_Reader_read_character_3 (K : PySem.W.Frag) (A : Ad) (E : XK) : TS := tSeq (tIfS (tTest (tOp (rEqU K) (tVar 1) (tC (.int 10)))) (tRet (tC (.str "\n"))) tNext) (t_Reader_read_character_2 K A E)
def t_Reader_read_character (K : PySem.W.Frag) (A : Ad) (E : XK) : TS := tSeq (tAsg (tMeth A.cReader "read_number" (up (S_Reader_read_number K A)) [] E (tVar 0) tNil) (gName 1)) (t_Reader_read_character_3 K A E)
theorem len_Reader_read_character {K : PySem.W.Frag} {A : Ad} : ∀ vs G Q E, S_Reader_read_character K A vs G Q E → vs.length = ["self"].length := lenQ
theorem mon_Reader_read_character {K : PySem.W.Frag} {A : Ad} : ∀ vs G Q E E', S_Reader_read_character K A vs G Q E → (∀ c d G', E c d G' → E' c d G') → S_Reader_read_character K A vs G Q E' := monQ
theorem ok_Reader_read_character {K : PySem.W.Frag} {A : Ad} (C : Cf K A) : ∀ vs G Q E, S_Reader_read_character K A vs G Q (dn E) → Es (t_Reader_read_character K A E) { nx := fun _ G' => Q .non G', rt := Q } (L2.start ["self", "code"] vs) G := by
  rintro vs G Q E ⟨x, dx, p, bs, a, rfl, hr, hq, he⟩
  change Es _ _ (_ :: _ :: []) _
  k_extra "e"
  refine ee_rd rfl hr (by decide +kernel) (by decide +kernel) (fun r b v G' h e hv => ?_) (fun h b G' e => ?_)
  · cases hv
    have e0 : rdX bs a = (sign r).map fun x => (x, b) := by unfold rdX; rw [h]
    have fin : ∀ c : Nat, sign r = some c → Q (.str (mkS [c])) G' := fun c hc => hq c b _ G' (by rw [e0, hc]; rfl) e rfl
    have bad : sign r = none → dn E (.ref A.cDamagedPacket) none G' := fun hc => he (by rw [e0, hc]; rfl) b G' e
    unfold sign at fin bad
    k_extra "e"
    k_extra "e"
    refine ifd (fun h10 => ?_) (fun h10 => ?_)
    · k_extra "e"
      exact fin 10 (by rw [if_pos h10])
    rw [if_neg h10] at fin bad
    k_extra "e"
    k_extra "e"
    have tail : (¬ (32 ≤ r ∧ r < 37)) → Es (t_Reader_read_character_1 K A E) { nx := fun _ G' => Q .non G', rt := Q } [some (.ref x), some (.int r)] G' := fun hn => by
      rw [if_neg hn] at fin bad
      k_extra "e"
      refine ifd (fun h38 => ?_) (fun h38 => ?_)
      · k_extra "e"
        refine ifd (fun h127 => ?_) (fun h127 => ?_)
        · k_extra "e"
          have e1 : r - 38 = ((r - 38).toNat : Nat) := by omega
          rw [e1]
          refine er_ixS (by decide) (atI_nat (after_at (r - 38).toNat (by omega))) ?_
          have e2 : 38 + (r - 38).toNat = r.toNat := by omega
          rw [e2]
          exact fin r.toNat (by rw [if_pos ⟨h38, h127⟩])
        · refine es_next ?_
          exact es_rz (bad (if_neg fun z => h127 z.2))
      · k_extra "e"
        exact es_rz (bad (if_neg fun z => h38 z.1))
    refine ifd (fun h32 => ?_) (fun h32 => ?_)
    · k_extra "e"
      refine ifd (fun h37 => ?_) (fun h37 => ?_)
      · k_extra "e"
        have e1 : r - 32 = ((r - 32).toNat : Nat) := by omega
        rw [e1]
        refine er_ixS (by decide) (atI_nat (before_at (r - 32).toNat (by omega))) ?_
        have e2 : 32 + (r - 32).toNat = r.toNat := by omega
        rw [e2]
        exact fin r.toNat (by rw [if_pos ⟨h32, h37⟩])
      · refine es_next ?_
        exact tail fun z => h37 z.2
    · k_extra "e"
      exact tail fun z => h32 z.1
  · exact he (by unfold rdX; rw [h]) _ _ e
end Lw

namespace Lw
open PySem PySem.Spec PyProof.Rows L2
local macro_rules | `(tactic| k_extra "x1") => `(tactic| first
  | with_reducible refine es_seq ?_
  | with_reducible refine es_asg ?_
  | with_reducible refine es_if ?_
  | with_reducible refine es_ret ?_
  | with_reducible refine es_drop ?_
  | with_reducible refine es_next ?_
  | with_reducible refine es_augS ?_
  | with_reducible refine es_fld ?_
  | ((with_reducible show Ee (tVar _) _ _ _); refine ee_var rfl ?_)
  | with_reducible refine ee_c ?_
  | with_reducible refine ee_op ?_
  | with_reducible refine ee_un ?_
  | with_reducible refine eu_neg ?_
  | with_reducible refine ee_cb ?_
  | with_reducible refine ee_call ?_
  | with_reducible refine ea_nil ?_
  | with_reducible refine ea_cons ?_
  | with_reducible refine ee_sl ?_
  | with_reducible refine eo_no ?_
  | with_reducible refine eo_part ?_
  | with_reducible refine ee_tup ?_
  | with_reducible refine ee_lst ?_
  | with_reducible refine et_test ?_
  | with_reducible refine et_tB ?_
  | with_reducible refine et_tru ?_
  | with_reducible refine et_and ?_
  | with_reducible refine et_or ?_
  | with_reducible refine et_not ?_
  | with_reducible refine ee_and ?_
  | with_reducible refine ee_or ?_
  | with_reducible refine ee_not ?_
  | with_reducible refine ee_if ?_
  | with_reducible refine ee_chain ?_
  | with_reducible refine er_addI ?_
  | with_reducible refine er_subI ?_
  | with_reducible refine er_eqI ?_
  | with_reducible refine er_neI ?_
  | with_reducible refine er_eqNI ?_
  | with_reducible refine er_eqS ?_
  | with_reducible refine er_neS ?_
  | with_reducible refine er_eqB ?_
  | with_reducible refine er_neB ?_
  | with_reducible refine er_lt ?_
  | with_reducible refine er_le ?_
  | with_reducible refine er_gt ?_
  | with_reducible refine er_ge ?_
  | with_reducible refine er_isN_non ?_
  | with_reducible refine er_isN_bl ?_
  | with_reducible refine er_isN_int ?_
  | with_reducible refine er_isN_str ?_
  | with_reducible refine er_isN_ref ?_
  | with_reducible refine er_notN_non ?_
  | with_reducible refine er_notN_bl ?_
  | with_reducible refine er_notN_int ?_
  | with_reducible refine er_notN_str ?_
  | with_reducible refine er_notN_ref ?_
  | with_reducible refine er_isN ?_
  | with_reducible refine er_notN ?_
  | with_reducible refine ec_int ?_
  | with_reducible refine ec_intB ?_
  | with_reducible refine ec_max2 ?_
  | with_reducible refine ec_min2 ?_
  | with_reducible refine ip_I ?_
  | ((with_reducible refine eg_name ?_); (try dsimp only [L2.wipe, List.set_cons_zero, List.set_cons_succ]))
  | with_reducible refine eg_sub ?_
  | with_reducible refine egs_cons ?_
  | with_reducible refine egs_nil ?_
  | with_reducible refine tru_bl ?_
  | with_reducible refine tru_int ?_
  | with_reducible refine tru_non ?_
  | with_reducible refine iteT ?_
  | with_reducible refine iteF ?_
  | with_reducible refine ite_nt ?_
  | with_reducible refine ite_nf ?_
  | with_reducible refine ⟨_, rfl, ?_⟩)
local macro_rules | `(tactic| k_extra "s") => `(tactic| ((first | k_extra "x1" | ((with_reducible refine es_unf ?_); refine es_seq ?_)); (repeat k_extra "x1")))
local macro_rules | `(tactic| k_extra "x") => `(tactic| (repeat first | k_extra "x1" | ((with_reducible refine es_unf ?_); refine es_seq ?_)))
local macro_rules | `(tactic| k_extra "start") => `(tactic| dsimp only [L2.start, List.map_cons, List.map_nil, List.length_cons, List.length_nil, Nat.reduceAdd, Nat.reduceSub, List.replicate, List.cons_append, List.nil_append, Nat.zero_add])
local macro_rules | `(tactic| k_extra "e1") => `(tactic| first
  | with_reducible refine es_next ?_
  | ((with_reducible show Ee (tVar _) _ _ _); refine ee_var rfl ?_)
  | with_reducible refine ee_c ?_
  | with_reducible refine ee_op ?_
  | with_reducible refine ee_un ?_
  | with_reducible refine eu_neg ?_
  | with_reducible refine ee_cb ?_
  | with_reducible refine ee_call ?_
  | with_reducible refine ea_nil ?_
  | with_reducible refine ea_cons ?_
  | with_reducible refine ee_sl ?_
  | with_reducible refine eo_no ?_
  | with_reducible refine eo_part ?_
  | with_reducible refine ee_tup ?_
  | with_reducible refine ee_lst ?_
  | with_reducible refine et_test ?_
  | with_reducible refine et_tB ?_
  | with_reducible refine et_tru ?_
  | with_reducible refine et_and ?_
  | with_reducible refine et_or ?_
  | with_reducible refine et_not ?_
  | with_reducible refine ee_and ?_
  | with_reducible refine ee_or ?_
  | with_reducible refine ee_not ?_
  | with_reducible refine ee_if ?_
  | with_reducible refine ee_chain ?_
  | with_reducible refine er_addI ?_
  | with_reducible refine er_subI ?_
  | with_reducible refine er_eqI ?_
  | with_reducible refine er_neI ?_
  | with_reducible refine er_eqNI ?_
  | with_reducible refine er_eqS ?_
  | with_reducible refine er_neS ?_
  | with_reducible refine er_eqB ?_
  | with_reducible refine er_neB ?_
  | with_reducible refine er_lt ?_
  | with_reducible refine er_le ?_
  | with_reducible refine er_gt ?_
  | with_reducible refine er_ge ?_
  | with_reducible refine er_isN_non ?_
  | with_reducible refine er_isN_bl ?_
  | with_reducible refine er_isN_int ?_
  | with_reducible refine er_isN_str ?_
  | with_reducible refine er_isN_ref ?_
  | with_reducible refine er_notN_non ?_
  | with_reducible refine er_notN_bl ?_
  | with_reducible refine er_notN_int ?_
  | with_reducible refine er_notN_str ?_
  | with_reducible refine er_notN_ref ?_
  | with_reducible refine er_isN ?_
  | with_reducible refine er_notN ?_
  | with_reducible refine ec_int ?_
  | with_reducible refine ec_intB ?_
  | with_reducible refine ec_max2 ?_
  | with_reducible refine ec_min2 ?_
  | with_reducible refine ip_I ?_
  | ((with_reducible refine eg_name ?_); (try dsimp only [L2.wipe, List.set_cons_zero, List.set_cons_succ]))
  | with_reducible refine eg_sub ?_
  | with_reducible refine egs_cons ?_
  | with_reducible refine egs_nil ?_
  | with_reducible refine tru_bl ?_
  | with_reducible refine tru_int ?_
  | with_reducible refine tru_non ?_
  | with_reducible refine iteT ?_
  | with_reducible refine iteF ?_
  | with_reducible refine ite_nt ?_
  | with_reducible refine ite_nf ?_
  | with_reducible refine ex_bl ?_
  | with_reducible refine ex_int ?_
  | with_reducible refine ex_str ?_
  | with_reducible refine ex_strx ?_
  | with_reducible refine ex_ints1 ?_
  | with_reducible refine ex_ints2 ?_)
local macro_rules | `(tactic| k_extra "t1") => `(tactic| first
  | with_reducible refine es_asg ?_
  | with_reducible refine es_if ?_
  | with_reducible refine es_ret ?_
  | with_reducible refine es_drop ?_
  | with_reducible refine es_augS ?_
  | with_reducible refine es_fld ?_)
local macro_rules | `(tactic| k_extra "e") => `(tactic| first
  | ((with_reducible refine es_seq ?_); (try k_extra "t1"); (repeat k_extra "e1"))
  | (k_extra "t1"; (repeat k_extra "e1"))
  | (k_extra "e1"; (repeat k_extra "e1"))
  | ((with_reducible refine es_unf ?_); (refine es_seq ?_); (try k_extra "t1"); (repeat k_extra "e1")))
/-! ### lists that are read -/
def del (G : Hp) (p : Addr) : Hp := fun b => if b = p then none else G b
theorem del_at {G : Hp} {p : Addr} : del G p p = none := if_pos rfl
theorem del_ne {G : Hp} {p b : Addr} (h : b ≠ p) : del G p b = G b := if_neg h
theorem del_ex {G : Hp} {p : Addr} {o : HO} (h : G p = some o) : Ex (upd (del G p) p o) G := fun b u e => by
  by_cases q : b = p
  · subst q; rw [upd_same] at e; cases e; exact h
  · rw [upd_ne q, del_ne q] at e; exact e
theorem del_up {F G : Hp} {p : Addr} (e : Ex F G) (h : F p = none) : Ex F (del G p) := fun b u k => by
  rw [del_ne (fun q => by rw [q, h] at k; cases k)]; exact e b u k
theorem tx_del {G : Hp} {p : Addr} (h : NoTup G p) : Tx G (del G p) := fun a xs r => by
  have n : a ≠ p := fun q => h xs (by rw [← q]; exact r)
  rcases r with r | ⟨o, r⟩
  · exact .inl (by rw [del_ne n]; exact r)
  · exact .inr ⟨o, by rw [del_ne n]; exact r⟩
inductive All2 {α : Type} (R : V → α → Prop) : List V → List α → Prop
  | nil : All2 R [] []
  | cons {v : V} {r : α} {vs : List V} {rs : List α} : R v r → All2 R vs rs → All2 R (v :: vs) (r :: rs)
theorem All2.imp {α : Type} {R S : V → α → Prop} (h : ∀ v r, R v r → S v r) : ∀ {vs : List V} {rs : List α}, All2 R vs rs → All2 S vs rs
  | _, _, .nil => .nil
  | _, _, .cons a t => .cons (h _ _ a) (All2.imp h t)
theorem All2.snoc {α : Type} {R : V → α → Prop} {v : V} {r : α} (h : R v r) : ∀ {vs : List V} {rs : List α}, All2 R vs rs → All2 R (vs ++ [v]) (rs ++ [r])
  | _, _, .nil => .cons h .nil
  | _, _, .cons a t => .cons a (All2.snoc h t)
theorem All2.len {α : Type} {R : V → α → Prop} : ∀ {vs : List V} {rs : List α}, All2 R vs rs → vs.length = rs.length
  | _, _, .nil => rfl
  | _, _, .cons _ t => by rw [List.length_cons, List.length_cons, All2.len t]
theorem rdR_none {α : Type} {f : Rdr α} {bs : List Int} {a : Nat} : ∀ {i : Nat} (n : Nat), rdR f bs i a = none → i ≤ n → rdR f bs n a = none
  | i, 0, h, hn => by
    have : i = 0 := by omega
    subst this; exact h
  | i, n + 1, h, hn => by
    by_cases e : i = n + 1
    · subst e; exact h
    · have := rdR_none n h (by omega)
      unfold rdR; rw [this]
theorem rdR_len {α : Type} {f : Rdr α} {bs : List Int} {a : Nat} : ∀ {n : Nat} {xs : List α} {b : Nat}, rdR f bs n a = some (xs, b) → xs.length = n
  | 0, xs, b, h => by
    obtain ⟨rfl, rfl⟩ := Prod.mk.inj (Option.some.inj h)
    rfl
  | n + 1, xs, b, h => by
    unfold rdR at h
    split at h
    · cases h
    · rename_i ys c e
      split at h
      · cases h
      · obtain ⟨rfl, rfl⟩ := Prod.mk.inj (Option.some.inj h)
        rw [List.length_append, rdR_len e]; rfl
theorem rdC_le {bs : List Int} {a b : Nat} {n : Int} (h : rdC bs a = some (n, b)) : 0 ≤ n ∧ n ≤ (bs.length : Int) - (b : Int) := by
  unfold rdC at h
  split at h
  · cases h
  · rename_i m c e
    split at h
    · cases h
    · rename_i hn
      obtain ⟨rfl, rfl⟩ := Prod.mk.inj (Option.some.inj h)
      exact ⟨(rdN_nn e).1, by omega⟩
theorem ee_lcR {α : Type} {K : PySem.W.Frag} {A : Ad} {R : Hp → V → α → Prop} {f : Rdr α} (hst : ∀ G G' v r, Tx G G' → R G v r → R G' v r) {m : Str} {E : XK} {σ : L2.St} {G : Hp} {Q : V → Hp → Prop} {x dx p : Addr} {bs : List Int} {a j : Nat} (hi : σ[0]? = some (some (.ref x))) (hj : j ≠ 0) (hr : Rs A G x dx p bs a)
    (h1 : ¬ m = Str.ofString "data") (h2 : ¬ m = Str.ofString "at")
    (q : ∀ xs b pl acc G', rdL f bs a = some (xs, b) → xs.length ≤ bs.length → Ex (rAt A G x dx p b) G' → G' pl = some (.lst acc) → All2 (R G') acc xs → Q (.ref pl) G')
    (e : rdL f bs a = none → ∀ b G', Ex (rAt A G x dx p b) G' → dn E (.ref A.cDamagedPacket) none G') :
    Ee (tLc (iRng1 (tCons (tMeth A.cReader (Str.ofString "read_count") (up (S_Reader_read_count K A)) [] E (tVar 0) tNil) tNil)) (gName j) tYes (tMeth A.cReader m (up (RdQ K A R f)) [] E (tVar 0) tNil) [j]) σ G Q := by
  refine ee_lcR1 (ea_cons (ee_rd hi hr (by decide +kernel) (by decide +kernel) (fun n b v G1 h e1 hv => ?_) (fun h b G1 e1 => e (by unfold rdL; rw [h]) b G1 e1)))
  cases hv
  obtain ⟨n0, n1⟩ := rdC_le h
  have hl := hr.hl
  have e0 : rdL f bs a = rdR f bs n.toNat b := by unfold rdL; rw [h]
  refine ea_nil ⟨n, rfl, by omega, fun pl hpl => ⟨fun i acc G' => ∃ xs b', rdR f bs i b = some (xs, b') ∧ All2 (R G') acc xs ∧ Ex (rAt A G x dx p b') G' ∧ G' pl = none ∧ i ≤ bs.length, ⟨[], b, rfl, .nil, e1, hpl, Nat.zero_le _⟩, ?_, ?_, ?_⟩⟩
  · rintro i acc G' ⟨xs, b', k1, k2, k3, k4, k5⟩
    refine ⟨k4, ?_⟩
    rw [k2.len, rdR_len k1]
    exact szlt (by omega)
  · rintro i acc G' hlt ⟨xs, b', k1, k2, k3, k4, k5⟩
    have hw : ∀ v, wipe ((wipe σ [j]).set j v) [j] = wipe σ [j] := fun v => by
      show (((σ.set j none).set j v).set j none) = σ.set j none
      rw [List.set_set, List.set_set]
    have hv : ∀ v, ((wipe σ [j]).set j v)[0]? = some (some (.ref x)) := fun v => by
      show ((σ.set j none).set j v)[0]? = _
      rw [List.set_set, List.getElem?_set_ne hj]; exact hi
    refine ⟨hw _, et_yes ?_⟩
    refine iteT ?_
    have hr2 := (hr.next k3).up (Ex.new (o := .lst acc) k4)
    refine ee_rd (hv _) hr2 h1 h2 (fun r b2 v G4 hf e4 hR => ?_) (fun hf b2 G4 e4 => ?_)
    · have g4 : G4 pl = some (.lst acc) := e4 _ _ (by
        unfold rAt; rw [upd_ne (fun z => by have := hr2.g; rw [← z, upd_same] at this; cases this)]; exact upd_same)
      have kx : pl ≠ x := fun z => by have := (hr.next k3).g; rw [← z, k4] at this; cases this
      have t4 : Tx G' G4 := (Ex.new (o := .lst acc) k4).tx.trans (tx_at hr2 e4)
      have td : Tx G4 (del G4 pl) := tx_del (noTup_lst g4)
      have ed : Ex (rAt A G x dx p b2) (del G4 pl) := by
        refine ex_at k3 (del_up (fun c u k => e4 c u ?_) ?_)
        · by_cases hc : c = x
          · subst hc; unfold rAt at k ⊢; rw [upd_same] at k ⊢; exact k
          · unfold rAt at k ⊢; rw [upd_ne hc] at k ⊢
            exact Ex.new k4 _ _ k
        · unfold rAt; rw [upd_ne kx]; exact k4
      refine ⟨g4, del G4 pl, del_ex g4, xs ++ [r], b2, ?_, All2.snoc (hst _ _ _ _ td hR) (k2.imp fun v r z => hst _ _ _ _ (t4.trans td) z), ed, del_at, by omega⟩
      unfold rdR; rw [k1]; simp only; rw [hf]
    · refine e ?_ b2 G4 ?_
      · rw [e0]
        refine rdR_none (i := i + 1) _ ?_ (by omega)
        unfold rdR; rw [k1]; simp only; rw [hf]
      · refine ex_at k3 (fun c u k => e4 c u ?_)
        by_cases hc : c = x
        · subst hc; unfold rAt at k ⊢; rw [upd_same] at k ⊢; exact k
        · unfold rAt at k ⊢; rw [upd_ne hc] at k ⊢
          exact Ex.new k4 _ _ k
  · rintro acc G' ⟨xs, b', k1, k2, k3, k4, k5⟩
    refine q xs b' pl acc _ (by rw [e0]; exact k1) (by rw [rdR_len k1]; omega) (k3.trans (Ex.new k4)) upd_same (k2.imp fun v r z => hst _ _ _ _ (Ex.new k4).tx z)
theorem RX_st : ∀ G G' v r, Tx G G' → RX G v r → RX G' v r := fun _ _ _ _ _ h => h
theorem RM_st {K : PySem.W.Frag} : ∀ G G' v r, Tx G G' → RM K G v r → RM K G' v r := fun _ _ _ _ t h => t.im h
theorem RT_st {K : PySem.W.Frag} : ∀ G G' v r, Tx G G' → RT K G v r → RT K G' v r := fun _ _ _ _ t h => t.im h
theorem all2_str : ∀ {G : Hp} {vs : List V} {cs : List Nat}, All2 (RX G) vs cs → vs = (cs.map fun c => mkS [c]).map V.str
  | _, _, _, .nil => rfl
  | _, _, _, .cons h t => by rw [List.map_cons, List.map_cons, ← all2_str t, ← h]
theorem all2_im {K : PySem.W.Frag} {α : Type} {g : α → PyData} : ∀ {G : Hp} {vs : List V} {ds : List α}, All2 (fun v d => Im K G v (g d)) vs ds → Ims K G vs (ds.map g)
  | _, _, _, .nil => .nil
  | _, _, _, .cons h t => .cons h (all2_im t)
end Lw

namespace Lw
open PySem PySem.Spec PyProof.Rows L2
local macro_rules | `(tactic| k_extra "x1") => `(tactic| first
  | with_reducible refine es_seq ?_
  | with_reducible refine es_asg ?_
  | with_reducible refine es_if ?_
  | with_reducible refine es_ret ?_
  | with_reducible refine es_drop ?_
  | with_reducible refine es_next ?_
  | with_reducible refine es_augS ?_
  | with_reducible refine es_fld ?_
  | ((with_reducible show Ee (tVar _) _ _ _); refine ee_var rfl ?_)
  | with_reducible refine ee_c ?_
  | with_reducible refine ee_op ?_
  | with_reducible refine ee_un ?_
  | with_reducible refine eu_neg ?_
  | with_reducible refine ee_cb ?_
  | with_reducible refine ee_call ?_
  | with_reducible refine ea_nil ?_
  | with_reducible refine ea_cons ?_
  | with_reducible refine ee_sl ?_
  | with_reducible refine eo_no ?_
  | with_reducible refine eo_part ?_
  | with_reducible refine ee_tup ?_
  | with_reducible refine ee_lst ?_
  | with_reducible refine et_test ?_
  | with_reducible refine et_tB ?_
  | with_reducible refine et_tru ?_
  | with_reducible refine et_and ?_
  | with_reducible refine et_or ?_
  | with_reducible refine et_not ?_
  | with_reducible refine ee_and ?_
  | with_reducible refine ee_or ?_
  | with_reducible refine ee_not ?_
  | with_reducible refine ee_if ?_
  | with_reducible refine ee_chain ?_
  | with_reducible refine er_addI ?_
  | with_reducible refine er_subI ?_
  | with_reducible refine er_eqI ?_
  | with_reducible refine er_neI ?_
  | with_reducible refine er_eqNI ?_
  | with_reducible refine er_eqS ?_
  | with_reducible refine er_neS ?_
  | with_reducible refine er_eqB ?_
  | with_reducible refine er_neB ?_
  | with_reducible refine er_lt ?_
  | with_reducible refine er_le ?_
  | with_reducible refine er_gt ?_
  | with_reducible refine er_ge ?_
  | with_reducible refine er_isN_non ?_
  | with_reducible refine er_isN_bl ?_
  | with_reducible refine er_isN_int ?_
  | with_reducible refine er_isN_str ?_
  | with_reducible refine er_isN_ref ?_
  | with_reducible refine er_notN_non ?_
  | with_reducible refine er_notN_bl ?_
  | with_reducible refine er_notN_int ?_
  | with_reducible refine er_notN_str ?_
  | with_reducible refine er_notN_ref ?_
  | with_reducible refine er_isN ?_
  | with_reducible refine er_notN ?_
  | with_reducible refine ec_int ?_
  | with_reducible refine ec_intB ?_
  | with_reducible refine ec_max2 ?_
  | with_reducible refine ec_min2 ?_
  | with_reducible refine ip_I ?_
  | ((with_reducible refine eg_name ?_); (try dsimp only [L2.wipe, List.set_cons_zero, List.set_cons_succ]))
  | with_reducible refine eg_sub ?_
  | with_reducible refine egs_cons ?_
  | with_reducible refine egs_nil ?_
  | with_reducible refine tru_bl ?_
  | with_reducible refine tru_int ?_
  | with_reducible refine tru_non ?_
  | with_reducible refine iteT ?_
  | with_reducible refine iteF ?_
  | with_reducible refine ite_nt ?_
  | with_reducible refine ite_nf ?_
  | with_reducible refine ⟨_, rfl, ?_⟩)
local macro_rules | `(tactic| k_extra "s") => `(tactic| ((first | k_extra "x1" | ((with_reducible refine es_unf ?_); refine es_seq ?_)); (repeat k_extra "x1")))
local macro_rules | `(tactic| k_extra "x") => `(tactic| (repeat first | k_extra "x1" | ((with_reducible refine es_unf ?_); refine es_seq ?_)))
local macro_rules | `(tactic| k_extra "start") => `(tactic| dsimp only [L2.start, List.map_cons, List.map_nil, List.length_cons, List.length_nil, Nat.reduceAdd, Nat.reduceSub, List.replicate, List.cons_append, List.nil_append, Nat.zero_add])
local macro_rules | `(tactic| k_extra "e1") => `(tactic| first
  | with_reducible refine es_next ?_
  | ((with_reducible show Ee (tVar _) _ _ _); refine ee_var rfl ?_)
  | with_reducible refine ee_c ?_
  | with_reducible refine ee_op ?_
  | with_reducible refine ee_un ?_
  | with_reducible refine eu_neg ?_
  | with_reducible refine ee_cb ?_
  | with_reducible refine ee_call ?_
  | with_reducible refine ea_nil ?_
  | with_reducible refine ea_cons ?_
  | with_reducible refine ee_sl ?_
  | with_reducible refine eo_no ?_
  | with_reducible refine eo_part ?_
  | with_reducible refine ee_tup ?_
  | with_reducible refine ee_lst ?_
  | with_reducible refine et_test ?_
  | with_reducible refine et_tB ?_
  | with_reducible refine et_tru ?_
  | with_reducible refine et_and ?_
  | with_reducible refine et_or ?_
  | with_reducible refine et_not ?_
  | with_reducible refine ee_and ?_
  | with_reducible refine ee_or ?_
  | with_reducible refine ee_not ?_
  | with_reducible refine ee_if ?_
  | with_reducible refine ee_chain ?_
  | with_reducible refine er_addI ?_
  | with_reducible refine er_subI ?_
  | with_reducible refine er_eqI ?_
  | with_reducible refine er_neI ?_
  | with_reducible refine er_eqNI ?_
  | with_reducible refine er_eqS ?_
  | with_reducible refine er_neS ?_
  | with_reducible refine er_eqB ?_
  | with_reducible refine er_neB ?_
  | with_reducible refine er_lt ?_
  | with_reducible refine er_le ?_
  | with_reducible refine er_gt ?_
  | with_reducible refine er_ge ?_
  | with_reducible refine er_isN_non ?_
  | with_reducible refine er_isN_bl ?_
  | with_reducible refine er_isN_int ?_
  | with_reducible refine er_isN_str ?_
  | with_reducible refine er_isN_ref ?_
  | with_reducible refine er_notN_non ?_
  | with_reducible refine er_notN_bl ?_
  | with_reducible refine er_notN_int ?_
  | with_reducible refine er_notN_str ?_
  | with_reducible refine er_notN_ref ?_
  | with_reducible refine er_isN ?_
  | with_reducible refine er_notN ?_
  | with_reducible refine ec_int ?_
  | with_reducible refine ec_intB ?_
  | with_reducible refine ec_max2 ?_
  | with_reducible refine ec_min2 ?_
  | with_reducible refine ip_I ?_
  | ((with_reducible refine eg_name ?_); (try dsimp only [L2.wipe, List.set_cons_zero, List.set_cons_succ]))
  | with_reducible refine eg_sub ?_
  | with_reducible refine egs_cons ?_
  | with_reducible refine egs_nil ?_
  | with_reducible refine tru_bl ?_
  | with_reducible refine tru_int ?_
  | with_reducible refine tru_non ?_
  | with_reducible refine iteT ?_
  | with_reducible refine iteF ?_
  | with_reducible refine ite_nt ?_
  | with_reducible refine ite_nf ?_
  | with_reducible refine ex_bl ?_
  | with_reducible refine ex_int ?_
  | with_reducible refine ex_str ?_
  | with_reducible refine ex_strx ?_
  | with_reducible refine ex_ints1 ?_
  | with_reducible refine ex_ints2 ?_)
local macro_rules | `(tactic| k_extra "t1") => `(tactic| first
  | with_reducible refine es_asg ?_
  | with_reducible refine es_if ?_
  | with_reducible refine es_ret ?_
  | with_reducible refine es_drop ?_
  | with_reducible refine es_augS ?_
  | with_reducible refine es_fld ?_)
local macro_rules | `(tactic| k_extra "e") => `(tactic| first
  | ((with_reducible refine es_seq ?_); (try k_extra "t1"); (repeat k_extra "e1"))
  | (k_extra "t1"; (repeat k_extra "e1"))
  | (k_extra "e1"; (repeat k_extra "e1"))
  | ((with_reducible refine es_unf ?_); (refine es_seq ?_); (try k_extra "t1"); (repeat k_extra "e1")))
theorem em_str : TL.tl (Str.ofString "") = [] := by decide +kernel
theorem em_len : (Str.ofString "").length = 0 := by decide +kernel
theorem join_one : ∀ l : List (List Nat), TL.joinL [] l = l.flatten := by
  intro l
  induction l with
  | nil => rfl
  | cons x r ih =>
    cases r with
    | nil => show x = x ++ []; rw [List.append_nil]
    | cons y r => show x ++ ([] ++ TL.joinL [] (y :: r)) = _; rw [ih]; rfl
theorem flat_one : ∀ cs : List Nat, (cs.map fun c => [c]).flatten = cs
  | [] => rfl
  | c :: r => by rw [List.map_cons, List.flatten_cons, flat_one r]; rfl
theorem join_chars (cs : List Nat) : Txt.join (Str.ofString "") (cs.map fun c => mkS [c]) = mkS cs := by
  refine TL.ext_tl ?_
  rw [TL.join_eq, TL.tl_join, em_str, join_one, List.map_map]
  have e : (TL.tl ∘ fun c => mkS [c]) = fun c : Nat => [c] := by funext c; rfl
  rw [e, flat_one]
  rfl
theorem sum_one : ∀ cs : List Nat, ((cs.map fun c => mkS [c]).map (·.length)).sum = cs.length
  | [] => rfl
  | c :: r => by
    rw [List.map_cons, List.map_cons, List.sum_cons, sum_one r, List.length_cons]
    show 1 + r.length = _
    omega
def S_Reader_read_string (K : PySem.W.Frag) (A : Ad) : Pm := RdQ K A RS rdS
/-! Reader.read_string -/
def t_Reader_read_string (K : PySem.W.Frag) (A : Ad) (E : XK) : TS := (tRet (tM1 (rJoinU K) (tC (.str "")) (tLc (iRng1 (tCons (tMeth A.cReader "read_count" (up (S_Reader_read_count K A)) [] E (tVar 0) tNil) tNil)) (gName 1) tYes (tMeth A.cReader "read_character" (up (S_Reader_read_character K A)) [] E (tVar 0) tNil) [1])))
theorem len_Reader_read_string {K : PySem.W.Frag} {A : Ad} : ∀ vs G Q E, S_Reader_read_string K A vs G Q E → vs.length = ["self"].length := lenQ
theorem mon_Reader_read_string {K : PySem.W.Frag} {A : Ad} : ∀ vs G Q E E', S_Reader_read_string K A vs G Q E → (∀ c d G', E c d G' → E' c d G') → S_Reader_read_string K A vs G Q E' := monQ
theorem ok_Reader_read_string {K : PySem.W.Frag} {A : Ad} (C : Cf K A) : ∀ vs G Q E, S_Reader_read_string K A vs G Q (dn E) → Es (t_Reader_read_string K A E) { nx := fun _ G' => Q .non G', rt := Q } (L2.start ["self", "_"] vs) G := by
  rintro vs G Q E ⟨x, dx, p, bs, a, rfl, hr, hq, he⟩
  change Es _ _ (_ :: _ :: []) _
  have hl := hr.hl
  k_extra "e"
  refine ee_m1 ?_
  k_extra "e"
  refine ee_lcR (R := RX) (f := rdX) RX_st rfl (by decide) hr (by decide +kernel) (by decide +kernel) (fun xs b pl acc G' h hx e hp hA => ?_) (fun h b G' e => he h b G' e)
  rw [all2_str hA] at hp
  refine em_join (SqL.of hp) ?_ ?_
  · rw [sum_one, em_len]; omega
  · rw [join_chars]
    exact hq xs b _ _ h e rfl
def S_Reader_read_mark (K : PySem.W.Frag) (A : Ad) : Pm := RdQ K A (RM K) rdM
/-! Reader.read_mark -/
def t_Reader_read_mark (K : PySem.W.Frag) (A : Ad) (E : XK) : TS := tSeq (tAsg (tMeth A.cReader "read_number" (up (S_Reader_read_number K A)) [] E (tVar 0) tNil) (gName 1)) (tRet (tTup (tCons (tVar 1) (tCons (tMeth A.cReader "read_number" (up (S_Reader_read_number K A)) [] E (tVar 0) tNil) tNil))))
theorem len_Reader_read_mark {K : PySem.W.Frag} {A : Ad} : ∀ vs G Q E, S_Reader_read_mark K A vs G Q E → vs.length = ["self"].length := lenQ
theorem mon_Reader_read_mark {K : PySem.W.Frag} {A : Ad} : ∀ vs G Q E E', S_Reader_read_mark K A vs G Q E → (∀ c d G', E c d G' → E' c d G') → S_Reader_read_mark K A vs G Q E' := monQ
theorem ok_Reader_read_mark {K : PySem.W.Frag} {A : Ad} (C : Cf K A) : ∀ vs G Q E, S_Reader_read_mark K A vs G Q (dn E) → Es (t_Reader_read_mark K A E) { nx := fun _ G' => Q .non G', rt := Q } (L2.start ["self", "number"] vs) G := by
  rintro vs G Q E ⟨x, dx, p, bs, a, rfl, hr, hq, he⟩
  change Es _ _ (_ :: _ :: []) _
  k_extra "e"
  refine ee_rd rfl hr (by decide +kernel) (by decide +kernel) (fun n b v G1 h e hv => ?_) (fun h b G' e => he (by unfold rdM; rw [h]) b G' e)
  cases hv
  k_extra "e"
  k_extra "e"
  refine ee_rd rfl (hr.next e) (by decide +kernel) (by decide +kernel) (fun r b2 v G2 h2 e2 hv => ?_) (fun h2 b G' e2 => he (by unfold rdM; rw [h]; simp only; rw [h2]) b G' (ex_at e e2))
  cases hv
  k_extra "e"
  refine ⟨sz1000 (by simp), fun t ht => ?_⟩
  exact hq (n, r) b2 _ _ (by unfold rdM; rw [h]; simp only; rw [h2]) ((ex_at e e2).trans (Ex.new ht)) (.tup (SqT.of upd_same) (.cons (.int _) (.cons (.int _) .nil)))
def S_Reader_read_deed (K : PySem.W.Frag) (A : Ad) : Pm := RdQ K A (RD K) rdD
/-! Reader.read_deed -/
def t_Reader_read_deed_1 (K : PySem.W.Frag) (A : Ad) (E : XK) : TS := tSeq (tAsg (tMeth A.cReader "read_number" (up (S_Reader_read_number K A)) [] E (tVar 0) tNil) (gName 4)) (tRet (tTup (tCons (tC (.str "change")) (tCons (tVar 1) (tCons (tVar 2) (tCons (tVar 3) (tCons (tVar 4) (tCons (tMeth A.cReader "read_string" (up (S_Reader_read_string K A)) [] E (tVar 0) tNil) tNil))))))))
def t_Reader_read_deed_2 (K : PySem.W.Frag) (A : Ad) (E : XK) : TS := tSeq (tIfS (tTest (tOp (rEqU K) (tMeth A.cReader "read_choice" (up (S_Reader_read_choice K A)) [] E (tVar 0) (tCons (tC (.int 2)) tNil)) (tC (.int 1)))) (tAsg (tMeth A.cReader "read_mark" (up (S_Reader_read_mark K A)) [] E (tVar 0) tNil) (gName 3)) tNext) (t_Reader_read_deed_1 K A E)
def t_Reader_read_deed_3 (K : PySem.W.Frag) (A : Ad) (E : XK) : TS := tSeq (tAsg (tC .non) (gName 3)) (t_Reader_read_deed_2 K A E)
def t_Reader_read_deed_4 (K : PySem.W.Frag) (A : Ad) (E : XK) : TS := tSeq (tAsg (tCB (rTupU K) (tCons (tLc (iRng1 (tCons (tMeth A.cReader "read_count" (up (S_Reader_read_count K A)) [] E (tVar 0) tNil) tNil)) (gName 5) tYes (tMeth A.cReader "read_mark" (up (S_Reader_read_mark K A)) [] E (tVar 0) tNil) [5]) tNil)) (gName 2)) (t_Reader_read_deed_3 K A E)
def t_Reader_read_deed_5 (K : PySem.W.Frag) (A : Ad) (E : XK) : TS := tSeq (tAsg (tMeth A.cReader "read_string" (up (S_Reader_read_string K A)) [] E (tVar 0) tNil) (gName 1)) (t_Reader_read_deed_4 K A E)
def t_Reader_read_deed (K : PySem.W.Frag) (A : Ad) (E : XK) : TS := tSeq (tIfS (tTest (tOp (rEqU K) (tMeth A.cReader "read_choice" (up (S_Reader_read_choice K A)) [] E (tVar 0) (tCons (tC (.int 2)) tNil)) (tC (.int 1)))) (tRet (tTup (tCons (tC (.str "back")) (tCons (tMeth A.cReader "read_number" (up (S_Reader_read_number K A)) [] E (tVar 0) tNil) tNil)))) tNext) (t_Reader_read_deed_5 K A E)
theorem len_Reader_read_deed {K : PySem.W.Frag} {A : Ad} : ∀ vs G Q E, S_Reader_read_deed K A vs G Q E → vs.length = ["self"].length := lenQ
theorem mon_Reader_read_deed {K : PySem.W.Frag} {A : Ad} : ∀ vs G Q E E', S_Reader_read_deed K A vs G Q E → (∀ c d G', E c d G' → E' c d G') → S_Reader_read_deed K A vs G Q E' := monQ
section
variable {K : PySem.W.Frag} {A : Ad} {G G' G1 : Hp} {x dx p : Addr} {bs : List Int} {a : Nat} {Q : V → Hp → Prop} {E : XK} {v1 v2 v3 : V} {c3 c4 c5 : Option V} {m : List Nat} {rm : List (Int × Int)} {bh : Option (Int × Int)}
/-- the choice -/
theorem ee_ch {n : Int} {σ : L2.St} {i : Nat} (hi : σ[i]? = some (some (.ref x))) (hr : Rs A G x dx p bs a) (q : ∀ r b G', rdCh n bs a = some (r, b) → Ex (rAt A G x dx p b) G' → Q (.int r) G') (e : rdCh n bs a = none → ∀ b G', Ex (rAt A G x dx p b) G' → dn E (.ref A.cDamagedPacket) none G') :
    Ee (tMeth A.cReader (Str.ofString "read_choice") (up (S_Reader_read_choice K A)) [] E (tVar i) (tCons (tC (.int n)) tNil)) σ G Q :=
  ee_meth (ee_var hi ⟨x, dx, _, rfl, hr.g, rF_no (by decide +kernel) (by decide +kernel), ea_cons (ee_c (ea_nil ⟨x, dx, p, bs, a, n, rfl, hr, fun r b v G' h e hv => by cases hv; exact q r b G' h e, e⟩))⟩)
/-- number and text of a change -/
theorem deed_end {b : Nat} (hr : Rs A G1 x dx p bs b) (e1 : Ex (rAt A G x dx p b) G1) (h2 : Im K G1 v2 (.tuple (rm.map mkD))) (h3 : Im K G1 v3 (bhD bh))
    (hq : ∀ n c t a' v G', rdN bs b = some (n, c) → rdS bs c = some (t, a') → Ex (rAt A G x dx p a') G' → RD K G' v (.change m rm bh n t) → Q v G')
    (he : (∀ n c t a', rdN bs b = some (n, c) → rdS bs c = some (t, a') → False) → ∀ a' G', Ex (rAt A G x dx p a') G' → dn E (.ref A.cDamagedPacket) none G') :
    Es (t_Reader_read_deed_1 K A E) { nx := fun _ G' => Q .non G', rt := Q } [some (.ref x), some (.str (mkS m)), some v2, some v3, c4, c5] G1 := by
  k_extra "e"
  refine ee_rd rfl hr (by decide +kernel) (by decide +kernel) (fun n c v G2 hn e2 hv => ?_) (fun h b' G' e2 => he (fun n c t a' z _ => by rw [h] at z; cases z) b' G' (ex_at e1 e2))
  cases hv
  k_extra "e"
  k_extra "e"
  refine ee_rd rfl (hr.next e2) (by decide +kernel) (by decide +kernel) (fun t a' v G3 ht e3 hv => ?_) (fun h b' G' e3 => he (fun n' c' t a' z1 z2 => by rw [hn] at z1; cases z1; rw [h] at z2; cases z2) b' G' (ex_at e1 (ex_at e2 e3)))
  cases hv
  k_extra "e"
  refine ⟨sz1000 (by simp), fun q hqq => ?_⟩
  have t3 := ((tx_at hr e2).trans (tx_at (hr.next e2) e3)).trans (Ex.new (o := .tup [.str (Str.ofString "change"), .str (mkS m), v2, v3, .int n, .str (mkS t)]) hqq).tx
  exact hq n c t a' _ _ hn ht ((ex_at e1 (ex_at e2 e3)).trans (Ex.new hqq)) (.tup (SqT.of upd_same) (.cons (.str _) (.cons (.str _) (.cons (t3.im h2) (.cons (t3.im h3) (.cons (.int _) (.cons (.str _) .nil)))))))
end
theorem ok_Reader_read_deed {K : PySem.W.Frag} {A : Ad} (C : Cf K A) : ∀ vs G Q E, S_Reader_read_deed K A vs G Q (dn E) → Es (t_Reader_read_deed K A E) { nx := fun _ G' => Q .non G', rt := Q } (L2.start ["self", "module", "removed", "behind", "number", "_"] vs) G := by
  rintro vs G Q E ⟨x, dx, p, bs, a, rfl, hr, hq, he⟩
  change Es _ _ (_ :: _ :: _ :: _ :: _ :: _ :: []) _
  have hl := hr.hl
  k_extra "e"
  refine ee_ch rfl hr (fun ch b G1 h e1 => ?_) (fun h b G' e => he (by unfold rdD; rw [h]) b G' e)
  have e0 : rdD bs a = if ch = 1 then (rdN bs b).map fun x => (.back x.1, x.2) else rdCg bs b := by unfold rdD; rw [h]
  have hr1 := hr.next e1
  k_extra "e"
  refine ifd (fun h1 => ?_) (fun h1 => ?_)
  · rw [if_pos h1] at e0
    k_extra "e"
    refine ee_rd rfl hr1 (by decide +kernel) (by decide +kernel) (fun n c v G2 hn e2 hv => ?_) (fun hn b' G' e2 => he (by rw [e0, hn]; rfl) b' G' (ex_at e1 e2))
    cases hv
    k_extra "e"
    refine ⟨sz1000 (by simp), fun t ht => ?_⟩
    exact hq (.back n) c _ _ (by rw [e0, hn]; rfl) ((ex_at e1 e2).trans (Ex.new ht)) (.tup (SqT.of upd_same) (.cons (.str _) (.cons (.int _) .nil)))
  rw [if_neg h1] at e0
  k_extra "e"
  k_extra "e"
  refine ee_rd rfl hr1 (by decide +kernel) (by decide +kernel) (fun m b2 v G2 hm e2 hv => ?_) (fun hm b' G' e2 => he (by rw [e0]; unfold rdCg; rw [hm]) b' G' (ex_at e1 e2))
  cases hv
  have hr2 := hr1.next e2
  have x2 := ex_at e1 e2
  k_extra "e"
  k_extra "e"
  refine ee_lcR (R := RM K) (f := rdM) RM_st rfl (by decide) hr2 (by decide +kernel) (by decide +kernel) (fun rm b3 pl acc G3 hrm hx e3 hp hA => ?_) (fun hrm b' G' e3 => he (by rw [e0]; unfold rdCg; rw [hm]; simp only; rw [hrm]) b' G' (ex_at x2 e3))
  have hr3 := hr2.next e3
  have x3 := ex_at x2 e3
  k_extra "e"
  refine ec_tupL (SqL.of hp) fun pt hpt => ?_
  have e34 := Ex.new (o := .tup acc) hpt
  have i3 : Im K (upd G3 pt (.tup acc)) (.ref pt) (.tuple (rm.map mkD)) := .tup (SqT.of upd_same) (e34.tx.ims (all2_im hA))
  have hr4 := hr3.up e34
  have x4 := x3.trans e34
  generalize upd G3 pt (.tup acc) = G4 at i3 hr4 x4 ⊢
  k_extra "e"
  k_extra "e"
  k_extra "e"
  refine ee_ch rfl hr4 (fun c5 b5 G5 h5 e5 => ?_) (fun h5 b' G' e5 => he (by rw [e0]; unfold rdCg; rw [hm]; simp only; rw [hrm]; simp only; unfold rdBh; rw [h5]) b' G' (ex_at x4 e5))
  have hr5 := hr4.next e5
  have x5 := ex_at x4 e5
  have i5 := (tx_at hr4 e5).im i3
  k_extra "e"
  refine ifd (fun h1 => ?_) (fun h1 => ?_)
  · k_extra "e"
    refine ee_rd rfl hr5 (by decide +kernel) (by decide +kernel) (fun mk b6 v G6 hmk e6 hv => ?_) (fun hmk b' G' e6 => he (by rw [e0]; unfold rdCg; rw [hm]; simp only; rw [hrm]; simp only; unfold rdBh; rw [h5]; simp only; rw [if_pos h1, hmk]; rfl) b' G' (ex_at x5 e6))
    have ebh : rdBh bs b3 = some (some mk, b6) := by unfold rdBh; rw [h5]; simp only; rw [if_pos h1, hmk]; rfl
    k_extra "e"
    refine deed_end (bh := some mk) (hr5.next e6) (ex_at x5 e6) ((tx_at hr5 e6).im i5) hv (fun n c t a' v G' hn ht e7 hR => ?_) (fun hno a' G' e7 => ?_)
    · exact hq _ a' v G' (by rw [e0]; unfold rdCg; rw [hm]; simp only; rw [hrm]; simp only; rw [ebh]; simp only; rw [hn]; simp only; rw [ht]) e7 hR
    · refine he ?_ a' G' e7
      rw [e0]; unfold rdCg; rw [hm]; simp only; rw [hrm]; simp only; rw [ebh]; simp only
      cases hn : rdN bs b6 with
      | none => rfl
      | some z =>
        obtain ⟨n, c⟩ := z
        simp only
        cases ht : rdS bs c with
        | none => rfl
        | some z =>
          obtain ⟨t, a''⟩ := z
          exact (hno n c t a'' hn ht).elim
  · have ebh : rdBh bs b3 = some (none, b5) := by unfold rdBh; rw [h5]; simp only; rw [if_neg h1]
    k_extra "e"
    refine deed_end (bh := none) hr5 x5 i5 .non (fun n c t a' v G' hn ht e7 hR => ?_) (fun hno a' G' e7 => ?_)
    · exact hq _ a' v G' (by rw [e0]; unfold rdCg; rw [hm]; simp only; rw [hrm]; simp only; rw [ebh]; simp only; rw [hn]; simp only; rw [ht]) e7 hR
    · refine he ?_ a' G' e7
      rw [e0]; unfold rdCg; rw [hm]; simp only; rw [hrm]; simp only; rw [ebh]; simp only
      cases hn : rdN bs b5 with
      | none => rfl
      | some z =>
        obtain ⟨n, c⟩ := z
        simp only
        cases ht : rdS bs c with
        | none => rfl
        | some z =>
          obtain ⟨t, a''⟩ := z
          exact (hno n c t a'' hn ht).elim
def S_Reader_read_triple (K : PySem.W.Frag) (A : Ad) : Pm := RdQ K A (RT K) rdT
/-! Reader.read_triple -/
def t_Reader_read_triple_1 (K : PySem.W.Frag) (A : Ad) (E : XK) : TS := tSeq (tAsg (tMeth A.cReader "read_number" (up (S_Reader_read_number K A)) [] E (tVar 0) tNil) (gName 2)) (tRet (tTup (tCons (tVar 1) (tCons (tVar 2) (tCons (tMeth A.cReader "read_deed" (up (S_Reader_read_deed K A)) [] E (tVar 0) tNil) tNil)))))
def t_Reader_read_triple (K : PySem.W.Frag) (A : Ad) (E : XK) : TS := tSeq (tAsg (tMeth A.cReader "read_number" (up (S_Reader_read_number K A)) [] E (tVar 0) tNil) (gName 1)) (t_Reader_read_triple_1 K A E)
theorem len_Reader_read_triple {K : PySem.W.Frag} {A : Ad} : ∀ vs G Q E, S_Reader_read_triple K A vs G Q E → vs.length = ["self"].length := lenQ
theorem mon_Reader_read_triple {K : PySem.W.Frag} {A : Ad} : ∀ vs G Q E E', S_Reader_read_triple K A vs G Q E → (∀ c d G', E c d G' → E' c d G') → S_Reader_read_triple K A vs G Q E' := monQ
theorem ok_Reader_read_triple {K : PySem.W.Frag} {A : Ad} (C : Cf K A) : ∀ vs G Q E, S_Reader_read_triple K A vs G Q (dn E) → Es (t_Reader_read_triple K A E) { nx := fun _ G' => Q .non G', rt := Q } (L2.start ["self", "replica", "place"] vs) G := by
  rintro vs G Q E ⟨x, dx, p, bs, a, rfl, hr, hq, he⟩
  change Es _ _ (_ :: _ :: _ :: []) _
  k_extra "e"
  refine ee_rd rfl hr (by decide +kernel) (by decide +kernel) (fun n b v G1 h e hv => ?_) (fun h b G' e => he (by unfold rdT rdM; rw [h]) b G' e)
  cases hv
  k_extra "e"
  k_extra "e"
  refine ee_rd rfl (hr.next e) (by decide +kernel) (by decide +kernel) (fun r b2 v G2 h2 e2 hv => ?_) (fun h2 b G' e2 => he (by unfold rdT rdM; rw [h]; simp only; rw [h2]) b G' (ex_at e e2))
  cases hv
  have em : rdM bs a = some ((n, r), b2) := by unfold rdM; rw [h]; simp only; rw [h2]
  k_extra "e"
  k_extra "e"
  refine ee_rd rfl ((hr.next e).next e2) (by decide +kernel) (by decide +kernel) (fun d b3 v G3 h3 e3 hv => ?_) (fun h3 b G' e3 => he (by unfold rdT; rw [em]; simp only; rw [h3]; rfl) b G' (ex_at e (ex_at e2 e3)))
  k_extra "e"
  refine ⟨sz1000 (by simp), fun t ht => ?_⟩
  exact hq (n, r, d) b3 _ _ (by unfold rdT; rw [em]; simp only; rw [h3]; rfl) ((ex_at e (ex_at e2 e3)).trans (Ex.new ht)) (.tup (SqT.of upd_same) (.cons (.int _) (.cons (.int _) (.cons ((Ex.new ht).tx.im hv) .nil))))
def S_Reader_read_triples (K : PySem.W.Frag) (A : Ad) : Pm := RdQ K A (RTs K) rdTs
/-! Reader.read_triples -/
def t_Reader_read_triples (K : PySem.W.Frag) (A : Ad) (E : XK) : TS := (tRet (tLc (iRng1 (tCons (tMeth A.cReader "read_count" (up (S_Reader_read_count K A)) [] E (tVar 0) tNil) tNil)) (gName 1) tYes (tMeth A.cReader "read_triple" (up (S_Reader_read_triple K A)) [] E (tVar 0) tNil) [1]))
theorem len_Reader_read_triples {K : PySem.W.Frag} {A : Ad} : ∀ vs G Q E, S_Reader_read_triples K A vs G Q E → vs.length = ["self"].length := lenQ
theorem mon_Reader_read_triples {K : PySem.W.Frag} {A : Ad} : ∀ vs G Q E E', S_Reader_read_triples K A vs G Q E → (∀ c d G', E c d G' → E' c d G') → S_Reader_read_triples K A vs G Q E' := monQ
theorem ok_Reader_read_triples {K : PySem.W.Frag} {A : Ad} (C : Cf K A) : ∀ vs G Q E, S_Reader_read_triples K A vs G Q (dn E) → Es (t_Reader_read_triples K A E) { nx := fun _ G' => Q .non G', rt := Q } (L2.start ["self", "_"] vs) G := by
  rintro vs G Q E ⟨x, dx, p, bs, a, rfl, hr, hq, he⟩
  change Es _ _ (_ :: _ :: []) _
  k_extra "e"
  refine ee_lcR (R := RT K) (f := rdT) RT_st rfl (by decide) hr (by decide +kernel) (by decide +kernel) (fun xs b pl acc G' h hx e hp hA => ?_) (fun h b G' e => he h b G' e)
  exact hq xs b _ _ h e ⟨pl, acc, rfl, hp, all2_im hA⟩
def S_Reader_read_packet (K : PySem.W.Frag) (A : Ad) : Pm := RdQ K A (RTs K) rdP
/-! Reader.read_packet -/
def t_Reader_read_packet (K : PySem.W.Frag) (A : Ad) (E : XK) : TS := tSeq (tIfS (tTest (tOp (rNeU K) (tMeth A.cReader "read_byte" (up (S_Reader_read_byte K A)) [] E (tVar 0) tNil) (tC (.int 1)))) (tRz A.cDamagedPacket E) tNext) (tRet (tMeth A.cReader "read_triples" (up (S_Reader_read_triples K A)) [] E (tVar 0) tNil))
theorem len_Reader_read_packet {K : PySem.W.Frag} {A : Ad} : ∀ vs G Q E, S_Reader_read_packet K A vs G Q E → vs.length = ["self"].length := lenQ
theorem mon_Reader_read_packet {K : PySem.W.Frag} {A : Ad} : ∀ vs G Q E E', S_Reader_read_packet K A vs G Q E → (∀ c d G', E c d G' → E' c d G') → S_Reader_read_packet K A vs G Q E' := monQ
theorem ok_Reader_read_packet {K : PySem.W.Frag} {A : Ad} (C : Cf K A) : ∀ vs G Q E, S_Reader_read_packet K A vs G Q (dn E) → Es (t_Reader_read_packet K A E) { nx := fun _ G' => Q .non G', rt := Q } (L2.start ["self"] vs) G := by
  rintro vs G Q E ⟨x, dx, p, bs, a, rfl, hr, hq, he⟩
  change Es _ _ (_ :: []) _
  k_extra "e"
  refine ee_rd rfl hr (by decide +kernel) (by decide +kernel) (fun n b v G1 h e hv => ?_) (fun h b G' e => he (by unfold rdP; rw [h]) b G' e)
  cases hv
  have e0 : rdP bs a = if n = 1 then rdTs bs b else none := by unfold rdP; rw [h]
  k_extra "e"
  refine ifnd (fun h1 => ?_) (fun h1 => ?_)
  · exact es_rz (he (by rw [e0, if_neg h1]) _ _ e)
  · k_extra "e"
    k_extra "e"
    refine ee_rd rfl (hr.next e) (by decide +kernel) (by decide +kernel) (fun ts b2 v G2 h2 e2 hv => ?_) (fun h2 b' G' e2 => he (by rw [e0, if_pos h1, h2]) b' G' (ex_at e e2))
    exact hq ts b2 _ _ (by rw [e0, if_pos h1, h2]) (ex_at e e2) hv
end Lw

namespace Lw
open PySem PySem.Spec PyProof.Rows L2
local macro_rules | `(tactic| k_extra "x1") => `(tactic| first
  | with_reducible refine es_seq ?_
  | with_reducible refine es_asg ?_
  | with_reducible refine es_if ?_
  | with_reducible refine es_ret ?_
  | with_reducible refine es_drop ?_
  | with_reducible refine es_next ?_
  | with_reducible refine es_augS ?_
  | with_reducible refine es_fld ?_
  | ((with_reducible show Ee (tVar _) _ _ _); refine ee_var rfl ?_)
  | with_reducible refine ee_c ?_
  | with_reducible refine ee_op ?_
  | with_reducible refine ee_un ?_
  | with_reducible refine eu_neg ?_
  | with_reducible refine ee_cb ?_
  | with_reducible refine ee_call ?_
  | with_reducible refine ea_nil ?_
  | with_reducible refine ea_cons ?_
  | with_reducible refine ee_sl ?_
  | with_reducible refine eo_no ?_
  | with_reducible refine eo_part ?_
  | with_reducible refine ee_tup ?_
  | with_reducible refine ee_lst ?_
  | with_reducible refine et_test ?_
  | with_reducible refine et_tB ?_
  | with_reducible refine et_tru ?_
  | with_reducible refine et_and ?_
  | with_reducible refine et_or ?_
  | with_reducible refine et_not ?_
  | with_reducible refine ee_and ?_
  | with_reducible refine ee_or ?_
  | with_reducible refine ee_not ?_
  | with_reducible refine ee_if ?_
  | with_reducible refine ee_chain ?_
  | with_reducible refine er_addI ?_
  | with_reducible refine er_subI ?_
  | with_reducible refine er_eqI ?_
  | with_reducible refine er_neI ?_
  | with_reducible refine er_eqNI ?_
  | with_reducible refine er_eqS ?_
  | with_reducible refine er_neS ?_
  | with_reducible refine er_eqB ?_
  | with_reducible refine er_neB ?_
  | with_reducible refine er_lt ?_
  | with_reducible refine er_le ?_
  | with_reducible refine er_gt ?_
  | with_reducible refine er_ge ?_
  | with_reducible refine er_isN_non ?_
  | with_reducible refine er_isN_bl ?_
  | with_reducible refine er_isN_int ?_
  | with_reducible refine er_isN_str ?_
  | with_reducible refine er_isN_ref ?_
  | with_reducible refine er_notN_non ?_
  | with_reducible refine er_notN_bl ?_
  | with_reducible refine er_notN_int ?_
  | with_reducible refine er_notN_str ?_
  | with_reducible refine er_notN_ref ?_
  | with_reducible refine er_isN ?_
  | with_reducible refine er_notN ?_
  | with_reducible refine ec_int ?_
  | with_reducible refine ec_intB ?_
  | with_reducible refine ec_max2 ?_
  | with_reducible refine ec_min2 ?_
  | with_reducible refine ip_I ?_
  | ((with_reducible refine eg_name ?_); (try dsimp only [L2.wipe, List.set_cons_zero, List.set_cons_succ]))
  | with_reducible refine eg_sub ?_
  | with_reducible refine egs_cons ?_
  | with_reducible refine egs_nil ?_
  | with_reducible refine tru_bl ?_
  | with_reducible refine tru_int ?_
  | with_reducible refine tru_non ?_
  | with_reducible refine iteT ?_
  | with_reducible refine iteF ?_
  | with_reducible refine ite_nt ?_
  | with_reducible refine ite_nf ?_
  | with_reducible refine ⟨_, rfl, ?_⟩)
local macro_rules | `(tactic| k_extra "s") => `(tactic| ((first | k_extra "x1" | ((with_reducible refine es_unf ?_); refine es_seq ?_)); (repeat k_extra "x1")))
local macro_rules | `(tactic| k_extra "x") => `(tactic| (repeat first | k_extra "x1" | ((with_reducible refine es_unf ?_); refine es_seq ?_)))
local macro_rules | `(tactic| k_extra "start") => `(tactic| dsimp only [L2.start, List.map_cons, List.map_nil, List.length_cons, List.length_nil, Nat.reduceAdd, Nat.reduceSub, List.replicate, List.cons_append, List.nil_append, Nat.zero_add])
local macro_rules | `(tactic| k_extra "e1") => `(tactic| first
  | with_reducible refine es_next ?_
  | ((with_reducible show Ee (tVar _) _ _ _); refine ee_var rfl ?_)
  | with_reducible refine ee_c ?_
  | with_reducible refine ee_op ?_
  | with_reducible refine ee_un ?_
  | with_reducible refine eu_neg ?_
  | with_reducible refine ee_cb ?_
  | with_reducible refine ee_call ?_
  | with_reducible refine ea_nil ?_
  | with_reducible refine ea_cons ?_
  | with_reducible refine ee_sl ?_
  | with_reducible refine eo_no ?_
  | with_reducible refine eo_part ?_
  | with_reducible refine ee_tup ?_
  | with_reducible refine ee_lst ?_
  | with_reducible refine et_test ?_
  | with_reducible refine et_tB ?_
  | with_reducible refine et_tru ?_
  | with_reducible refine et_and ?_
  | with_reducible refine et_or ?_
  | with_reducible refine et_not ?_
  | with_reducible refine ee_and ?_
  | with_reducible refine ee_or ?_
  | with_reducible refine ee_not ?_
  | with_reducible refine ee_if ?_
  | with_reducible refine ee_chain ?_
  | with_reducible refine er_addI ?_
  | with_reducible refine er_subI ?_
  | with_reducible refine er_eqI ?_
  | with_reducible refine er_neI ?_
  | with_reducible refine er_eqNI ?_
  | with_reducible refine er_eqS ?_
  | with_reducible refine er_neS ?_
  | with_reducible refine er_eqB ?_
  | with_reducible refine er_neB ?_
  | with_reducible refine er_lt ?_
  | with_reducible refine er_le ?_
  | with_reducible refine er_gt ?_
  | with_reducible refine er_ge ?_
  | with_reducible refine er_isN_non ?_
  | with_reducible refine er_isN_bl ?_
  | with_reducible refine er_isN_int ?_
  | with_reducible refine er_isN_str ?_
  | with_reducible refine er_isN_ref ?_
  | with_reducible refine er_notN_non ?_
  | with_reducible refine er_notN_bl ?_
  | with_reducible refine er_notN_int ?_
  | with_reducible refine er_notN_str ?_
  | with_reducible refine er_notN_ref ?_
  | with_reducible refine er_isN ?_
  | with_reducible refine er_notN ?_
  | with_reducible refine ec_int ?_
  | with_reducible refine ec_intB ?_
  | with_reducible refine ec_max2 ?_
  | with_reducible refine ec_min2 ?_
  | with_reducible refine ip_I ?_
  | ((with_reducible refine eg_name ?_); (try dsimp only [L2.wipe, List.set_cons_zero, List.set_cons_succ]))
  | with_reducible refine eg_sub ?_
  | with_reducible refine egs_cons ?_
  | with_reducible refine egs_nil ?_
  | with_reducible refine tru_bl ?_
  | with_reducible refine tru_int ?_
  | with_reducible refine tru_non ?_
  | with_reducible refine iteT ?_
  | with_reducible refine iteF ?_
  | with_reducible refine ite_nt ?_
  | with_reducible refine ite_nf ?_
  | with_reducible refine ex_bl ?_
  | with_reducible refine ex_int ?_
  | with_reducible refine ex_str ?_
  | with_reducible refine ex_strx ?_
  | with_reducible refine ex_ints1 ?_
  | with_reducible refine ex_ints2 ?_)
local macro_rules | `(tactic| k_extra "t1") => `(tactic| first
  | with_reducible refine es_asg ?_
  | with_reducible refine es_if ?_
  | with_reducible refine es_ret ?_
  | with_reducible refine es_drop ?_
  | with_reducible refine es_augS ?_
  | with_reducible refine es_fld ?_)
local macro_rules | `(tactic| k_extra "e") => `(tactic| first
  | ((with_reducible refine es_seq ?_); (try k_extra "t1"); (repeat k_extra "e1"))
  | (k_extra "t1"; (repeat k_extra "e1"))
  | (k_extra "e1"; (repeat k_extra "e1"))
  | ((with_reducible refine es_unf ?_); (refine es_seq ?_); (try k_extra "t1"); (repeat k_extra "e1")))
/-! ### the writers -/
def Li (G : Hp) (p : Addr) (w : List Int) : Prop := G p = some (.lst (w.map V.int))
def WrQ (w : List Int) (G : Hp) (Q : V → Hp → Prop) : Prop := ∀ G' p, Ex G G' → G' p = none → Q (.ref p) (upd G' p (.lst (w.map V.int)))
theorem Li.up {G G' : Hp} {p : Addr} {w : List Int} (h : Li G p w) (e : Ex G G') : Li G' p w := e _ _ h
theorem li_new {G : Hp} {p : Addr} {w : List Int} : Li (upd G p (.lst (w.map V.int))) p w := upd_same
theorem er_li {K : PySem.W.Frag} {G : Hp} {Q : V → Hp → Prop} {a b : Addr} {x y : List Int} (h : Li G a x) (h' : Li G b y) (hz : x.length + y.length ≤ 8000000) (q : ∀ p, G p = none → Q (.ref p) (upd G p (.lst ((x ++ y).map V.int)))) : Er (rAddU K) (.ref a) (.ref b) G Q :=
  er_addL h h' (by rw [List.length_map, List.length_map]; exact szM (by omega)) (by rw [← List.map_append]; exact q)
inductive Els (F : Hp) : List V → List (List Int) → Prop
  | nil : Els F [] []
  | cons {p : Addr} {d : List Int} {vs : List V} {ds : List (List Int)} : F p = some (.lst (d.map V.int)) → Els F vs ds → Els F (.ref p :: vs) (d :: ds)
theorem Els.up {F G : Hp} (e : Ex F G) : ∀ {vs : List V} {ds : List (List Int)}, Els F vs ds → Els G vs ds
  | _, _, .nil => .nil
  | _, _, .cons h t => .cons (e _ _ h) (Els.up e t)
theorem Els.snoc {F : Hp} {p : Addr} {d : List Int} (h : F p = some (.lst (d.map V.int))) : ∀ {vs : List V} {ds : List (List Int)}, Els F vs ds → Els F (vs ++ [.ref p]) (ds ++ [d])
  | _, _, .nil => .cons h .nil
  | _, _, .cons h' t => .cons h' (Els.snoc h t)
theorem Els.len {F : Hp} : ∀ {vs : List V} {ds : List (List Int)}, Els F vs ds → vs.length = ds.length
  | _, _, .nil => rfl
  | _, _, .cons _ t => by rw [List.length_cons, List.length_cons, Els.len t]
theorem Els.get {F : Hp} : ∀ {vs : List V} {ds : List (List Int)} {i : Nat} {v : V}, Els F vs ds → vs[i]? = some v → ∃ p d, v = .ref p ∧ ds[i]? = some d ∧ F p = some (.lst (d.map V.int))
  | _, _, 0, _, .cons h _, e => by obtain rfl := Option.some.inj e; exact ⟨_, _, rfl, rfl, h⟩
  | _, _, i + 1, _, .cons _ t, e => Els.get (i := i) t e
theorem take_next {α : Type} {d : List α} {i : Nat} {b : α} (h : d[i]? = some b) : d.take (i + 1) = d.take i ++ [b] := by
  rw [List.take_add_one, h]; rfl
theorem take_flat {ds : List (List Int)} (i : Nat) : ((ds.take i).flatten).length ≤ ds.flatten.length := by
  conv => rhs; rw [← List.take_append_drop i ds, List.flatten_append, List.length_append]
  omega
def S_write_number (K : PySem.W.Frag) (A : Ad) : Pm := fun vs G Q _ => ∃ n : Nat, vs = [.int n] ∧ (wrN n).length ≤ 1000000 ∧ WrQ (wrN n) G Q
/-! write_number -/
def t_write_number_1 (K : PySem.W.Frag) (A : Ad) : TS := tSeq (tDrop (tBM K "list" (rAppend) (tVar 1) (tCons (tOp (rAddU K) (tOp (rModU) (tVar 0) (tC (.int 128))) (tC (.int 128))) tNil))) (tAsg (tOp (rDivU) (tVar 0) (tC (.int 128))) (gName 0))
def t_write_number_2 (K : PySem.W.Frag) (A : Ad) : TS := tSeq (tWhile (tTest (tOp (rGeI) (tVar 0) (tC (.int 128)))) (t_write_number_1 K A)) (tRet (tOp (rAddU K) (tVar 1) (tLst (tCons (tVar 0) tNil))))
def t_write_number (K : PySem.W.Frag) (A : Ad) : TS := tSeq (tAsg (tLst tNil) (gName 1)) (t_write_number_2 K A)
theorem len_write_number {K : PySem.W.Frag} {A : Ad} : ∀ vs G Q E, S_write_number K A vs G Q E → vs.length = ["number"].length := by
  rintro vs G Q E ⟨n, rfl, _⟩; rfl
theorem ok_write_number {K : PySem.W.Frag} {A : Ad} : ∀ vs G Q E, S_write_number K A vs G Q E → Es (t_write_number K A) { nx := fun _ G' => Q .non G', rt := Q } (L2.start ["number", "data"] vs) G := by
  rintro vs G Q E ⟨n, rfl, hn, q⟩
  change Es _ _ (_ :: _ :: []) _
  k_extra "e"
  refine ⟨Nat.zero_le _, fun l hl => ?_⟩
  k_extra "e"
  refine es_seq (es_while (fun m σ G' => ∃ (k : Nat) (ys : List Int), σ = [some (.int k), some (.ref l)] ∧ k = m ∧ G' = upd G l (.lst (ys.map V.int)) ∧ ys ++ wrN k = wrN n) n ⟨n, [], rfl, rfl, rfl, rfl⟩ ?_)
  rintro m σ G' ⟨k, ys, rfl, rfl, rfl, hs⟩
  have hlen := congrArg List.length hs
  rw [List.length_append] at hlen
  k_extra "e"
  refine ifd (fun h => ?_) (fun h => ?_)
  · have h128 : ¬ k < 128 := by omega
    k_extra "e"
    refine ee_bm ?_
    k_extra "e"
    refine ⟨ty_lst upd_same, ?_⟩
    k_extra "e"
    refine er_mod (by decide) ?_
    k_extra "e"
    refine em_append upd_same (by rw [List.length_map]; exact szlt (by omega)) ?_
    rw [upd_upd]
    k_extra "e"
    refine er_div (by decide) ?_
    k_extra "e"
    refine ⟨k / 128, by omega, k / 128, ys ++ [((k % 128 + 128 : Nat) : Int)], rfl, rfl, ?_, ?_⟩
    · congr 2; simp
    · rw [← hs, List.append_assoc, wrN_ge h128]; rfl
  · have h128 : k < 128 := by omega
    k_extra "e"
    refine ⟨sz1000 (by simp), fun p hp => ?_⟩
    refine er_li (x := ys) (y := [(k : Int)]) (get_new upd_same hp) upd_same (by simp; omega) fun r hr => ?_
    have e1 : ys ++ [(k : Int)] = wrN n := by rw [← hs, wrN_lt h128]
    rw [e1]
    exact q _ r ((Ex.new hl).trans (Ex.new hp)) hr
def S_write_list (K : PySem.W.Frag) (A : Ad) : Pm := fun vs G Q _ => ∃ (pi : Addr) (us : List V) (items : List (List Int)), vs = [.ref pi] ∧ G pi = some (.lst us) ∧ Els G us items ∧ items.length + (wrL items).length ≤ 1000000 ∧ WrQ (wrL items) G Q
/-! write_list -/
def t_write_list_1 (K : PySem.W.Frag) (A : Ad) : TS := tSeq (tFor (iList K (tVar 0)) (gName 2) (tDrop (tBM K "list" (rExtend) (tVar 1) (tCons (tVar 2) tNil)))) (tRet (tVar 1))
def t_write_list (K : PySem.W.Frag) (A : Ad) : TS := tSeq (tAsg (tCall (up (S_write_number K A)) [] E0 (tCons (tCB (rLenU K) (tCons (tVar 0) tNil)) tNil)) (gName 1)) (t_write_list_1 K A)
theorem len_write_list {K : PySem.W.Frag} {A : Ad} : ∀ vs G Q E, S_write_list K A vs G Q E → vs.length = ["items"].length := by
  rintro vs G Q E ⟨n, us, items, rfl, _⟩; rfl
theorem wrL_len (items : List (List Int)) : (wrL items).length = (wrN items.length).length + items.flatten.length := by unfold wrL; rw [List.length_append]
theorem ok_write_list {K : PySem.W.Frag} {A : Ad} : ∀ vs G Q E, S_write_list K A vs G Q E → Es (t_write_list K A) { nx := fun _ G' => Q .non G', rt := Q } (L2.start ["items", "data", "item"] vs) G := by
  rintro vs G Q E ⟨pi, us, items, rfl, hp, hE, hn, q⟩
  change Es _ _ (_ :: _ :: _ :: []) _
  have hl := wrL_len items
  k_extra "e"
  refine ec_lenL (SqL.of hp) fun _ => ?_
  rw [hE.len]
  k_extra "e"
  refine ⟨items.length, rfl, by omega, fun G1 l e1 hl1 => ?_⟩
  k_extra "e"
  k_extra "e"
  refine es_forL ?_
  k_extra "e"
  have hp1 := e1 _ _ hp
  refine ⟨pi, us, rfl, SqL.of (get_new hp1 hl1), fun i σ G' => ∃ c, σ = [some (.ref pi), some (.ref l), c] ∧ G' = upd G1 l (.lst ((wrN items.length ++ (items.take i).flatten).map V.int)), ⟨_, rfl, by simp⟩, ?_, ?_, ?_⟩
  · rintro i σ G' ⟨c, rfl, rfl⟩
    exact SqL.of (get_new hp1 hl1)
  · rintro i v σ G' hv ⟨c, rfl, rfl⟩
    obtain ⟨r, d, rfl, hd, hr⟩ := (hE.up e1).get hv
    have ht := take_flat (ds := items) (i + 1)
    rw [take_next hd, List.flatten_append, List.length_append] at ht
    simp only [List.flatten_cons, List.flatten_nil, List.append_nil] at ht
    k_extra "e"
    k_extra "e"
    refine ee_bm ?_
    k_extra "e"
    refine ⟨ty_lst upd_same, ?_⟩
    k_extra "e"
    refine em_extend upd_same (get_new hr hl1) (by rw [List.length_map, List.length_map, List.length_append]; exact szM (by omega)) ?_
    refine ⟨_, rfl, ?_⟩
    rw [upd_upd, take_next hd, ← List.map_append, List.flatten_append, ← List.append_assoc]
    simp
  · rintro σ G' ⟨c, rfl, rfl⟩
    rw [hE.len, List.take_length]
    k_extra "e"
    exact q _ l e1 hl1
def S_write_string (K : PySem.W.Frag) (A : Ad) : Pm := fun vs G Q _ => ∃ s : List Nat, vs = [.str (mkS s)] ∧ s.length + (wrS s).length ≤ 1000000 ∧ WrQ (wrS s) G Q
/-! write_string -/
def t_write_string (K : PySem.W.Frag) (A : Ad) : TS := (tRet (tCall (up (S_write_list K A)) [] E0 (tCons (tLc (iStr (tVar 0)) (gName 1) tYes (tCall (up (S_write_number K A)) [] E0 (tCons (tCB (rOrdU) (tCons (tVar 1) tNil)) tNil)) [1]) tNil)))
theorem len_write_string {K : PySem.W.Frag} {A : Ad} : ∀ vs G Q E, S_write_string K A vs G Q E → vs.length = ["text"].length := by
  rintro vs G Q E ⟨n, rfl, _⟩; rfl
theorem mkS_at {s : List Nat} {i c : Nat} (h : (mkS s).cps[i]? = some c) : s[i]? = some c := by
  unfold mkS at h; simpa using h
theorem mkS_sz (s : List Nat) : (mkS s).cps.size = s.length := by simp [mkS]
theorem flat_item {ds : List (List Int)} {i : Nat} {d : List Int} (h : ds[i]? = some d) : d.length ≤ ds.flatten.length := by
  have := take_flat (ds := ds) (i + 1)
  rw [take_next h, List.flatten_append, List.length_append] at this
  simp only [List.flatten_cons, List.flatten_nil, List.append_nil] at this
  omega
theorem ok_write_string {K : PySem.W.Frag} {A : Ad} : ∀ vs G Q E, S_write_string K A vs G Q E → Es (t_write_string K A) { nx := fun _ G' => Q .non G', rt := Q } (L2.start ["text", "character"] vs) G := by
  rintro vs G Q E ⟨s, rfl, hn, q⟩
  change Es _ _ (_ :: _ :: []) _
  have hl : (wrS s).length = _ := wrL_len (s.map wrN)
  k_extra "e"
  refine ee_lcS ?_
  k_extra "e"
  refine fun p hp => ⟨fun i acc G' => Ex G G' ∧ G' p = none ∧ Els G' acc ((s.take i).map wrN), ⟨Ex.refl _, hp, .nil⟩, ?_, ?_, ?_⟩
  · rintro i acc G' ⟨x1, x2, x3⟩
    refine ⟨x2, szlt ?_⟩
    rw [x3.len, List.length_map, List.length_take]; omega
  · rintro i acc c G' hc ⟨x1, x2, x3⟩
    have hc := mkS_at hc
    have hi : (wrN c).length ≤ (s.map wrN).flatten.length := flat_item (i := i) (by rw [List.getElem?_map, hc]; rfl)
    refine ⟨rfl, et_yes ?_⟩
    refine iteT ?_
    dsimp only [L2.wipe, List.set_cons_zero, List.set_cons_succ]
    k_extra "e"
    refine ec_ord (by rfl) ?_
    k_extra "e"
    refine ⟨c, rfl, by omega, fun G2 r e2 hr => ?_⟩
    have g2 : upd G2 r (.lst ((wrN c).map V.int)) p = some (.lst acc) := get_new (e2 _ _ upd_same) hr
    have e3 : Ex G' (del (upd G2 r (.lst ((wrN c).map V.int))) p) := del_up (((Ex.new x2).trans e2).trans (Ex.new hr)) x2
    refine ⟨g2, _, del_ex g2, x1.trans e3, del_at, ?_⟩
    rw [take_next hc, List.map_append]
    refine Els.snoc ?_ (x3.up e3)
    rw [del_ne (fun z => by rw [z, (e2 _ _ upd_same : G2 p = _)] at hr; cases hr)]
    exact upd_same
  · rintro acc G' ⟨x1, x2, x3⟩
    rw [mkS_sz, List.take_length] at x3
    k_extra "e"
    exact ⟨p, acc, s.map wrN, rfl, upd_same, x3.up (Ex.new x2), by rw [List.length_map]; unfold wrS at hn; omega, fun G2 r e2 hr => q G2 r ((x1.trans (Ex.new x2)).trans e2) hr⟩
def S_write_mark (K : PySem.W.Frag) (A : Ad) : Pm := fun vs G Q _ => ∃ (v : V) (m : Int × Int), vs = [v] ∧ Im K G v (mkD m) ∧ MkOk m ∧ (wrM m).length ≤ 1000000 ∧ WrQ (wrM m) G Q
/-! write_mark -/
def t_write_mark (K : PySem.W.Frag) (A : Ad) : TS := (tRet (tOp (rAddU K) (tCall (up (S_write_number K A)) [] E0 (tCons (tOp (rIx K) (tVar 0) (tC (.int 0))) tNil)) (tCall (up (S_write_number K A)) [] E0 (tCons (tOp (rIx K) (tVar 0) (tC (.int 1))) tNil))))
theorem len_write_mark {K : PySem.W.Frag} {A : Ad} : ∀ vs G Q E, S_write_mark K A vs G Q E → vs.length = ["mark"].length := by
  rintro vs G Q E ⟨n, m, rfl, _⟩; rfl
theorem im_int {K : PySem.W.Frag} {G : Hp} {x : V} {i : Int} (h : Im K G x (.int i)) : x = .int i := by cases h; rfl
theorem im_str {K : PySem.W.Frag} {G : Hp} {x : V} {i : Str} (h : Im K G x (.str i)) : x = .str i := by cases h; rfl
theorem im_mark {K : PySem.W.Frag} {G : Hp} {v : V} {m : Int × Int} (h : Im K G v (mkD m)) : ∃ t, v = .ref t ∧ SqT K G t [.int m.1, .int m.2] := by
  obtain ⟨t, xs, rfl, ht, hx⟩ := im_tup h
  cases hx with
  | cons a hx => cases hx with
    | cons b hx => cases hx; cases im_int a; cases im_int b; exact ⟨t, rfl, ht⟩
theorem nat_of {n : Int} (h : 0 ≤ n) : n = ((n.toNat : Nat) : Int) := (Int.toNat_of_nonneg h).symm
theorem ok_write_mark {K : PySem.W.Frag} {A : Ad} : ∀ vs G Q E, S_write_mark K A vs G Q E → Es (t_write_mark K A) { nx := fun _ G' => Q .non G', rt := Q } (L2.start ["mark"] vs) G := by
  rintro vs G Q E ⟨v, m, rfl, hI, hm, hn, q⟩
  change Es _ _ (_ :: []) _
  obtain ⟨t, rfl, ht⟩ := im_mark hI
  have hl : (wrM m).length = (wrN m.1.toNat).length + (wrN m.2.toNat).length := by unfold wrM; rw [List.length_append]
  k_extra "e"
  refine er_ixT ht (atI_nat (j := 0) rfl) ?_
  k_extra "e"
  refine ⟨m.1.toNat, by rw [← nat_of hm.1.1]; rfl, by omega, fun G1 r1 e1 hr1 => ?_⟩
  k_extra "e"
  refine er_ixT ((e1.trans (Ex.new hr1)).st ht) (atI_nat (j := 1) rfl) ?_
  k_extra "e"
  refine ⟨m.2.toNat, by rw [← nat_of hm.2.1]; rfl, by omega, fun G2 r2 e2 hr2 => ?_⟩
  refine er_li (get_new (e2 _ _ upd_same) hr2) upd_same (by omega) fun r3 hr3 => ?_
  exact q _ r3 (((e1.trans (Ex.new hr1)).trans e2).trans (Ex.new hr2)) hr3
end Lw

namespace Lw
open PySem PySem.Spec PyProof.Rows L2
local macro_rules | `(tactic| k_extra "x1") => `(tactic| first
  | with_reducible refine es_seq ?_
  | with_reducible refine es_asg ?_
  | with_reducible refine es_if ?_
  | with_reducible refine es_ret ?_
  | with_reducible refine es_drop ?_
  | with_reducible refine es_next ?_
  | with_reducible refine es_augS ?_
  | with_reducible refine es_fld ?_
  | ((with_reducible show Ee (tVar _) _ _ _); refine ee_var rfl ?_)
  | with_reducible refine ee_c ?_
  | with_reducible refine ee_op ?_
  | with_reducible refine ee_un ?_
  | with_reducible refine eu_neg ?_
  | with_reducible refine ee_cb ?_
  | with_reducible refine ee_call ?_
  | with_reducible refine ea_nil ?_
  | with_reducible refine ea_cons ?_
  | with_reducible refine ee_sl ?_
  | with_reducible refine eo_no ?_
  | with_reducible refine eo_part ?_
  | with_reducible refine ee_tup ?_
  | with_reducible refine ee_lst ?_
  | with_reducible refine et_test ?_
  | with_reducible refine et_tB ?_
  | with_reducible refine et_tru ?_
  | with_reducible refine et_and ?_
  | with_reducible refine et_or ?_
  | with_reducible refine et_not ?_
  | with_reducible refine ee_and ?_
  | with_reducible refine ee_or ?_
  | with_reducible refine ee_not ?_
  | with_reducible refine ee_if ?_
  | with_reducible refine ee_chain ?_
  | with_reducible refine er_addI ?_
  | with_reducible refine er_subI ?_
  | with_reducible refine er_eqI ?_
  | with_reducible refine er_neI ?_
  | with_reducible refine er_eqNI ?_
  | with_reducible refine er_eqS ?_
  | with_reducible refine er_neS ?_
  | with_reducible refine er_eqB ?_
  | with_reducible refine er_neB ?_
  | with_reducible refine er_lt ?_
  | with_reducible refine er_le ?_
  | with_reducible refine er_gt ?_
  | with_reducible refine er_ge ?_
  | with_reducible refine er_isN_non ?_
  | with_reducible refine er_isN_bl ?_
  | with_reducible refine er_isN_int ?_
  | with_reducible refine er_isN_str ?_
  | with_reducible refine er_isN_ref ?_
  | with_reducible refine er_notN_non ?_
  | with_reducible refine er_notN_bl ?_
  | with_reducible refine er_notN_int ?_
  | with_reducible refine er_notN_str ?_
  | with_reducible refine er_notN_ref ?_
  | with_reducible refine er_isN ?_
  | with_reducible refine er_notN ?_
  | with_reducible refine ec_int ?_
  | with_reducible refine ec_intB ?_
  | with_reducible refine ec_max2 ?_
  | with_reducible refine ec_min2 ?_
  | with_reducible refine ip_I ?_
  | ((with_reducible refine eg_name ?_); (try dsimp only [L2.wipe, List.set_cons_zero, List.set_cons_succ]))
  | with_reducible refine eg_sub ?_
  | with_reducible refine egs_cons ?_
  | with_reducible refine egs_nil ?_
  | with_reducible refine tru_bl ?_
  | with_reducible refine tru_int ?_
  | with_reducible refine tru_non ?_
  | with_reducible refine iteT ?_
  | with_reducible refine iteF ?_
  | with_reducible refine ite_nt ?_
  | with_reducible refine ite_nf ?_
  | with_reducible refine ⟨_, rfl, ?_⟩)
local macro_rules | `(tactic| k_extra "s") => `(tactic| ((first | k_extra "x1" | ((with_reducible refine es_unf ?_); refine es_seq ?_)); (repeat k_extra "x1")))
local macro_rules | `(tactic| k_extra "x") => `(tactic| (repeat first | k_extra "x1" | ((with_reducible refine es_unf ?_); refine es_seq ?_)))
local macro_rules | `(tactic| k_extra "start") => `(tactic| dsimp only [L2.start, List.map_cons, List.map_nil, List.length_cons, List.length_nil, Nat.reduceAdd, Nat.reduceSub, List.replicate, List.cons_append, List.nil_append, Nat.zero_add])
local macro_rules | `(tactic| k_extra "e1") => `(tactic| first
  | with_reducible refine es_next ?_
  | ((with_reducible show Ee (tVar _) _ _ _); refine ee_var rfl ?_)
  | with_reducible refine ee_c ?_
  | with_reducible refine ee_op ?_
  | with_reducible refine ee_un ?_
  | with_reducible refine eu_neg ?_
  | with_reducible refine ee_cb ?_
  | with_reducible refine ee_call ?_
  | with_reducible refine ea_nil ?_
  | with_reducible refine ea_cons ?_
  | with_reducible refine ee_sl ?_
  | with_reducible refine eo_no ?_
  | with_reducible refine eo_part ?_
  | with_reducible refine ee_tup ?_
  | with_reducible refine ee_lst ?_
  | with_reducible refine et_test ?_
  | with_reducible refine et_tB ?_
  | with_reducible refine et_tru ?_
  | with_reducible refine et_and ?_
  | with_reducible refine et_or ?_
  | with_reducible refine et_not ?_
  | with_reducible refine ee_and ?_
  | with_reducible refine ee_or ?_
  | with_reducible refine ee_not ?_
  | with_reducible refine ee_if ?_
  | with_reducible refine ee_chain ?_
  | with_reducible refine er_addI ?_
  | with_reducible refine er_subI ?_
  | with_reducible refine er_eqI ?_
  | with_reducible refine er_neI ?_
  | with_reducible refine er_eqNI ?_
  | with_reducible refine er_eqS ?_
  | with_reducible refine er_neS ?_
  | with_reducible refine er_eqB ?_
  | with_reducible refine er_neB ?_
  | with_reducible refine er_lt ?_
  | with_reducible refine er_le ?_
  | with_reducible refine er_gt ?_
  | with_reducible refine er_ge ?_
  | with_reducible refine er_isN_non ?_
  | with_reducible refine er_isN_bl ?_
  | with_reducible refine er_isN_int ?_
  | with_reducible refine er_isN_str ?_
  | with_reducible refine er_isN_ref ?_
  | with_reducible refine er_notN_non ?_
  | with_reducible refine er_notN_bl ?_
  | with_reducible refine er_notN_int ?_
  | with_reducible refine er_notN_str ?_
  | with_reducible refine er_notN_ref ?_
  | with_reducible refine er_isN ?_
  | with_reducible refine er_notN ?_
  | with_reducible refine ec_int ?_
  | with_reducible refine ec_intB ?_
  | with_reducible refine ec_max2 ?_
  | with_reducible refine ec_min2 ?_
  | with_reducible refine ip_I ?_
  | ((with_reducible refine eg_name ?_); (try dsimp only [L2.wipe, List.set_cons_zero, List.set_cons_succ]))
  | with_reducible refine eg_sub ?_
  | with_reducible refine egs_cons ?_
  | with_reducible refine egs_nil ?_
  | with_reducible refine tru_bl ?_
  | with_reducible refine tru_int ?_
  | with_reducible refine tru_non ?_
  | with_reducible refine iteT ?_
  | with_reducible refine iteF ?_
  | with_reducible refine ite_nt ?_
  | with_reducible refine ite_nf ?_
  | with_reducible refine ex_bl ?_
  | with_reducible refine ex_int ?_
  | with_reducible refine ex_str ?_
  | with_reducible refine ex_strx ?_
  | with_reducible refine ex_ints1 ?_
  | with_reducible refine ex_ints2 ?_)
local macro_rules | `(tactic| k_extra "t1") => `(tactic| first
  | with_reducible refine es_asg ?_
  | with_reducible refine es_if ?_
  | with_reducible refine es_ret ?_
  | with_reducible refine es_drop ?_
  | with_reducible refine es_augS ?_
  | with_reducible refine es_fld ?_)
local macro_rules | `(tactic| k_extra "e") => `(tactic| first
  | ((with_reducible refine es_seq ?_); (try k_extra "t1"); (repeat k_extra "e1"))
  | (k_extra "t1"; (repeat k_extra "e1"))
  | (k_extra "e1"; (repeat k_extra "e1"))
  | ((with_reducible refine es_unf ?_); (refine es_seq ?_); (try k_extra "t1"); (repeat k_extra "e1")))
theorem im_back {K : PySem.W.Frag} {G : Hp} {v : V} {n : Int} (h : Im K G v (Dd.back n).data) : ∃ t, v = .ref t ∧ SqT K G t [.str (Str.ofString "back"), .int n] := by
  obtain ⟨t, xs, rfl, ht, hx⟩ := im_tup h
  cases hx with
  | cons a hx => cases hx with
    | cons b hx => cases hx; cases im_str a; cases im_int b; exact ⟨t, rfl, ht⟩
theorem im_change {K : PySem.W.Frag} {G : Hp} {v : V} {m : List Nat} {rm : List (Int × Int)} {bh : Option (Int × Int)} {n : Int} {tx : List Nat} (h : Im K G v (Dd.change m rm bh n tx).data) :
    ∃ t q us v3, v = .ref t ∧ SqT K G t [.str (Str.ofString "change"), .str (mkS m), .ref q, v3, .int n, .str (mkS tx)] ∧ SqT K G q us ∧ Ims K G us (rm.map mkD) ∧ Im K G v3 (bhD bh) := by
  obtain ⟨t, xs, rfl, ht, hx⟩ := im_tup h
  cases hx with
  | cons h1 hx => cases hx with
    | cons h2 hx => cases hx with
      | cons h3 hx => cases hx with
        | cons h4 hx => cases hx with
          | cons h5 hx => cases hx with
            | cons h6 hx =>
              cases hx
              cases im_str h1; cases im_str h2; cases im_int h5; cases im_str h6
              obtain ⟨q, us, rfl, hq, hu⟩ := im_tup h3
              exact ⟨t, q, us, _, rfl, ht, hq, hu, h4⟩
theorem im_tri {K : PySem.W.Frag} {G : Hp} {v : V} {t : Tri} (h : Im K G v (triD t)) : ∃ q vd, v = .ref q ∧ SqT K G q [.int t.1, .int t.2.1, vd] ∧ Im K G vd t.2.2.data := by
  obtain ⟨q, xs, rfl, hq, hx⟩ := im_tup h
  cases hx with
  | cons h1 hx => cases hx with
    | cons h2 hx => cases hx with
      | cons h3 hx => cases hx; cases im_int h1; cases im_int h2; exact ⟨q, _, rfl, hq, h3⟩
theorem ims_at {K : PySem.W.Frag} {G : Hp} {α : Type} {g : α → PyData} {us : List V} {xs : List α} {i : Nat} {v : V} (h : Ims K G us (xs.map g)) (hv : us[i]? = some v) : ∃ x, xs[i]? = some x ∧ Im K G v (g x) := by
  obtain ⟨d, hd, hi⟩ := ims_get' h hv
  rw [List.getElem?_map] at hd
  obtain ⟨x, hx, rfl⟩ := Option.map_eq_some_iff.mp hd
  exact ⟨x, hx, hi⟩
theorem cb : ¬ (Str.ofString "change" = Str.ofString "back") := by decide +kernel
theorem wrS_ge (s : List Nat) : s.length ≤ (wrS s).length := by
  unfold wrS; rw [wrL_len]; have := flat_len wrN_pos s; omega
def S_write_deed (K : PySem.W.Frag) (A : Ad) : Pm := fun vs G Q _ => ∃ (v : V) (d : Dd), vs = [v] ∧ Im K G v d.data ∧ DOk d ∧ (wrD d).length ≤ 400000 ∧ WrQ (wrD d) G Q
/-! write_deed -/
def t_write_deed_1 (K : PySem.W.Frag) (A : Ad) : TS := tSeq (tDrop (tBM K "list" (rExtend) (tVar 7) (tCons (tIf (tTest (tOp (rIsN) (tVar 4) (tC .non))) (tLst (tCons (tC (.int 0)) tNil)) (tOp (rAddU K) (tLst (tCons (tC (.int 1)) tNil)) (tCall (up (S_write_mark K A)) [] E0 (tCons (tVar 4) tNil)))) tNil))) (tRet (tOp (rAddU K) (tOp (rAddU K) (tVar 7) (tCall (up (S_write_number K A)) [] E0 (tCons (tVar 5) tNil))) (tCall (up (S_write_string K A)) [] E0 (tCons (tVar 6) tNil))))
def t_write_deed_2 (K : PySem.W.Frag) (A : Ad) : TS := tSeq (tAsg (tOp (rAddU K) (tOp (rAddU K) (tLst (tCons (tC (.int 0)) tNil)) (tCall (up (S_write_string K A)) [] E0 (tCons (tVar 2) tNil))) (tCall (up (S_write_list K A)) [] E0 (tCons (tLc (iTup K (tVar 3)) (gName 8) tYes (tCall (up (S_write_mark K A)) [] E0 (tCons (tVar 8) tNil)) [8]) tNil))) (gName 7)) (t_write_deed_1 K A)
def t_write_deed_3 (K : PySem.W.Frag) (A : Ad) : TS := tSeq (tAsg (tVar 0) (gTup K 6 (gCons (gName 1) (gCons (gName 2) (gCons (gName 3) (gCons (gName 4) (gCons (gName 5) (gCons (gName 6) gNil)))))))) (t_write_deed_2 K A)
def t_write_deed (K : PySem.W.Frag) (A : Ad) : TS := tSeq (tIfS (tTest (tOp (rEqU K) (tOp (rIx K) (tVar 0) (tC (.int 0))) (tC (.str "back")))) (tRet (tOp (rAddU K) (tLst (tCons (tC (.int 1)) tNil)) (tCall (up (S_write_number K A)) [] E0 (tCons (tOp (rIx K) (tVar 0) (tC (.int 1))) tNil)))) tNext) (t_write_deed_3 K A)
theorem len_write_deed {K : PySem.W.Frag} {A : Ad} : ∀ vs G Q E, S_write_deed K A vs G Q E → vs.length = ["deed"].length := by
  rintro vs G Q E ⟨v, d, rfl, _⟩; rfl
theorem ok_write_deed {K : PySem.W.Frag} {A : Ad} : ∀ vs G Q E, S_write_deed K A vs G Q E → Es (t_write_deed K A) { nx := fun _ G' => Q .non G', rt := Q } (L2.start ["deed", "_", "module", "removed", "behind", "number", "text", "data", "mark"] vs) G := by
  rintro vs G Q E ⟨v, d, rfl, hI, hd, hn, q⟩
  change Es _ _ (_ :: _ :: _ :: _ :: _ :: _ :: _ :: _ :: _ :: []) _
  cases d with
  | back n =>
    obtain ⟨t, rfl, ht⟩ := im_back hI
    have hl : (wrD (.back n)).length = 1 + (wrN n.toNat).length := by simp [wrD, Nat.add_comm]
    k_extra "e"
    refine er_ixT ht (atI_nat (j := 0) rfl) ?_
    k_extra "e"
    refine ifd (fun _ => ?_) (fun z => absurd rfl z)
    k_extra "e"
    refine ⟨sz1000 (by simp), fun p1 hp1 => ?_⟩
    k_extra "e"
    refine er_ixT ((Ex.new hp1).st ht) (atI_nat (j := 1) rfl) ?_
    k_extra "e"
    refine ⟨n.toNat, by rw [← nat_of hd.1]; rfl, by omega, fun G2 r e2 hr => ?_⟩
    refine er_li (x := [1]) (get_new (e2 _ _ upd_same) hr) upd_same (by simp; omega) fun r3 hr3 => ?_
    exact q _ r3 (((Ex.new hp1).trans e2).trans (Ex.new hr)) hr3
  | change m rm bh n tx =>
    obtain ⟨t, qm, us, v3, rfl, ht, hqm, hus, h3⟩ := im_change hI
    obtain ⟨d1, d2, d3, d4, d5⟩ := hd
    have hl : (wrD (.change m rm bh n tx)).length = 1 + (wrS m).length + (wrL (rm.map wrM)).length + (wrBh bh).length + (wrN n.toNat).length + (wrS tx).length := by
      simp only [wrD, List.length_append, List.length_cons, List.length_nil]
    have hm := wrS_ge m
    have htx := wrS_ge tx
    have hrl := wrL_len (rm.map wrM)
    have hrm := flat_len wrM_pos rm
    k_extra "e"
    refine er_ixT ht (atI_nat (j := 0) rfl) ?_
    k_extra "e"
    refine ifd (fun z => absurd z cb) (fun _ => ?_)
    k_extra "e"
    k_extra "e"
    refine eg_tup ht rfl ?_
    k_extra "e"
    k_extra "e"
    refine ⟨sz1000 (by simp), fun p1 hp1 => ?_⟩
    k_extra "e"
    refine ⟨m, rfl, by omega, fun G2 p2 e2 hp2 => ?_⟩
    refine er_li (x := [0]) (get_new (e2 _ _ upd_same) hp2) upd_same (by simp; omega) fun p3 hp3 => ?_
    have x3 := (((Ex.new (o := .lst (([0] : List Int).map V.int)) hp1).trans e2).trans (Ex.new (o := .lst ((wrS m).map V.int)) hp2)).trans (Ex.new (o := .lst (([0] ++ wrS m).map V.int)) hp3)
    have L3 : Li (upd (upd G2 p2 (.lst ((wrS m).map V.int))) p3 (.lst (([0] ++ wrS m).map V.int))) p3 ([0] ++ wrS m) := li_new
    generalize upd (upd G2 p2 (.lst ((wrS m).map V.int))) p3 (.lst (([0] ++ wrS m).map V.int)) = G3 at x3 L3 ⊢
    k_extra "e"
    refine ee_lcT ?_
    k_extra "e"
    refine ⟨qm, us, rfl, x3.st hqm, fun p hp => ⟨fun i acc G' => Ex G3 G' ∧ G' p = none ∧ Els G' acc ((rm.take i).map wrM), ⟨Ex.refl _, hp, .nil⟩, ?_, ?_, ?_⟩⟩
    · rintro i acc G' ⟨x1, x2, y3⟩
      refine ⟨x2, szlt ?_, x1.st (x3.st hqm)⟩
      rw [y3.len, List.length_map, List.length_take]; omega
    · rintro i acc u G' hu ⟨x1, x2, y3⟩
      obtain ⟨mk, hmk, hIm⟩ := ims_at hus hu
      have hi : (wrM mk).length ≤ (rm.map wrM).flatten.length := flat_item (i := i) (by rw [List.getElem?_map, hmk]; rfl)
      refine eg_name ⟨rfl, et_yes ?_⟩
      refine iteT ?_
      dsimp only [L2.wipe, List.set_cons_zero, List.set_cons_succ]
      k_extra "e"
      refine ⟨u, mk, rfl, (x3.trans (x1.trans (Ex.new x2))).tx.im hIm, d2 mk (List.mem_of_getElem? hmk), by omega, fun G4 r e4 hr => ?_⟩
      have g2 : upd G4 r (.lst ((wrM mk).map V.int)) p = some (.lst acc) := get_new (e4 _ _ upd_same) hr
      have e5 : Ex G' (del (upd G4 r (.lst ((wrM mk).map V.int))) p) := del_up (((Ex.new x2).trans e4).trans (Ex.new hr)) x2
      refine ⟨g2, _, del_ex g2, x1.trans e5, del_at, ?_⟩
      rw [take_next hmk, List.map_append]
      refine Els.snoc ?_ (y3.up e5)
      rw [del_ne (fun z => by rw [z, (e4 _ _ upd_same : G4 p = _)] at hr; cases hr)]
      exact upd_same
    rintro acc G4 ⟨x4, hp4, hE⟩
    have hlen := ims_len hus
    rw [List.length_map] at hlen
    rw [hlen, List.take_length] at hE
    k_extra "e"
    refine ⟨p, acc, rm.map wrM, rfl, upd_same, hE.up (Ex.new hp4), by rw [List.length_map]; omega, fun G5 p5 e5 hp5 => ?_⟩
    have x5 := ((x4.trans (Ex.new (o := .lst acc) hp4)).trans e5).trans (Ex.new (o := .lst ((wrL (rm.map wrM)).map V.int)) hp5)
    refine er_li (L3.up x5) li_new (by simp; omega) fun pd hpd => ?_
    have x6 := (x3.trans x5).trans (Ex.new (o := .lst (([0] ++ wrS m ++ wrL (rm.map wrM)).map V.int)) hpd)
    have L6 : Li (upd (upd G5 p5 (.lst ((wrL (rm.map wrM)).map V.int))) pd (.lst (([0] ++ wrS m ++ wrL (rm.map wrM)).map V.int))) pd ([0] ++ wrS m ++ wrL (rm.map wrM)) := li_new
    have nG : G pd = none := (x3.trans x5).nul hpd
    generalize upd (upd G5 p5 (.lst ((wrL (rm.map wrM)).map V.int))) pd (.lst (([0] ++ wrS m ++ wrL (rm.map wrM)).map V.int)) = G6 at x6 L6 ⊢
    -- what stands behind the character
    have fin : ∀ {G7 : Hp}, Ex G G7 → Li G7 pd ([0] ++ wrS m ++ wrL (rm.map wrM) ++ wrBh bh) → Es (tRet (tOp (rAddU K) (tOp (rAddU K) (tVar 7) (tCall (up (S_write_number K A)) [] E0 (tCons (tVar 5) tNil))) (tCall (up (S_write_string K A)) [] E0 (tCons (tVar 6) tNil)))) { nx := fun _ G' => Q .non G', rt := Q } [some (.ref t), some (.str (Str.ofString "change")), some (.str (mkS m)), some (.ref qm), some v3, some (.int n), some (.str (mkS tx)), some (.ref pd), none] G7 := fun {G7} x7 L7 => by
      k_extra "e"
      refine ⟨n.toNat, by rw [← nat_of d4.1]; rfl, by omega, fun G8 p8 e8 hp8 => ?_⟩
      have x8 := e8.trans (Ex.new (o := .lst ((wrN n.toNat).map V.int)) hp8)
      refine er_li (L7.up x8) li_new (by simp; omega) fun p9 hp9 => ?_
      have x9 := x8.trans (Ex.new (o := .lst (([0] ++ wrS m ++ wrL (rm.map wrM) ++ wrBh bh ++ wrN n.toNat).map V.int)) hp9)
      k_extra "e"
      refine ⟨tx, rfl, by omega, fun G10 p10 e10 hp10 => ?_⟩
      refine er_li (x := [0] ++ wrS m ++ wrL (rm.map wrM) ++ wrBh bh ++ wrN n.toNat) (get_new (e10 _ _ upd_same) hp10) li_new (by simp; omega) fun p11 hp11 => ?_
      exact q _ p11 ((x7.trans x9).trans (e10.trans (Ex.new hp10))) hp11
    k_extra "e"
    k_extra "e"
    refine ee_bm ?_
    k_extra "e"
    refine ⟨ty_lst L6, ?_⟩
    k_extra "e"
    cases bh with
    | none =>
      cases h3
      refine ift (by simp) ?_
      k_extra "e"
      refine ⟨sz1000 (by simp), fun p7 hp7 => ?_⟩
      k_extra "e"
      refine em_extend (get_new L6 hp7) upd_same (by simp; exact szM (by omega)) ?_
      refine fin ((x6.trans (Ex.new hp7)).mut nG) ?_
      show upd _ pd _ pd = _
      rw [upd_same, show [V.int 0] = (wrBh none).map V.int from rfl, ← List.map_append]
    | some mk =>
      obtain ⟨tm, rfl, htm⟩ := im_mark h3
      have hml : (wrBh (some mk)).length = 1 + (wrM mk).length := by simp [wrBh, Nat.add_comm]
      refine iff_ (by simp) ?_
      k_extra "e"
      refine ⟨sz1000 (by simp), fun p7 hp7 => ?_⟩
      k_extra "e"
      have x7 := Ex.new (o := .lst (([1] : List Int).map V.int)) hp7
      refine ⟨.ref tm, mk, rfl, (x6.trans x7).tx.im h3, d3, by omega, fun G8 p8 e8 hp8 => ?_⟩
      have x8 := (x7.trans e8).trans (Ex.new (o := .lst ((wrM mk).map V.int)) hp8)
      refine er_li (x := [1]) (get_new (e8 _ _ upd_same) hp8) li_new (by simp; omega) fun p9 hp9 => ?_
      have x9 := x8.trans (Ex.new (o := .lst (([1] ++ wrM mk).map V.int)) hp9)
      k_extra "e"
      refine em_extend (x9 _ _ L6) upd_same (by rw [List.length_map, List.length_map]; simp only [List.length_append, List.length_cons, List.length_nil]; exact szM (by omega)) ?_
      refine fin ((x6.trans x9).mut nG) ?_
      show upd _ pd _ pd = _
      rw [upd_same, ← List.map_append]; rfl
end Lw

namespace Lw
open PySem PySem.Spec PyProof.Rows L2
local macro_rules | `(tactic| k_extra "x1") => `(tactic| first
  | with_reducible refine es_seq ?_
  | with_reducible refine es_asg ?_
  | with_reducible refine es_if ?_
  | with_reducible refine es_ret ?_
  | with_reducible refine es_drop ?_
  | with_reducible refine es_next ?_
  | with_reducible refine es_augS ?_
  | with_reducible refine es_fld ?_
  | ((with_reducible show Ee (tVar _) _ _ _); refine ee_var rfl ?_)
  | with_reducible refine ee_c ?_
  | with_reducible refine ee_op ?_
  | with_reducible refine ee_un ?_
  | with_reducible refine eu_neg ?_
  | with_reducible refine ee_cb ?_
  | with_reducible refine ee_call ?_
  | with_reducible refine ea_nil ?_
  | with_reducible refine ea_cons ?_
  | with_reducible refine ee_sl ?_
  | with_reducible refine eo_no ?_
  | with_reducible refine eo_part ?_
  | with_reducible refine ee_tup ?_
  | with_reducible refine ee_lst ?_
  | with_reducible refine et_test ?_
  | with_reducible refine et_tB ?_
  | with_reducible refine et_tru ?_
  | with_reducible refine et_and ?_
  | with_reducible refine et_or ?_
  | with_reducible refine et_not ?_
  | with_reducible refine ee_and ?_
  | with_reducible refine ee_or ?_
  | with_reducible refine ee_not ?_
  | with_reducible refine ee_if ?_
  | with_reducible refine ee_chain ?_
  | with_reducible refine er_addI ?_
  | with_reducible refine er_subI ?_
  | with_reducible refine er_eqI ?_
  | with_reducible refine er_neI ?_
  | with_reducible refine er_eqNI ?_
  | with_reducible refine er_eqS ?_
  | with_reducible refine er_neS ?_
  | with_reducible refine er_eqB ?_
  | with_reducible refine er_neB ?_
  | with_reducible refine er_lt ?_
  | with_reducible refine er_le ?_
  | with_reducible refine er_gt ?_
  | with_reducible refine er_ge ?_
  | with_reducible refine er_isN_non ?_
  | with_reducible refine er_isN_bl ?_
  | with_reducible refine er_isN_int ?_
  | with_reducible refine er_isN_str ?_
  | with_reducible refine er_isN_ref ?_
  | with_reducible refine er_notN_non ?_
  | with_reducible refine er_notN_bl ?_
  | with_reducible refine er_notN_int ?_
  | with_reducible refine er_notN_str ?_
  | with_reducible refine er_notN_ref ?_
  | with_reducible refine er_isN ?_
  | with_reducible refine er_notN ?_
  | with_reducible refine ec_int ?_
  | with_reducible refine ec_intB ?_
  | with_reducible refine ec_max2 ?_
  | with_reducible refine ec_min2 ?_
  | with_reducible refine ip_I ?_
  | ((with_reducible refine eg_name ?_); (try dsimp only [L2.wipe, List.set_cons_zero, List.set_cons_succ]))
  | with_reducible refine eg_sub ?_
  | with_reducible refine egs_cons ?_
  | with_reducible refine egs_nil ?_
  | with_reducible refine tru_bl ?_
  | with_reducible refine tru_int ?_
  | with_reducible refine tru_non ?_
  | with_reducible refine iteT ?_
  | with_reducible refine iteF ?_
  | with_reducible refine ite_nt ?_
  | with_reducible refine ite_nf ?_
  | with_reducible refine ⟨_, rfl, ?_⟩)
local macro_rules | `(tactic| k_extra "s") => `(tactic| ((first | k_extra "x1" | ((with_reducible refine es_unf ?_); refine es_seq ?_)); (repeat k_extra "x1")))
local macro_rules | `(tactic| k_extra "x") => `(tactic| (repeat first | k_extra "x1" | ((with_reducible refine es_unf ?_); refine es_seq ?_)))
local macro_rules | `(tactic| k_extra "start") => `(tactic| dsimp only [L2.start, List.map_cons, List.map_nil, List.length_cons, List.length_nil, Nat.reduceAdd, Nat.reduceSub, List.replicate, List.cons_append, List.nil_append, Nat.zero_add])
local macro_rules | `(tactic| k_extra "e1") => `(tactic| first
  | with_reducible refine es_next ?_
  | ((with_reducible show Ee (tVar _) _ _ _); refine ee_var rfl ?_)
  | with_reducible refine ee_c ?_
  | with_reducible refine ee_op ?_
  | with_reducible refine ee_un ?_
  | with_reducible refine eu_neg ?_
  | with_reducible refine ee_cb ?_
  | with_reducible refine ee_call ?_
  | with_reducible refine ea_nil ?_
  | with_reducible refine ea_cons ?_
  | with_reducible refine ee_sl ?_
  | with_reducible refine eo_no ?_
  | with_reducible refine eo_part ?_
  | with_reducible refine ee_tup ?_
  | with_reducible refine ee_lst ?_
  | with_reducible refine et_test ?_
  | with_reducible refine et_tB ?_
  | with_reducible refine et_tru ?_
  | with_reducible refine et_and ?_
  | with_reducible refine et_or ?_
  | with_reducible refine et_not ?_
  | with_reducible refine ee_and ?_
  | with_reducible refine ee_or ?_
  | with_reducible refine ee_not ?_
  | with_reducible refine ee_if ?_
  | with_reducible refine ee_chain ?_
  | with_reducible refine er_addI ?_
  | with_reducible refine er_subI ?_
  | with_reducible refine er_eqI ?_
  | with_reducible refine er_neI ?_
  | with_reducible refine er_eqNI ?_
  | with_reducible refine er_eqS ?_
  | with_reducible refine er_neS ?_
  | with_reducible refine er_eqB ?_
  | with_reducible refine er_neB ?_
  | with_reducible refine er_lt ?_
  | with_reducible refine er_le ?_
  | with_reducible refine er_gt ?_
  | with_reducible refine er_ge ?_
  | with_reducible refine er_isN_non ?_
  | with_reducible refine er_isN_bl ?_
  | with_reducible refine er_isN_int ?_
  | with_reducible refine er_isN_str ?_
  | with_reducible refine er_isN_ref ?_
  | with_reducible refine er_notN_non ?_
  | with_reducible refine er_notN_bl ?_
  | with_reducible refine er_notN_int ?_
  | with_reducible refine er_notN_str ?_
  | with_reducible refine er_notN_ref ?_
  | with_reducible refine er_isN ?_
  | with_reducible refine er_notN ?_
  | with_reducible refine ec_int ?_
  | with_reducible refine ec_intB ?_
  | with_reducible refine ec_max2 ?_
  | with_reducible refine ec_min2 ?_
  | with_reducible refine ip_I ?_
  | ((with_reducible refine eg_name ?_); (try dsimp only [L2.wipe, List.set_cons_zero, List.set_cons_succ]))
  | with_reducible refine eg_sub ?_
  | with_reducible refine egs_cons ?_
  | with_reducible refine egs_nil ?_
  | with_reducible refine tru_bl ?_
  | with_reducible refine tru_int ?_
  | with_reducible refine tru_non ?_
  | with_reducible refine iteT ?_
  | with_reducible refine iteF ?_
  | with_reducible refine ite_nt ?_
  | with_reducible refine ite_nf ?_
  | with_reducible refine ex_bl ?_
  | with_reducible refine ex_int ?_
  | with_reducible refine ex_str ?_
  | with_reducible refine ex_strx ?_
  | with_reducible refine ex_ints1 ?_
  | with_reducible refine ex_ints2 ?_)
local macro_rules | `(tactic| k_extra "t1") => `(tactic| first
  | with_reducible refine es_asg ?_
  | with_reducible refine es_if ?_
  | with_reducible refine es_ret ?_
  | with_reducible refine es_drop ?_
  | with_reducible refine es_augS ?_
  | with_reducible refine es_fld ?_)
local macro_rules | `(tactic| k_extra "e") => `(tactic| first
  | ((with_reducible refine es_seq ?_); (try k_extra "t1"); (repeat k_extra "e1"))
  | (k_extra "t1"; (repeat k_extra "e1"))
  | (k_extra "e1"; (repeat k_extra "e1"))
  | ((with_reducible refine es_unf ?_); (refine es_seq ?_); (try k_extra "t1"); (repeat k_extra "e1")))
def S_write_triples (K : PySem.W.Frag) (A : Ad) : Pm := fun vs G Q _ => ∃ (pl : Addr) (us : List V) (ts : List Tri), vs = [.ref pl] ∧ G pl = some (.lst us) ∧ Ims K G us (ts.map triD) ∧ (∀ t ∈ ts, TOk t) ∧ (wrTs ts).length ≤ 400000 ∧ WrQ (wrTs ts) G Q
/-! write_triples -/
def t_write_triples_1 (K : PySem.W.Frag) (A : Ad) : TS := tSeq (tFor (iList K (tVar 0)) (gTup K 3 (gCons (gName 2) (gCons (gName 3) (gCons (gName 4) gNil)))) (tDrop (tBM K "list" (rAppend) (tVar 1) (tCons (tOp (rAddU K) (tOp (rAddU K) (tCall (up (S_write_number K A)) [] E0 (tCons (tVar 2) tNil)) (tCall (up (S_write_number K A)) [] E0 (tCons (tVar 3) tNil))) (tCall (up (S_write_deed K A)) [] E0 (tCons (tVar 4) tNil))) tNil)))) (tRet (tCall (up (S_write_list K A)) [] E0 (tCons (tVar 1) tNil)))
def t_write_triples (K : PySem.W.Frag) (A : Ad) : TS := tSeq (tAsg (tLst tNil) (gName 1)) (t_write_triples_1 K A)
theorem len_write_triples {K : PySem.W.Frag} {A : Ad} : ∀ vs G Q E, S_write_triples K A vs G Q E → vs.length = ["triples"].length := by
  rintro vs G Q E ⟨v, us, ts, rfl, _⟩; rfl
theorem wrT_len (t : Tri) : (wrT t).length = (wrN t.1.toNat).length + (wrN t.2.1.toNat).length + (wrD t.2.2).length := by simp only [wrT, List.length_append]
theorem ok_write_triples {K : PySem.W.Frag} {A : Ad} : ∀ vs G Q E, S_write_triples K A vs G Q E → Es (t_write_triples K A) { nx := fun _ G' => Q .non G', rt := Q } (L2.start ["triples", "written", "replica", "place", "deed"] vs) G := by
  rintro vs G Q E ⟨pl, us, ts, rfl, hp, hI, hts, hn, q⟩
  change Es _ _ (_ :: _ :: _ :: _ :: _ :: []) _
  have hl : (wrTs ts).length = _ := wrL_len (ts.map wrT)
  have hfl := flat_len wrT_pos ts
  k_extra "e"
  refine ⟨Nat.zero_le _, fun pw hpw => ?_⟩
  k_extra "e"
  k_extra "e"
  refine es_forL ?_
  k_extra "e"
  refine ⟨pl, us, rfl, SqL.of (get_new hp hpw), fun i σ G' => ∃ (c2 c3 c4 : Option V) (F : Hp) (acc : List V), σ = [some (.ref pl), some (.ref pw), c2, c3, c4] ∧ Ex G F ∧ F pw = none ∧ Els F acc ((ts.take i).map wrT) ∧ G' pw = some (.lst acc) ∧ Ex F G',
    ⟨_, _, _, G, [], rfl, Ex.refl _, hpw, .nil, upd_same, Ex.new hpw⟩, ?_, ?_, ?_⟩
  · rintro i σ G' ⟨c2, c3, c4, F, acc, rfl, x1, x2, x3, x4, x5⟩
    exact SqL.of (x5 _ _ (x1 _ _ hp))
  · rintro i v σ G' hv ⟨c2, c3, c4, F, acc, rfl, x1, x2, x3, x4, x5⟩
    obtain ⟨t, ht, hIt⟩ := ims_at hI hv
    have hi : (wrT t).length ≤ (ts.map wrT).flatten.length := flat_item (i := i) (by rw [List.getElem?_map, ht]; rfl)
    have hT := hts t (List.mem_of_getElem? ht)
    obtain ⟨qt, vd, rfl, hq, hvd⟩ := im_tri hIt
    have hwl := wrT_len t
    have e0 := x1.trans x5
    refine eg_tup (e0.st hq) rfl ?_
    k_extra "e"
    k_extra "e"
    refine ee_bm ?_
    k_extra "e"
    refine ⟨ty_lst x4, ?_⟩
    k_extra "e"
    refine ⟨t.1.toNat, by rw [← nat_of hT.1.1]; rfl, by omega, fun G2 p2 e2 hp2 => ?_⟩
    k_extra "e"
    have y2 := e2.trans (Ex.new (o := .lst ((wrN t.1.toNat).map V.int)) hp2)
    refine ⟨t.2.1.toNat, by rw [← nat_of hT.2.1.1]; rfl, by omega, fun G3 p3 e3 hp3 => ?_⟩
    have y3 := e3.trans (Ex.new (o := .lst ((wrN t.2.1.toNat).map V.int)) hp3)
    refine er_li (get_new (e3 _ _ upd_same) hp3) li_new (by omega) fun p4 hp4 => ?_
    have y4 := (y2.trans y3).trans (Ex.new (o := .lst ((wrN t.1.toNat ++ wrN t.2.1.toNat).map V.int)) hp4)
    k_extra "e"
    refine ⟨vd, t.2.2, rfl, (e0.trans y4).tx.im hvd, hT.2.2, by omega, fun G5 p5 e5 hp5 => ?_⟩
    have y5 := (y4.trans e5).trans (Ex.new (o := .lst ((wrD t.2.2).map V.int)) hp5)
    refine er_li (get_new (e5 _ _ upd_same) hp5) li_new (by simp only [List.length_append]; omega) fun p6 hp6 => ?_
    have y6 := y5.trans (Ex.new (o := .lst ((wrN t.1.toNat ++ wrN t.2.1.toNat ++ wrD t.2.2).map V.int)) hp6)
    have hF6 : F p6 = none := (x5.trans y5).nul hp6
    have n6 : p6 ≠ pw := new_ne (y5 _ _ x4) hp6
    k_extra "e"
    refine em_append (y6 _ _ x4) (by rw [x3.len, List.length_map, List.length_take]; exact szlt (by omega)) ?_
    refine ⟨_, _, _, upd F p6 (.lst ((wrT t).map V.int)), acc ++ [.ref p6], rfl, x1.trans (Ex.new hF6), nul_ne x2 n6.symm, ?_, upd_same, ?_⟩
    · rw [take_next ht, List.map_append]
      exact Els.snoc upd_same (x3.up (Ex.new hF6))
    · exact ((x5.trans y6).putL upd_same).mut (nul_ne x2 n6.symm)
  · rintro σ G' ⟨c2, c3, c4, F, acc, rfl, x1, x2, x3, x4, x5⟩
    have hlen := ims_len hI
    rw [List.length_map] at hlen
    rw [hlen, List.take_length] at x3
    k_extra "e"
    exact ⟨pw, acc, ts.map wrT, rfl, x4, x3.up x5, by rw [List.length_map]; unfold wrTs at hn hl; omega, fun G2 r e2 hr => q G2 r ((x1.trans x5).trans e2) hr⟩
def S_write_packet (K : PySem.W.Frag) (A : Ad) : Pm := fun vs G Q _ => ∃ (pl : Addr) (us : List V) (ts : List Tri), vs = [.ref pl] ∧ G pl = some (.lst us) ∧ Ims K G us (ts.map triD) ∧ (∀ t ∈ ts, TOk t) ∧ (wrP ts).length ≤ 400000 ∧ WrQ (wrP ts) G Q
/-! write_packet -/
def t_write_packet (K : PySem.W.Frag) (A : Ad) : TS := (tRet (tOp (rAddU K) (tLst (tCons (tC (.int 1)) tNil)) (tCall (up (S_write_triples K A)) [] E0 (tCons (tVar 0) tNil))))
theorem len_write_packet {K : PySem.W.Frag} {A : Ad} : ∀ vs G Q E, S_write_packet K A vs G Q E → vs.length = ["packet"].length := by
  rintro vs G Q E ⟨v, us, ts, rfl, _⟩; rfl
theorem ok_write_packet {K : PySem.W.Frag} {A : Ad} : ∀ vs G Q E, S_write_packet K A vs G Q E → Es (t_write_packet K A) { nx := fun _ G' => Q .non G', rt := Q } (L2.start ["packet"] vs) G := by
  rintro vs G Q E ⟨pl, us, ts, rfl, hp, hI, hts, hn, q⟩
  change Es _ _ (_ :: []) _
  have hl : (wrP ts).length = 1 + (wrTs ts).length := by simp [wrP, Nat.add_comm]
  k_extra "e"
  refine ⟨sz1000 (by simp), fun p1 hp1 => ?_⟩
  k_extra "e"
  refine ⟨pl, us, ts, rfl, get_new hp hp1, (Ex.new hp1).tx.ims hI, hts, by omega, fun G2 p2 e2 hp2 => ?_⟩
  refine er_li (x := [1]) (get_new (e2 _ _ upd_same) hp2) li_new (by simp; omega) fun p3 hp3 => ?_
  exact q _ p3 (((Ex.new hp1).trans e2).trans (Ex.new hp2)) hp3
/-! ### the law's own writers -/
def S__law_number (K : PySem.W.Frag) (A : Ad) : Pm := fun vs G Q _ => ∃ n : Nat, vs = [.int n] ∧ (wrN n).length ≤ 1000000 ∧ WrQ (wrN n) G Q
/-! _law_number -/
def t__law_number_1 (K : PySem.W.Frag) (A : Ad) : TS := tSeq (tDrop (tBM K "list" (rAppend) (tVar 1) (tCons (tOp (rAddU K) (tOp (rModU) (tVar 0) (tC (.int 128))) (tC (.int 128))) tNil))) (tAsg (tOp (rDivU) (tVar 0) (tC (.int 128))) (gName 0))
def t__law_number_2 (K : PySem.W.Frag) (A : Ad) : TS := tSeq (tWhile (tTest (tOp (rGtI) (tVar 0) (tC (.int 127)))) (t__law_number_1 K A)) (tRet (tOp (rAddU K) (tVar 1) (tLst (tCons (tVar 0) tNil))))
def t__law_number (K : PySem.W.Frag) (A : Ad) : TS := tSeq (tAsg (tLst tNil) (gName 1)) (t__law_number_2 K A)
theorem len__law_number {K : PySem.W.Frag} {A : Ad} : ∀ vs G Q E, S__law_number K A vs G Q E → vs.length = ["number"].length := by
  rintro vs G Q E ⟨n, rfl, _⟩; rfl
theorem ok__law_number {K : PySem.W.Frag} {A : Ad} : ∀ vs G Q E, S__law_number K A vs G Q E → Es (t__law_number K A) { nx := fun _ G' => Q .non G', rt := Q } (L2.start ["number", "data"] vs) G := by
  rintro vs G Q E ⟨n, rfl, hn, q⟩
  change Es _ _ (_ :: _ :: []) _
  k_extra "e"
  refine ⟨Nat.zero_le _, fun l hl => ?_⟩
  k_extra "e"
  refine es_seq (es_while (fun m σ G' => ∃ (k : Nat) (ys : List Int), σ = [some (.int k), some (.ref l)] ∧ k = m ∧ G' = upd G l (.lst (ys.map V.int)) ∧ ys ++ wrN k = wrN n) n ⟨n, [], rfl, rfl, rfl, rfl⟩ ?_)
  rintro m σ G' ⟨k, ys, rfl, rfl, rfl, hs⟩
  have hlen := congrArg List.length hs
  rw [List.length_append] at hlen
  k_extra "e"
  refine ifd (fun h => ?_) (fun h => ?_)
  · have h128 : ¬ k < 128 := by omega
    k_extra "e"
    refine ee_bm ?_
    k_extra "e"
    refine ⟨ty_lst upd_same, ?_⟩
    k_extra "e"
    refine er_mod (by decide) ?_
    k_extra "e"
    refine em_append upd_same (by rw [List.length_map]; exact szlt (by omega)) ?_
    rw [upd_upd]
    k_extra "e"
    refine er_div (by decide) ?_
    k_extra "e"
    refine ⟨k / 128, by omega, k / 128, ys ++ [((k % 128 + 128 : Nat) : Int)], rfl, rfl, ?_, ?_⟩
    · congr 2; simp
    · rw [← hs, List.append_assoc, wrN_ge h128]; rfl
  · have h128 : k < 128 := by omega
    k_extra "e"
    refine ⟨sz1000 (by simp), fun p hp => ?_⟩
    refine er_li (x := ys) (y := [(k : Int)]) (get_new upd_same hp) upd_same (by simp; omega) fun r hr => ?_
    have e1 : ys ++ [(k : Int)] = wrN n := by rw [← hs, wrN_lt h128]
    rw [e1]
    exact q _ r ((Ex.new hl).trans (Ex.new hp)) hr
def S__law_text (K : PySem.W.Frag) (A : Ad) : Pm := fun vs G Q _ => ∃ s : List Nat, vs = [.str (mkS s)] ∧ s.length + (wrS s).length ≤ 1000000 ∧ WrQ (wrS s) G Q
/-! _law_text -/
def t__law_text_1 (K : PySem.W.Frag) (A : Ad) : TS := tSeq (tFor (iStr (tVar 0)) (gName 2) (tAsg (tOp (rAddU K) (tVar 1) (tCall (up (S__law_number K A)) [] E0 (tCons (tCB (rOrdU) (tCons (tVar 2) tNil)) tNil))) (gName 1))) (tRet (tVar 1))
def t__law_text (K : PySem.W.Frag) (A : Ad) : TS := tSeq (tAsg (tCall (up (S__law_number K A)) [] E0 (tCons (tCB (rLenU K) (tCons (tVar 0) tNil)) tNil)) (gName 1)) (t__law_text_1 K A)
theorem len__law_text {K : PySem.W.Frag} {A : Ad} : ∀ vs G Q E, S__law_text K A vs G Q E → vs.length = ["text"].length := by
  rintro vs G Q E ⟨n, rfl, _⟩; rfl
theorem mkS_len (s : List Nat) : (mkS s).length = s.length := mkS_sz s
theorem flat_next {α : Type} {wr : α → List Int} {xs : List α} {i : Nat} {x : α} (h : xs[i]? = some x) : ((xs.take (i + 1)).map wr).flatten = ((xs.take i).map wr).flatten ++ wr x := by
  rw [take_next h, List.map_append, List.flatten_append]; simp
theorem flat_le {α : Type} {wr : α → List Int} (xs : List α) (i : Nat) : ((xs.take i).map wr).flatten.length ≤ (xs.map wr).flatten.length := by
  rw [List.map_take]; exact take_flat i
theorem ok__law_text {K : PySem.W.Frag} {A : Ad} : ∀ vs G Q E, S__law_text K A vs G Q E → Es (t__law_text K A) { nx := fun _ G' => Q .non G', rt := Q } (L2.start ["text", "data", "character"] vs) G := by
  rintro vs G Q E ⟨s, rfl, hn, q⟩
  change Es _ _ (_ :: _ :: _ :: []) _
  have hl : (wrS s).length = _ := wrL_len (s.map wrN)
  rw [List.length_map] at hl
  k_extra "e"
  refine ec_lenS (by rw [mkS_len]; exact szM (by omega)) ?_
  rw [mkS_len]
  k_extra "e"
  refine ⟨s.length, rfl, by omega, fun G1 l e1 hl1 => ?_⟩
  k_extra "e"
  k_extra "e"
  refine es_forS ?_
  k_extra "e"
  refine ⟨fun i σ G' => ∃ G2 p c, σ = [some (.str (mkS s)), some (.ref p), c] ∧ Ex G G2 ∧ G2 p = none ∧ G' = upd G2 p (.lst ((wrN s.length ++ ((s.take i).map wrN).flatten).map V.int)), ⟨G1, l, _, rfl, e1, hl1, by simp⟩, ?_, ?_⟩
  · rintro i c σ G' hc ⟨G2, p, c2, rfl, x1, x2, rfl⟩
    have hc := mkS_at hc
    have hi : (wrN c).length ≤ (s.map wrN).flatten.length := flat_item (i := i) (by rw [List.getElem?_map, hc]; rfl)
    have hfl := flat_le (wr := wrN) s i
    k_extra "e"
    refine ec_ord (by rfl) ?_
    k_extra "e"
    refine ⟨c, rfl, by omega, fun G3 r e3 hr => ?_⟩
    refine er_li (get_new (e3 _ _ upd_same) hr) li_new (by rw [List.length_append]; omega) fun p2 hp2 => ?_
    k_extra "e"
    refine ⟨_, p2, _, rfl, ((x1.trans (Ex.new x2)).trans e3).trans (Ex.new hr), hp2, ?_⟩
    rw [flat_next hc, List.append_assoc]
  · rintro σ G' ⟨G2, p, c2, rfl, x1, x2, rfl⟩
    rw [mkS_sz, List.take_length]
    k_extra "e"
    have e5 : wrN s.length ++ (s.map wrN).flatten = wrS s := by unfold wrS wrL; rw [List.length_map]
    rw [e5]
    exact q G2 p x1 x2
def S__law_mark (K : PySem.W.Frag) (A : Ad) : Pm := fun vs G Q _ => ∃ (v : V) (m : Int × Int), vs = [v] ∧ Im K G v (mkD m) ∧ MkOk m ∧ (wrM m).length ≤ 1000000 ∧ WrQ (wrM m) G Q
/-! _law_mark -/
def t__law_mark (K : PySem.W.Frag) (A : Ad) : TS := (tRet (tOp (rAddU K) (tCall (up (S__law_number K A)) [] E0 (tCons (tOp (rIx K) (tVar 0) (tC (.int 0))) tNil)) (tCall (up (S__law_number K A)) [] E0 (tCons (tOp (rIx K) (tVar 0) (tC (.int 1))) tNil))))
theorem len__law_mark {K : PySem.W.Frag} {A : Ad} : ∀ vs G Q E, S__law_mark K A vs G Q E → vs.length = ["mark"].length := by
  rintro vs G Q E ⟨n, m, rfl, _⟩; rfl
theorem ok__law_mark {K : PySem.W.Frag} {A : Ad} : ∀ vs G Q E, S__law_mark K A vs G Q E → Es (t__law_mark K A) { nx := fun _ G' => Q .non G', rt := Q } (L2.start ["mark"] vs) G := by
  rintro vs G Q E ⟨v, m, rfl, hI, hm, hn, q⟩
  change Es _ _ (_ :: []) _
  obtain ⟨t, rfl, ht⟩ := im_mark hI
  have hl : (wrM m).length = (wrN m.1.toNat).length + (wrN m.2.toNat).length := by unfold wrM; rw [List.length_append]
  k_extra "e"
  refine er_ixT ht (atI_nat (j := 0) rfl) ?_
  k_extra "e"
  refine ⟨m.1.toNat, by rw [← nat_of hm.1.1]; rfl, by omega, fun G1 r1 e1 hr1 => ?_⟩
  k_extra "e"
  refine er_ixT ((e1.trans (Ex.new hr1)).st ht) (atI_nat (j := 1) rfl) ?_
  k_extra "e"
  refine ⟨m.2.toNat, by rw [← nat_of hm.2.1]; rfl, by omega, fun G2 r2 e2 hr2 => ?_⟩
  refine er_li (get_new (e2 _ _ upd_same) hr2) upd_same (by omega) fun r3 hr3 => ?_
  exact q _ r3 (((e1.trans (Ex.new hr1)).trans e2).trans (Ex.new hr2)) hr3
end Lw

namespace Lw
open PySem PySem.Spec PyProof.Rows L2
local macro_rules | `(tactic| k_extra "x1") => `(tactic| first
  | with_reducible refine es_seq ?_
  | with_reducible refine es_asg ?_
  | with_reducible refine es_if ?_
  | with_reducible refine es_ret ?_
  | with_reducible refine es_drop ?_
  | with_reducible refine es_next ?_
  | with_reducible refine es_augS ?_
  | with_reducible refine es_fld ?_
  | ((with_reducible show Ee (tVar _) _ _ _); refine ee_var rfl ?_)
  | with_reducible refine ee_c ?_
  | with_reducible refine ee_op ?_
  | with_reducible refine ee_un ?_
  | with_reducible refine eu_neg ?_
  | with_reducible refine ee_cb ?_
  | with_reducible refine ee_call ?_
  | with_reducible refine ea_nil ?_
  | with_reducible refine ea_cons ?_
  | with_reducible refine ee_sl ?_
  | with_reducible refine eo_no ?_
  | with_reducible refine eo_part ?_
  | with_reducible refine ee_tup ?_
  | with_reducible refine ee_lst ?_
  | with_reducible refine et_test ?_
  | with_reducible refine et_tB ?_
  | with_reducible refine et_tru ?_
  | with_reducible refine et_and ?_
  | with_reducible refine et_or ?_
  | with_reducible refine et_not ?_
  | with_reducible refine ee_and ?_
  | with_reducible refine ee_or ?_
  | with_reducible refine ee_not ?_
  | with_reducible refine ee_if ?_
  | with_reducible refine ee_chain ?_
  | with_reducible refine er_addI ?_
  | with_reducible refine er_subI ?_
  | with_reducible refine er_eqI ?_
  | with_reducible refine er_neI ?_
  | with_reducible refine er_eqNI ?_
  | with_reducible refine er_eqS ?_
  | with_reducible refine er_neS ?_
  | with_reducible refine er_eqB ?_
  | with_reducible refine er_neB ?_
  | with_reducible refine er_lt ?_
  | with_reducible refine er_le ?_
  | with_reducible refine er_gt ?_
  | with_reducible refine er_ge ?_
  | with_reducible refine er_isN_non ?_
  | with_reducible refine er_isN_bl ?_
  | with_reducible refine er_isN_int ?_
  | with_reducible refine er_isN_str ?_
  | with_reducible refine er_isN_ref ?_
  | with_reducible refine er_notN_non ?_
  | with_reducible refine er_notN_bl ?_
  | with_reducible refine er_notN_int ?_
  | with_reducible refine er_notN_str ?_
  | with_reducible refine er_notN_ref ?_
  | with_reducible refine er_isN ?_
  | with_reducible refine er_notN ?_
  | with_reducible refine ec_int ?_
  | with_reducible refine ec_intB ?_
  | with_reducible refine ec_max2 ?_
  | with_reducible refine ec_min2 ?_
  | with_reducible refine ip_I ?_
  | ((with_reducible refine eg_name ?_); (try dsimp only [L2.wipe, List.set_cons_zero, List.set_cons_succ]))
  | with_reducible refine eg_sub ?_
  | with_reducible refine egs_cons ?_
  | with_reducible refine egs_nil ?_
  | with_reducible refine tru_bl ?_
  | with_reducible refine tru_int ?_
  | with_reducible refine tru_non ?_
  | with_reducible refine iteT ?_
  | with_reducible refine iteF ?_
  | with_reducible refine ite_nt ?_
  | with_reducible refine ite_nf ?_
  | with_reducible refine ⟨_, rfl, ?_⟩)
local macro_rules | `(tactic| k_extra "s") => `(tactic| ((first | k_extra "x1" | ((with_reducible refine es_unf ?_); refine es_seq ?_)); (repeat k_extra "x1")))
local macro_rules | `(tactic| k_extra "x") => `(tactic| (repeat first | k_extra "x1" | ((with_reducible refine es_unf ?_); refine es_seq ?_)))
local macro_rules | `(tactic| k_extra "start") => `(tactic| dsimp only [L2.start, List.map_cons, List.map_nil, List.length_cons, List.length_nil, Nat.reduceAdd, Nat.reduceSub, List.replicate, List.cons_append, List.nil_append, Nat.zero_add])
local macro_rules | `(tactic| k_extra "e1") => `(tactic| first
  | with_reducible refine es_next ?_
  | ((with_reducible show Ee (tVar _) _ _ _); refine ee_var rfl ?_)
  | with_reducible refine ee_c ?_
  | with_reducible refine ee_op ?_
  | with_reducible refine ee_un ?_
  | with_reducible refine eu_neg ?_
  | with_reducible refine ee_cb ?_
  | with_reducible refine ee_call ?_
  | with_reducible refine ea_nil ?_
  | with_reducible refine ea_cons ?_
  | with_reducible refine ee_sl ?_
  | with_reducible refine eo_no ?_
  | with_reducible refine eo_part ?_
  | with_reducible refine ee_tup ?_
  | with_reducible refine ee_lst ?_
  | with_reducible refine et_test ?_
  | with_reducible refine et_tB ?_
  | with_reducible refine et_tru ?_
  | with_reducible refine et_and ?_
  | with_reducible refine et_or ?_
  | with_reducible refine et_not ?_
  | with_reducible refine ee_and ?_
  | with_reducible refine ee_or ?_
  | with_reducible refine ee_not ?_
  | with_reducible refine ee_if ?_
  | with_reducible refine ee_chain ?_
  | with_reducible refine er_addI ?_
  | with_reducible refine er_subI ?_
  | with_reducible refine er_eqI ?_
  | with_reducible refine er_neI ?_
  | with_reducible refine er_eqNI ?_
  | with_reducible refine er_eqS ?_
  | with_reducible refine er_neS ?_
  | with_reducible refine er_eqB ?_
  | with_reducible refine er_neB ?_
  | with_reducible refine er_lt ?_
  | with_reducible refine er_le ?_
  | with_reducible refine er_gt ?_
  | with_reducible refine er_ge ?_
  | with_reducible refine er_isN_non ?_
  | with_reducible refine er_isN_bl ?_
  | with_reducible refine er_isN_int ?_
  | with_reducible refine er_isN_str ?_
  | with_reducible refine er_isN_ref ?_
  | with_reducible refine er_notN_non ?_
  | with_reducible refine er_notN_bl ?_
  | with_reducible refine er_notN_int ?_
  | with_reducible refine er_notN_str ?_
  | with_reducible refine er_notN_ref ?_
  | with_reducible refine er_isN ?_
  | with_reducible refine er_notN ?_
  | with_reducible refine ec_int ?_
  | with_reducible refine ec_intB ?_
  | with_reducible refine ec_max2 ?_
  | with_reducible refine ec_min2 ?_
  | with_reducible refine ip_I ?_
  | ((with_reducible refine eg_name ?_); (try dsimp only [L2.wipe, List.set_cons_zero, List.set_cons_succ]))
  | with_reducible refine eg_sub ?_
  | with_reducible refine egs_cons ?_
  | with_reducible refine egs_nil ?_
  | with_reducible refine tru_bl ?_
  | with_reducible refine tru_int ?_
  | with_reducible refine tru_non ?_
  | with_reducible refine iteT ?_
  | with_reducible refine iteF ?_
  | with_reducible refine ite_nt ?_
  | with_reducible refine ite_nf ?_
  | with_reducible refine ex_bl ?_
  | with_reducible refine ex_int ?_
  | with_reducible refine ex_str ?_
  | with_reducible refine ex_strx ?_
  | with_reducible refine ex_ints1 ?_
  | with_reducible refine ex_ints2 ?_)
local macro_rules | `(tactic| k_extra "t1") => `(tactic| first
  | with_reducible refine es_asg ?_
  | with_reducible refine es_if ?_
  | with_reducible refine es_ret ?_
  | with_reducible refine es_drop ?_
  | with_reducible refine es_augS ?_
  | with_reducible refine es_fld ?_)
local macro_rules | `(tactic| k_extra "e") => `(tactic| first
  | ((with_reducible refine es_seq ?_); (try k_extra "t1"); (repeat k_extra "e1"))
  | (k_extra "t1"; (repeat k_extra "e1"))
  | (k_extra "e1"; (repeat k_extra "e1"))
  | ((with_reducible refine es_unf ?_); (refine es_seq ?_); (try k_extra "t1"); (repeat k_extra "e1")))
def S__law_deed (K : PySem.W.Frag) (A : Ad) : Pm := fun vs G Q _ => ∃ (v : V) (d : Dd), vs = [v] ∧ Im K G v d.data ∧ DOk d ∧ (wrD d).length ≤ 400000 ∧ WrQ (wrD d) G Q
/-! _law_deed -/
def t__law_deed_1 (K : PySem.W.Frag) (A : Ad) : TS := tSeq (tAsg (tOp (rAddU K) (tVar 1) (tIf (tTest (tOp (rIsN) (tOp (rIx K) (tVar 0) (tC (.int 3))) (tC .non))) (tLst (tCons (tC (.int 0)) tNil)) (tOp (rAddU K) (tLst (tCons (tC (.int 1)) tNil)) (tCall (up (S__law_mark K A)) [] E0 (tCons (tOp (rIx K) (tVar 0) (tC (.int 3))) tNil))))) (gName 1)) (tRet (tOp (rAddU K) (tOp (rAddU K) (tVar 1) (tCall (up (S__law_number K A)) [] E0 (tCons (tOp (rIx K) (tVar 0) (tC (.int 4))) tNil))) (tCall (up (S__law_text K A)) [] E0 (tCons (tOp (rIx K) (tVar 0) (tC (.int 5))) tNil))))
def t__law_deed_2 (K : PySem.W.Frag) (A : Ad) : TS := tSeq (tFor (iTup K (tOp (rIx K) (tVar 0) (tC (.int 2)))) (gName 2) (tAsg (tOp (rAddU K) (tVar 1) (tCall (up (S__law_mark K A)) [] E0 (tCons (tVar 2) tNil))) (gName 1))) (t__law_deed_1 K A)
def t__law_deed_3 (K : PySem.W.Frag) (A : Ad) : TS := tSeq (tAsg (tOp (rAddU K) (tOp (rAddU K) (tLst (tCons (tC (.int 0)) tNil)) (tCall (up (S__law_text K A)) [] E0 (tCons (tOp (rIx K) (tVar 0) (tC (.int 1))) tNil))) (tCall (up (S__law_number K A)) [] E0 (tCons (tCB (rLenU K) (tCons (tOp (rIx K) (tVar 0) (tC (.int 2))) tNil)) tNil))) (gName 1)) (t__law_deed_2 K A)
def t__law_deed (K : PySem.W.Frag) (A : Ad) : TS := tSeq (tIfS (tTest (tOp (rEqU K) (tOp (rIx K) (tVar 0) (tC (.int 0))) (tC (.str "back")))) (tRet (tOp (rAddU K) (tLst (tCons (tC (.int 1)) tNil)) (tCall (up (S__law_number K A)) [] E0 (tCons (tOp (rIx K) (tVar 0) (tC (.int 1))) tNil)))) tNext) (t__law_deed_3 K A)
theorem len__law_deed {K : PySem.W.Frag} {A : Ad} : ∀ vs G Q E, S__law_deed K A vs G Q E → vs.length = ["deed"].length := by
  rintro vs G Q E ⟨v, d, rfl, _⟩; rfl
theorem ok__law_deed {K : PySem.W.Frag} {A : Ad} : ∀ vs G Q E, S__law_deed K A vs G Q E → Es (t__law_deed K A) { nx := fun _ G' => Q .non G', rt := Q } (L2.start ["deed", "data", "mark"] vs) G := by
  rintro vs G Q E ⟨v, d, rfl, hI, hd, hn, q⟩
  change Es _ _ (_ :: _ :: _ :: []) _
  cases d with
  | back n =>
    obtain ⟨t, rfl, ht⟩ := im_back hI
    have hl : (wrD (.back n)).length = 1 + (wrN n.toNat).length := by simp [wrD, Nat.add_comm]
    k_extra "e"
    refine er_ixT ht (atI_nat (j := 0) rfl) ?_
    k_extra "e"
    refine ifd (fun _ => ?_) (fun z => absurd rfl z)
    k_extra "e"
    refine ⟨sz1000 (by simp), fun p1 hp1 => ?_⟩
    k_extra "e"
    refine er_ixT ((Ex.new hp1).st ht) (atI_nat (j := 1) rfl) ?_
    k_extra "e"
    refine ⟨n.toNat, by rw [← nat_of hd.1]; rfl, by omega, fun G2 r e2 hr => ?_⟩
    refine er_li (x := [1]) (get_new (e2 _ _ upd_same) hr) upd_same (by simp; omega) fun r3 hr3 => ?_
    exact q _ r3 (((Ex.new hp1).trans e2).trans (Ex.new hr)) hr3
  | change m rm bh n tx =>
    obtain ⟨t, qm, us, v3, rfl, ht, hqm, hus, h3⟩ := im_change hI
    obtain ⟨d1, d2, d3, d4, d5⟩ := hd
    have hl : (wrD (.change m rm bh n tx)).length = 1 + (wrS m).length + (wrL (rm.map wrM)).length + (wrBh bh).length + (wrN n.toNat).length + (wrS tx).length := by
      simp only [wrD, List.length_append, List.length_cons, List.length_nil]
    have hm := wrS_ge m
    have htx := wrS_ge tx
    have hrl := wrL_len (rm.map wrM)
    rw [List.length_map] at hrl
    have hrm := flat_len wrM_pos rm
    have hus2 := ims_len hus
    rw [List.length_map] at hus2
    k_extra "e"
    refine er_ixT ht (atI_nat (j := 0) rfl) ?_
    k_extra "e"
    refine ifd (fun z => absurd z cb) (fun _ => ?_)
    k_extra "e"
    k_extra "e"
    refine ⟨sz1000 (by simp), fun p1 hp1 => ?_⟩
    k_extra "e"
    refine er_ixT ((Ex.new hp1).st ht) (atI_nat (j := 1) rfl) ?_
    k_extra "e"
    refine ⟨m, rfl, by omega, fun G2 p2 e2 hp2 => ?_⟩
    refine er_li (x := [0]) (get_new (e2 _ _ upd_same) hp2) upd_same (by simp; omega) fun p3 hp3 => ?_
    have x3 := (((Ex.new (o := .lst (([0] : List Int).map V.int)) hp1).trans e2).trans (Ex.new (o := .lst ((wrS m).map V.int)) hp2)).trans (Ex.new (o := .lst (([0] ++ wrS m).map V.int)) hp3)
    have L3 : Li (upd (upd G2 p2 (.lst ((wrS m).map V.int))) p3 (.lst (([0] ++ wrS m).map V.int))) p3 ([0] ++ wrS m) := li_new
    generalize upd (upd G2 p2 (.lst ((wrS m).map V.int))) p3 (.lst (([0] ++ wrS m).map V.int)) = G3 at x3 L3 ⊢
    k_extra "e"
    refine er_ixT (x3.st ht) (atI_nat (j := 2) rfl) ?_
    k_extra "e"
    refine ec_lenT (x3.st hqm) fun _ => ?_
    rw [hus2]
    k_extra "e"
    refine ⟨rm.length, rfl, by omega, fun G4 p4 e4 hp4 => ?_⟩
    have x4 := e4.trans (Ex.new (o := .lst ((wrN rm.length).map V.int)) hp4)
    refine er_li (L3.up x4) li_new (by simp; omega) fun p5 hp5 => ?_
    have x5 := x4.trans (Ex.new (o := .lst (([0] ++ wrS m ++ wrN rm.length).map V.int)) hp5)
    have L5 : Li (upd (upd G4 p4 (.lst ((wrN rm.length).map V.int))) p5 (.lst (([0] ++ wrS m ++ wrN rm.length).map V.int))) p5 ([0] ++ wrS m ++ wrN rm.length) := li_new
    have x35 := x3.trans x5
    generalize upd (upd G4 p4 (.lst ((wrN rm.length).map V.int))) p5 (.lst (([0] ++ wrS m ++ wrN rm.length).map V.int)) = G5 at x35 L5 ⊢
    k_extra "e"
    refine es_seq (es_forT (K := K) ?_)
    k_extra "e"
    refine er_ixT (x35.st ht) (atI_nat (j := 2) rfl) ?_
    refine ⟨qm, us, rfl, x35.st hqm, fun i σ G' => ∃ p c, σ = [some (.ref t), some (.ref p), c] ∧ Ex G G' ∧ Li G' p ([0] ++ wrS m ++ wrN rm.length ++ ((rm.take i).map wrM).flatten), ⟨p5, _, rfl, x35, by simpa using L5⟩, ?_, ?_, ?_⟩
    · rintro i σ G' ⟨p, c, rfl, x1, x2⟩
      exact x1.st hqm
    · rintro i u σ G' hu ⟨p, c, rfl, x1, x2⟩
      obtain ⟨mk, hmk, hIm⟩ := ims_at hus hu
      have hi : (wrM mk).length ≤ (rm.map wrM).flatten.length := flat_item (i := i) (by rw [List.getElem?_map, hmk]; rfl)
      have hfl := flat_le (wr := wrM) rm i
      refine eg_name ?_
      dsimp only [List.set_cons_zero, List.set_cons_succ]
      k_extra "e"
      refine ⟨u, mk, rfl, x1.tx.im hIm, d2 mk (List.mem_of_getElem? hmk), by omega, fun G6 r e6 hr => ?_⟩
      have x6 := e6.trans (Ex.new (o := .lst ((wrM mk).map V.int)) hr)
      refine er_li (x2.up x6) li_new (by simp only [List.length_append, List.length_cons, List.length_nil]; omega) fun p7 hp7 => ?_
      k_extra "e"
      refine ⟨p7, _, rfl, x1.trans (x6.trans (Ex.new hp7)), ?_⟩
      rw [flat_next hmk, ← List.append_assoc]
      exact li_new
    rintro σ G6 ⟨p6, c6, rfl, x6, L6⟩
    rw [hus2, List.take_length] at L6
    -- what stands behind the character
    have fin : ∀ {G7 : Hp} {p7 : Addr}, Ex G G7 → Li G7 p7 (wrBh bh) → Er (rAddU K) (.ref p6) (.ref p7) (G7) (fun v G8 => ∃ p8, v = .ref p8 ∧ Ex G G8 ∧ Li G8 p8 ([0] ++ wrS m ++ wrN rm.length ++ (rm.map wrM).flatten ++ wrBh bh)) ∨ True := fun _ _ => .inr trivial
    have last : ∀ {G8 : Hp} {p8 : Addr}, Ex G G8 → Li G8 p8 ([0] ++ wrS m ++ wrN rm.length ++ (rm.map wrM).flatten ++ wrBh bh) →
        Es (tRet (tOp (rAddU K) (tOp (rAddU K) (tVar 1) (tCall (up (S__law_number K A)) [] E0 (tCons (tOp (rIx K) (tVar 0) (tC (.int 4))) tNil))) (tCall (up (S__law_text K A)) [] E0 (tCons (tOp (rIx K) (tVar 0) (tC (.int 5))) tNil)))) { nx := fun _ G' => Q .non G', rt := Q } [some (.ref t), some (.ref p8), c6] G8 := fun {G8 p8} x8 L8 => by
      k_extra "e"
      refine er_ixT (x8.st ht) (atI_nat (j := 4) rfl) ?_
      k_extra "e"
      refine ⟨n.toNat, by rw [← nat_of d4.1]; rfl, by omega, fun G9 p9 e9 hp9 => ?_⟩
      have x9 := e9.trans (Ex.new (o := .lst ((wrN n.toNat).map V.int)) hp9)
      refine er_li (L8.up x9) li_new (by simp only [List.length_append, List.length_cons, List.length_nil]; omega) fun p10 hp10 => ?_
      have x10 := x9.trans (Ex.new (o := .lst (([0] ++ wrS m ++ wrN rm.length ++ (rm.map wrM).flatten ++ wrBh bh ++ wrN n.toNat).map V.int)) hp10)
      k_extra "e"
      refine er_ixT ((x8.trans x10).st ht) (atI_nat (j := 5) rfl) ?_
      k_extra "e"
      refine ⟨tx, rfl, by omega, fun G11 p11 e11 hp11 => ?_⟩
      refine er_li (x := [0] ++ wrS m ++ wrN rm.length ++ (rm.map wrM).flatten ++ wrBh bh ++ wrN n.toNat) (get_new (e11 _ _ upd_same) hp11) li_new (by simp only [List.length_append, List.length_cons, List.length_nil]; omega) fun p12 hp12 => ?_
      have e5 : [0] ++ wrS m ++ wrN rm.length ++ (rm.map wrM).flatten ++ wrBh bh ++ wrN n.toNat ++ wrS tx = wrD (.change m rm bh n tx) := by
        simp only [wrD, wrL, List.length_map, List.append_assoc]
      rw [e5]
      exact q _ p12 ((x8.trans x10).trans (e11.trans (Ex.new hp11))) hp12
    k_extra "e"
    refine er_ixT (x6.st ht) (atI_nat (j := 3) rfl) ?_
    k_extra "e"
    cases bh with
    | none =>
      cases h3
      refine ift (by simp) ?_
      k_extra "e"
      refine ⟨sz1000 (by simp), fun p7 hp7 => ?_⟩
      refine er_li (y := wrBh none) (get_new L6 hp7) upd_same (by simp only [List.length_append, List.length_cons, List.length_nil]; omega) fun p8 hp8 => ?_
      k_extra "e"
      exact last ((x6.trans (Ex.new hp7)).trans (Ex.new hp8)) li_new
    | some mk =>
      obtain ⟨tm, rfl, htm⟩ := im_mark h3
      have hml : (wrBh (some mk)).length = 1 + (wrM mk).length := by simp [wrBh, Nat.add_comm]
      refine iff_ (by simp) ?_
      k_extra "e"
      refine ⟨sz1000 (by simp), fun p7 hp7 => ?_⟩
      k_extra "e"
      have x7 := Ex.new (o := .lst (([1] : List Int).map V.int)) hp7
      refine er_ixT ((x6.trans x7).st ht) (atI_nat (j := 3) rfl) ?_
      k_extra "e"
      refine ⟨.ref tm, mk, rfl, (x6.trans x7).tx.im h3, d3, by omega, fun G8 p8 e8 hp8 => ?_⟩
      have x8 := (x7.trans e8).trans (Ex.new (o := .lst ((wrM mk).map V.int)) hp8)
      refine er_li (x := [1]) (get_new (e8 _ _ upd_same) hp8) li_new (by simp; omega) fun p9 hp9 => ?_
      have x9 := x8.trans (Ex.new (o := .lst (([1] ++ wrM mk).map V.int)) hp9)
      refine er_li (y := wrBh (some mk)) (L6.up x9) upd_same (by simp only [List.length_append, List.length_cons, List.length_nil]; omega) fun p10 hp10 => ?_
      k_extra "e"
      exact last ((x6.trans x9).trans (Ex.new hp10)) li_new
def S__law_triples (K : PySem.W.Frag) (A : Ad) : Pm := fun vs G Q _ => ∃ (pl : Addr) (us : List V) (ts : List Tri), vs = [.ref pl] ∧ G pl = some (.lst us) ∧ Ims K G us (ts.map triD) ∧ (∀ t ∈ ts, TOk t) ∧ (wrTs ts).length ≤ 400000 ∧ WrQ (wrTs ts) G Q
/-! _law_triples -/
def t__law_triples_1 (K : PySem.W.Frag) (A : Ad) : TS := tSeq (tFor (iList K (tVar 0)) (gTup K 3 (gCons (gName 2) (gCons (gName 3) (gCons (gName 4) gNil)))) (tAsg (tOp (rAddU K) (tOp (rAddU K) (tOp (rAddU K) (tVar 1) (tCall (up (S__law_number K A)) [] E0 (tCons (tVar 2) tNil))) (tCall (up (S__law_number K A)) [] E0 (tCons (tVar 3) tNil))) (tCall (up (S__law_deed K A)) [] E0 (tCons (tVar 4) tNil))) (gName 1))) (tRet (tVar 1))
def t__law_triples (K : PySem.W.Frag) (A : Ad) : TS := tSeq (tAsg (tCall (up (S__law_number K A)) [] E0 (tCons (tCB (rLenU K) (tCons (tVar 0) tNil)) tNil)) (gName 1)) (t__law_triples_1 K A)
theorem len__law_triples {K : PySem.W.Frag} {A : Ad} : ∀ vs G Q E, S__law_triples K A vs G Q E → vs.length = ["triples"].length := by
  rintro vs G Q E ⟨v, us, ts, rfl, _⟩; rfl
theorem ok__law_triples {K : PySem.W.Frag} {A : Ad} : ∀ vs G Q E, S__law_triples K A vs G Q E → Es (t__law_triples K A) { nx := fun _ G' => Q .non G', rt := Q } (L2.start ["triples", "data", "replica", "place", "deed"] vs) G := by
  rintro vs G Q E ⟨pl, us, ts, rfl, hp, hI, hts, hn, q⟩
  change Es _ _ (_ :: _ :: _ :: _ :: _ :: []) _
  have hl : (wrTs ts).length = _ := wrL_len (ts.map wrT)
  rw [List.length_map] at hl
  have hfl := flat_len wrT_pos ts
  have hlen := ims_len hI
  rw [List.length_map] at hlen
  k_extra "e"
  refine ec_lenL (SqL.of hp) fun _ => ?_
  rw [hlen]
  k_extra "e"
  refine ⟨ts.length, rfl, by omega, fun G1 l e1 hl1 => ?_⟩
  k_extra "e"
  k_extra "e"
  refine es_forL ?_
  k_extra "e"
  refine ⟨pl, us, rfl, SqL.of ((e1.trans (Ex.new hl1)) _ _ hp), fun i σ G' => ∃ G2 p c2 c3 c4, σ = [some (.ref pl), some (.ref p), c2, c3, c4] ∧ Ex G G2 ∧ G2 p = none ∧ G' = upd G2 p (.lst ((wrN ts.length ++ ((ts.take i).map wrT).flatten).map V.int)), ⟨G1, l, _, _, _, rfl, e1, hl1, by simp⟩, ?_, ?_, ?_⟩
  · rintro i σ G' ⟨G2, p, c2, c3, c4, rfl, x1, x2, rfl⟩
    exact SqL.of ((x1.trans (Ex.new x2)) _ _ hp)
  · rintro i v σ G' hv ⟨G2, p, c2, c3, c4, rfl, x1, x2, rfl⟩
    obtain ⟨t, ht, hIt⟩ := ims_at hI hv
    have hi : (wrT t).length ≤ (ts.map wrT).flatten.length := flat_item (i := i) (by rw [List.getElem?_map, ht]; rfl)
    have hT := hts t (List.mem_of_getElem? ht)
    obtain ⟨qt, vd, rfl, hq, hvd⟩ := im_tri hIt
    have hwl := wrT_len t
    have hf2 := flat_le (wr := wrT) ts i
    have e0 := x1.trans (Ex.new (o := .lst ((wrN ts.length ++ ((ts.take i).map wrT).flatten).map V.int)) x2)
    refine eg_tup (e0.st hq) rfl ?_
    k_extra "e"
    k_extra "e"
    refine ⟨t.1.toNat, by rw [← nat_of hT.1.1]; rfl, by omega, fun G3 p3 e3 hp3 => ?_⟩
    refine er_li (x := wrN ts.length ++ ((ts.take i).map wrT).flatten) (get_new (e3 _ _ upd_same) hp3) li_new (by simp only [List.length_append]; omega) fun p4 hp4 => ?_
    have y4 := (e3.trans (Ex.new (o := .lst ((wrN t.1.toNat).map V.int)) hp3)).trans (Ex.new (o := .lst ((wrN ts.length ++ ((ts.take i).map wrT).flatten ++ wrN t.1.toNat).map V.int)) hp4)
    k_extra "e"
    refine ⟨t.2.1.toNat, by rw [← nat_of hT.2.1.1]; rfl, by omega, fun G5 p5 e5 hp5 => ?_⟩
    refine er_li (x := wrN ts.length ++ ((ts.take i).map wrT).flatten ++ wrN t.1.toNat) (get_new (e5 _ _ upd_same) hp5) li_new (by simp only [List.length_append]; omega) fun p6 hp6 => ?_
    have y6 := (y4.trans (e5.trans (Ex.new (o := .lst ((wrN t.2.1.toNat).map V.int)) hp5))).trans (Ex.new (o := .lst ((wrN ts.length ++ ((ts.take i).map wrT).flatten ++ wrN t.1.toNat ++ wrN t.2.1.toNat).map V.int)) hp6)
    k_extra "e"
    refine ⟨vd, t.2.2, rfl, (e0.trans y6).tx.im hvd, hT.2.2, by omega, fun G7 p7 e7 hp7 => ?_⟩
    refine er_li (x := wrN ts.length ++ ((ts.take i).map wrT).flatten ++ wrN t.1.toNat ++ wrN t.2.1.toNat) (get_new (e7 _ _ upd_same) hp7) li_new (by simp only [List.length_append]; omega) fun p8 hp8 => ?_
    k_extra "e"
    refine ⟨_, p8, _, _, _, rfl, (e0.trans y6).trans (e7.trans (Ex.new hp7)), hp8, ?_⟩
    rw [flat_next ht]
    simp only [wrT, List.append_assoc]
  · rintro σ G' ⟨G2, p, c2, c3, c4, rfl, x1, x2, rfl⟩
    rw [hlen, List.take_length]
    k_extra "e"
    have e5 : wrN ts.length ++ (ts.map wrT).flatten = wrTs ts := by unfold wrTs wrL; rw [List.length_map]
    rw [e5]
    exact q G2 p x1 x2
end Lw

namespace Lw
open PySem PySem.Spec PyProof.Rows L2
local macro_rules | `(tactic| k_extra "x1") => `(tactic| first
  | with_reducible refine es_seq ?_
  | with_reducible refine es_asg ?_
  | with_reducible refine es_if ?_
  | with_reducible refine es_ret ?_
  | with_reducible refine es_drop ?_
  | with_reducible refine es_next ?_
  | with_reducible refine es_augS ?_
  | with_reducible refine es_fld ?_
  | ((with_reducible show Ee (tVar _) _ _ _); refine ee_var rfl ?_)
  | with_reducible refine ee_c ?_
  | with_reducible refine ee_op ?_
  | with_reducible refine ee_un ?_
  | with_reducible refine eu_neg ?_
  | with_reducible refine ee_cb ?_
  | with_reducible refine ee_call ?_
  | with_reducible refine ea_nil ?_
  | with_reducible refine ea_cons ?_
  | with_reducible refine ee_sl ?_
  | with_reducible refine eo_no ?_
  | with_reducible refine eo_part ?_
  | with_reducible refine ee_tup ?_
  | with_reducible refine ee_lst ?_
  | with_reducible refine et_test ?_
  | with_reducible refine et_tB ?_
  | with_reducible refine et_tru ?_
  | with_reducible refine et_and ?_
  | with_reducible refine et_or ?_
  | with_reducible refine et_not ?_
  | with_reducible refine ee_and ?_
  | with_reducible refine ee_or ?_
  | with_reducible refine ee_not ?_
  | with_reducible refine ee_if ?_
  | with_reducible refine ee_chain ?_
  | with_reducible refine er_addI ?_
  | with_reducible refine er_subI ?_
  | with_reducible refine er_eqI ?_
  | with_reducible refine er_neI ?_
  | with_reducible refine er_eqNI ?_
  | with_reducible refine er_eqS ?_
  | with_reducible refine er_neS ?_
  | with_reducible refine er_eqB ?_
  | with_reducible refine er_neB ?_
  | with_reducible refine er_lt ?_
  | with_reducible refine er_le ?_
  | with_reducible refine er_gt ?_
  | with_reducible refine er_ge ?_
  | with_reducible refine er_isN_non ?_
  | with_reducible refine er_isN_bl ?_
  | with_reducible refine er_isN_int ?_
  | with_reducible refine er_isN_str ?_
  | with_reducible refine er_isN_ref ?_
  | with_reducible refine er_notN_non ?_
  | with_reducible refine er_notN_bl ?_
  | with_reducible refine er_notN_int ?_
  | with_reducible refine er_notN_str ?_
  | with_reducible refine er_notN_ref ?_
  | with_reducible refine er_isN ?_
  | with_reducible refine er_notN ?_
  | with_reducible refine ec_int ?_
  | with_reducible refine ec_intB ?_
  | with_reducible refine ec_max2 ?_
  | with_reducible refine ec_min2 ?_
  | with_reducible refine ip_I ?_
  | ((with_reducible refine eg_name ?_); (try dsimp only [L2.wipe, List.set_cons_zero, List.set_cons_succ]))
  | with_reducible refine eg_sub ?_
  | with_reducible refine egs_cons ?_
  | with_reducible refine egs_nil ?_
  | with_reducible refine tru_bl ?_
  | with_reducible refine tru_int ?_
  | with_reducible refine tru_non ?_
  | with_reducible refine iteT ?_
  | with_reducible refine iteF ?_
  | with_reducible refine ite_nt ?_
  | with_reducible refine ite_nf ?_
  | with_reducible refine ⟨_, rfl, ?_⟩)
local macro_rules | `(tactic| k_extra "s") => `(tactic| ((first | k_extra "x1" | ((with_reducible refine es_unf ?_); refine es_seq ?_)); (repeat k_extra "x1")))
local macro_rules | `(tactic| k_extra "x") => `(tactic| (repeat first | k_extra "x1" | ((with_reducible refine es_unf ?_); refine es_seq ?_)))
local macro_rules | `(tactic| k_extra "start") => `(tactic| dsimp only [L2.start, List.map_cons, List.map_nil, List.length_cons, List.length_nil, Nat.reduceAdd, Nat.reduceSub, List.replicate, List.cons_append, List.nil_append, Nat.zero_add])
local macro_rules | `(tactic| k_extra "e1") => `(tactic| first
  | with_reducible refine es_next ?_
  | ((with_reducible show Ee (tVar _) _ _ _); refine ee_var rfl ?_)
  | with_reducible refine ee_c ?_
  | with_reducible refine ee_op ?_
  | with_reducible refine ee_un ?_
  | with_reducible refine eu_neg ?_
  | with_reducible refine ee_cb ?_
  | with_reducible refine ee_call ?_
  | with_reducible refine ea_nil ?_
  | with_reducible refine ea_cons ?_
  | with_reducible refine ee_sl ?_
  | with_reducible refine eo_no ?_
  | with_reducible refine eo_part ?_
  | with_reducible refine ee_tup ?_
  | with_reducible refine ee_lst ?_
  | with_reducible refine et_test ?_
  | with_reducible refine et_tB ?_
  | with_reducible refine et_tru ?_
  | with_reducible refine et_and ?_
  | with_reducible refine et_or ?_
  | with_reducible refine et_not ?_
  | with_reducible refine ee_and ?_
  | with_reducible refine ee_or ?_
  | with_reducible refine ee_not ?_
  | with_reducible refine ee_if ?_
  | with_reducible refine ee_chain ?_
  | with_reducible refine er_addI ?_
  | with_reducible refine er_subI ?_
  | with_reducible refine er_eqI ?_
  | with_reducible refine er_neI ?_
  | with_reducible refine er_eqNI ?_
  | with_reducible refine er_eqS ?_
  | with_reducible refine er_neS ?_
  | with_reducible refine er_eqB ?_
  | with_reducible refine er_neB ?_
  | with_reducible refine er_lt ?_
  | with_reducible refine er_le ?_
  | with_reducible refine er_gt ?_
  | with_reducible refine er_ge ?_
  | with_reducible refine er_isN_non ?_
  | with_reducible refine er_isN_bl ?_
  | with_reducible refine er_isN_int ?_
  | with_reducible refine er_isN_str ?_
  | with_reducible refine er_isN_ref ?_
  | with_reducible refine er_notN_non ?_
  | with_reducible refine er_notN_bl ?_
  | with_reducible refine er_notN_int ?_
  | with_reducible refine er_notN_str ?_
  | with_reducible refine er_notN_ref ?_
  | with_reducible refine er_isN ?_
  | with_reducible refine er_notN ?_
  | with_reducible refine ec_int ?_
  | with_reducible refine ec_intB ?_
  | with_reducible refine ec_max2 ?_
  | with_reducible refine ec_min2 ?_
  | with_reducible refine ip_I ?_
  | ((with_reducible refine eg_name ?_); (try dsimp only [L2.wipe, List.set_cons_zero, List.set_cons_succ]))
  | with_reducible refine eg_sub ?_
  | with_reducible refine egs_cons ?_
  | with_reducible refine egs_nil ?_
  | with_reducible refine tru_bl ?_
  | with_reducible refine tru_int ?_
  | with_reducible refine tru_non ?_
  | with_reducible refine iteT ?_
  | with_reducible refine iteF ?_
  | with_reducible refine ite_nt ?_
  | with_reducible refine ite_nf ?_
  | with_reducible refine ex_bl ?_
  | with_reducible refine ex_int ?_
  | with_reducible refine ex_str ?_
  | with_reducible refine ex_strx ?_
  | with_reducible refine ex_ints1 ?_
  | with_reducible refine ex_ints2 ?_)
local macro_rules | `(tactic| k_extra "t1") => `(tactic| first
  | with_reducible refine es_asg ?_
  | with_reducible refine es_if ?_
  | with_reducible refine es_ret ?_
  | with_reducible refine es_drop ?_
  | with_reducible refine es_augS ?_
  | with_reducible refine es_fld ?_)
local macro_rules | `(tactic| k_extra "e") => `(tactic| first
  | ((with_reducible refine es_seq ?_); (try k_extra "t1"); (repeat k_extra "e1"))
  | (k_extra "t1"; (repeat k_extra "e1"))
  | (k_extra "e1"; (repeat k_extra "e1"))
  | ((with_reducible refine es_unf ?_); (refine es_seq ?_); (try k_extra "t1"); (repeat k_extra "e1")))
/-! ### the law's own readers -/
def NB (bs : List Int) : Prop := ∀ b ∈ bs, 0 ≤ b
def RfQ {α : Type} (K : PySem.W.Frag) (R : Hp → V → α → Prop) (f : Rdr α) (bs : List Int) (a : Nat) (G : Hp) (Q : V → Hp → Prop) : Prop :=
  (f bs a = none → ∀ G', Ex G G' → Q .non G') ∧ (∀ r b, f bs a = some (r, b) → ∀ G' t v, Ex G G' → SqT K G' t [v, .int (b : Nat)] → R G' v r → Q (.ref t) G')
def RfP {α : Type} (K : PySem.W.Frag) (R : Hp → V → α → Prop) (f : Rdr α) : Pm := fun vs G Q _ => ∃ (pd : Addr) (bs : List Int) (a : Nat), vs = [.ref pd, .int (a : Nat)] ∧ Li G pd bs ∧ bs.length ≤ 1000000 ∧ NB bs ∧ RfQ K R f bs a G Q
theorem lenF {α : Type} {K : PySem.W.Frag} {R : Hp → V → α → Prop} {f : Rdr α} : ∀ vs G Q E, RfP K R f vs G Q E → vs.length = ["data", "at"].length := by
  rintro vs G Q E ⟨pd, bs, a, rfl, _⟩; rfl
def S__law_read_number (K : PySem.W.Frag) (A : Ad) : Pm := RfP K RI rdN
/-! _law_read_number -/
def t__law_read_number_1 (K : PySem.W.Frag) (A : Ad) : TS := tSeq (tAsg (tOp (rMulU) (tVar 3) (tC (.int 128))) (gName 3)) (tIfS (tTest (tOp (rLtU K) (tOp (rIx K) (tVar 0) (tOp (rAddU K) (tVar 1) (tVar 4))) (tC (.int 128)))) (tRet (tIf (tAnd (tTest (tOp (rGtI) (tVar 4) (tC (.int 0)))) (tTest (tOp (rEqU K) (tOp (rIx K) (tVar 0) (tOp (rAddU K) (tVar 1) (tVar 4))) (tC (.int 0))))) (tC .non) (tTup (tCons (tVar 2) (tCons (tOp (rAddU K) (tOp (rAddU K) (tVar 1) (tVar 4)) (tC (.int 1))) tNil))))) tNext)
def t__law_read_number_2 (K : PySem.W.Frag) (A : Ad) : TS := tSeq (tAsg (tOp (rAddU K) (tVar 2) (tOp (rMulU) (tOp (rModU) (tOp (rIx K) (tVar 0) (tOp (rAddU K) (tVar 1) (tVar 4))) (tC (.int 128))) (tVar 3))) (gName 2)) (t__law_read_number_1 K A)
def t__law_read_number_3 (K : PySem.W.Frag) (A : Ad) : TS := tSeq (tIfS (tTest (tOp (rGeI) (tOp (rAddU K) (tVar 1) (tVar 4)) (tCB (rLenU K) (tCons (tVar 0) tNil)))) (tRet (tC .non)) tNext) (t__law_read_number_2 K A)
def t__law_read_number_4 (K : PySem.W.Frag) (A : Ad) : TS := tSeq (tFor (iRng1 (tCons (tC (.int 60)) tNil)) (gName 4) (t__law_read_number_3 K A)) (tRet (tC .non))
def t__law_read_number_5 (K : PySem.W.Frag) (A : Ad) : TS := tSeq (tAsg (tC (.int 1)) (gName 3)) (t__law_read_number_4 K A)
def t__law_read_number (K : PySem.W.Frag) (A : Ad) : TS := tSeq (tAsg (tC (.int 0)) (gName 2)) (t__law_read_number_5 K A)
theorem len__law_read_number {K : PySem.W.Frag} {A : Ad} : ∀ vs G Q E, S__law_read_number K A vs G Q E → vs.length = ["data", "at"].length := lenF
theorem ok__law_read_number {K : PySem.W.Frag} {A : Ad} : ∀ vs G Q E, S__law_read_number K A vs G Q E → Es (t__law_read_number K A) { nx := fun _ G' => Q .non G', rt := Q } (L2.start ["data", "at", "total", "factor", "k"] vs) G := by
  rintro vs G Q E ⟨pd, bs, a, rfl, hd, hl, hnb, q1, q2⟩
  change Es _ _ (_ :: _ :: _ :: _ :: _ :: []) _
  have fail : rdG 0 1 0 60 (bs.drop a) = none → Q .non G := fun h => q1 (by unfold rdN; rw [h]; rfl) G (Ex.refl _)
  k_extra "e"
  k_extra "e"
  k_extra "e"
  refine es_forR1 ?_
  k_extra "e"
  refine ⟨by omega, fun i σ G' => ∃ (t f : Int) (c : Option V), σ = [some (.ref pd), some (.int (a : Nat)), some (.int t), some (.int f), c] ∧ G' = G ∧ rdG t f i (60 - i) (bs.drop (a + i)) = rdG 0 1 0 60 (bs.drop a), ⟨0, 1, _, rfl, rfl, rfl⟩, ?_, ?_⟩
  · rintro i σ G2 hi ⟨t, f, c, rfl, eG, hg⟩
    obtain rfl : G = G2 := eG.symm
    have hi60 : i < 60 := by omega
    have e60 : 60 - i = (60 - (i + 1)) + 1 := by omega
    rw [e60] at hg
    have ea : ((a : Nat) : Int) + ((i : Nat) : Int) = ((a + i : Nat) : Int) := rfl
    k_extra "e"
    refine ec_lenL (SqL.of hd) fun _ => ?_
    rw [List.length_map]
    k_extra "e"
    refine ifd (fun hge => ?_) (fun hge => ?_)
    · have hdn : bs.drop (a + i) = [] := List.drop_of_length_le (by omega)
      rw [hdn] at hg
      k_extra "e"
      exact fail hg.symm
    have hlt : a + i < bs.length := by omega
    have hdn : bs.drop (a + i) = bs[a + i] :: bs.drop (a + (i + 1)) := List.drop_eq_getElem_cons hlt
    have hat : (bs.map V.int)[a + i]? = some (.int bs[a + i]) := by rw [List.getElem?_map, List.getElem?_eq_getElem hlt]; rfl
    rw [hdn, rdG_cons] at hg
    k_extra "e"
    k_extra "e"
    rw [ea]
    refine er_ixL (SqL.of hd) (atI_nat hat) ?_
    k_extra "e"
    refine er_mod (by decide) ?_
    k_extra "e"
    refine er_mulL (by omega) ?_
    k_extra "e"
    k_extra "e"
    refine er_mulR (by decide) ?_
    k_extra "e"
    k_extra "e"
    rw [ea]
    refine er_ixL (SqL.of hd) (atI_nat hat) ?_
    k_extra "e"
    refine ifd (fun h128 => ?_) (fun h128 => ?_)
    · rw [if_pos h128] at hg
      have good : ¬ (bs[a + i] = 0 ∧ 0 < i) → ∀ t2, G t2 = none → Q (.ref t2) (upd G t2 (.tup [.int (t + bs[a + i] % 128 * f), .int (((a + i : Nat) : Int) + 1)])) := fun hn t2 ht2 => by
        rw [if_neg hn] at hg
        exact q2 _ (a + (i + 1)) (by unfold rdN; rw [← hg]; rfl) _ t2 _ (Ex.new ht2) (SqT.of upd_same) rfl
      k_extra "e"
      refine ifd (fun hk => ?_) (fun hk => ?_)
      · k_extra "e"
        rw [ea]
        refine er_ixL (SqL.of hd) (atI_nat hat) ?_
        k_extra "e"
        refine ifd (fun h0 => ?_) (fun h0 => ?_)
        · k_extra "e"
          rw [if_pos ⟨h0, by omega⟩] at hg
          exact fail hg.symm
        · k_extra "e"
          refine ⟨sz1000 (by simp), fun t2 ht2 => ?_⟩
          exact good (fun z => h0 z.1) t2 ht2
      · k_extra "e"
        refine ⟨sz1000 (by simp), fun t2 ht2 => ?_⟩
        exact good (fun z => hk (by omega)) t2 ht2
    · rw [if_neg h128] at hg
      k_extra "e"
      exact ⟨_, _, _, rfl, rfl, hg⟩
  · rintro σ G' ⟨t, f, c, rfl, rfl, hg⟩
    k_extra "e"
    exact fail hg.symm
def S__law_sign (K : PySem.W.Frag) (A : Ad) : Pm := fun vs G Q _ => ∃ (c : Int) (x : Nat), vs = [.int c] ∧ sign c = some x ∧ Q (.str (mkS [x])) G
/-! _law_sign -/
def t__law_sign_1 (K : PySem.W.Frag) (A : Ad) : TS := tSeq (tIfS (tTest (tOp (rLtU K) (tVar 0) (tC (.int 37)))) (tRet (tIf (tTest (tOp (rEqU K) (tVar 0) (tC (.int 10)))) (tC (.str "\n")) (tOp (rIx K) (tVar 1) (tOp (rSubI) (tVar 0) (tC (.int 32)))))) tNext) (tRet (tOp (rIx K) (tVar 2) (tOp (rSubI) (tVar 0) (tC (.int 38)))))
def t__law_sign_2 (K : PySem.W.Frag) (A : Ad) : TS := tSeq (tAsg (tC (.str "&'()*+,-./0123456789:;<=>?@ABCDEFGHIJKLMNOPQRSTUVWXYZ[\\]^_`abcdefghijklmnopqrstuvwxyz{|}~")) (gName 2)) (t__law_sign_1 K A)
def t__law_sign (K : PySem.W.Frag) (A : Ad) : TS := tSeq (tAsg (tC (.str " !\"#$")) (gName 1)) (t__law_sign_2 K A)
theorem len__law_sign {K : PySem.W.Frag} {A : Ad} : ∀ vs G Q E, S__law_sign K A vs G Q E → vs.length = ["code"].length := by
  rintro vs G Q E ⟨c, x, rfl, _⟩; rfl
theorem ok__law_sign {K : PySem.W.Frag} {A : Ad} : ∀ vs G Q E, S__law_sign K A vs G Q E → Es (t__law_sign K A) { nx := fun _ G' => Q .non G', rt := Q } (L2.start ["code", "first", "rest"] vs) G := by
  rintro vs G Q E ⟨r, x, rfl, hs, q⟩
  change Es _ _ (_ :: _ :: _ :: []) _
  unfold sign at hs
  k_extra "e"
  k_extra "e"
  k_extra "e"
  refine ifd (fun h37 => ?_) (fun h37 => ?_)
  · k_extra "e"
    refine ifd (fun h10 => ?_) (fun h10 => ?_)
    · rw [if_pos h10] at hs
      obtain rfl := Option.some.inj hs
      k_extra "e"
      exact q
    · rw [if_neg h10] at hs
      by_cases h32 : 32 ≤ r
      · rw [if_pos ⟨h32, h37⟩] at hs
        obtain rfl := Option.some.inj hs
        k_extra "e"
        have e1 : r - 32 = ((r - 32).toNat : Nat) := by omega
        rw [e1]
        refine er_ixS (by decide) (atI_nat (before_at (r - 32).toNat (by omega))) ?_
        have e2 : 32 + (r - 32).toNat = r.toNat := by omega
        rw [e2]
        exact q
      · rw [if_neg (fun z => h32 z.1), if_neg (fun z => by omega)] at hs
        cases hs
  · rw [if_neg (by omega), if_neg (fun z => h37 z.2)] at hs
    by_cases h38 : 38 ≤ r ∧ r < 127
    · rw [if_pos h38] at hs
      obtain rfl := Option.some.inj hs
      k_extra "e"
      k_extra "e"
      have e1 : r - 38 = ((r - 38).toNat : Nat) := by omega
      rw [e1]
      refine er_ixS (by decide) (atI_nat (after_at (r - 38).toNat (by omega))) ?_
      have e2 : 38 + (r - 38).toNat = r.toNat := by omega
      rw [e2]
      exact q
    · rw [if_neg h38] at hs
      cases hs
def S__law_read_mark (K : PySem.W.Frag) (A : Ad) : Pm := RfP K (RM K) rdM
/-! _law_read_mark -/
def t__law_read_mark_1 (K : PySem.W.Frag) (A : Ad) : TS := tSeq (tAsg (tIf (tTest (tOp (rIsN) (tVar 2) (tC .non))) (tC .non) (tCall (up (S__law_read_number K A)) [] E0 (tCons (tVar 0) (tCons (tOp (rIx K) (tVar 2) (tC (.int 1))) tNil)))) (gName 3)) (tRet (tIf (tTest (tOp (rIsN) (tVar 3) (tC .non))) (tC .non) (tTup (tCons (tTup (tCons (tOp (rIx K) (tVar 2) (tC (.int 0))) (tCons (tOp (rIx K) (tVar 3) (tC (.int 0))) tNil))) (tCons (tOp (rIx K) (tVar 3) (tC (.int 1))) tNil)))))
def t__law_read_mark (K : PySem.W.Frag) (A : Ad) : TS := tSeq (tAsg (tCall (up (S__law_read_number K A)) [] E0 (tCons (tVar 0) (tCons (tVar 1) tNil))) (gName 2)) (t__law_read_mark_1 K A)
theorem len__law_read_mark {K : PySem.W.Frag} {A : Ad} : ∀ vs G Q E, S__law_read_mark K A vs G Q E → vs.length = ["data", "at"].length := lenF
theorem ok__law_read_mark {K : PySem.W.Frag} {A : Ad} : ∀ vs G Q E, S__law_read_mark K A vs G Q E → Es (t__law_read_mark K A) { nx := fun _ G' => Q .non G', rt := Q } (L2.start ["data", "at", "first", "second"] vs) G := by
  rintro vs G Q E ⟨pd, bs, a, rfl, hd, hl, hnb, q1, q2⟩
  change Es _ _ (_ :: _ :: _ :: _ :: []) _
  k_extra "e"
  refine ⟨pd, bs, a, rfl, hd, hl, hnb, fun h G1 e1 => ?_, fun n b h G1 t v e1 ht hv => ?_⟩
  · k_extra "e"
    k_extra "e"
    k_extra "e"
    exact q1 (by unfold rdM; rw [h]) _ e1
  · cases hv
    k_extra "e"
    k_extra "e"
    refine er_ixT ht (atI_nat (j := 1) rfl) ?_
    k_extra "e"
    refine ⟨pd, bs, b, rfl, hd.up e1, hl, hnb, fun h2 G2 e2 => ?_, fun r c h2 G2 t2 v e2 ht2 hv => ?_⟩
    · k_extra "e"
      k_extra "e"
      exact q1 (by unfold rdM; rw [h]; simp only; rw [h2]) _ (e1.trans e2)
    · cases hv
      k_extra "e"
      k_extra "e"
      refine er_ixT (e2.st ht) (atI_nat (j := 0) rfl) ?_
      k_extra "e"
      refine er_ixT ht2 (atI_nat (j := 0) rfl) ?_
      k_extra "e"
      refine ⟨sz1000 (by simp), fun t3 ht3 => ?_⟩
      k_extra "e"
      refine er_ixT ((Ex.new ht3).st ht2) (atI_nat (j := 1) rfl) ?_
      k_extra "e"
      refine ⟨sz1000 (by simp), fun t4 ht4 => ?_⟩
      exact q2 (n, r) c (by unfold rdM; rw [h]; simp only; rw [h2]) _ t4 _ (((e1.trans e2).trans (Ex.new ht3)).trans (Ex.new ht4)) (SqT.of upd_same) (.tup (SqT.of (get_new upd_same ht4)) (.cons (.int _) (.cons (.int _) .nil)))
end Lw

namespace Lw
open PySem PySem.Spec PyProof.Rows L2
local macro_rules | `(tactic| k_extra "x1") => `(tactic| first
  | with_reducible refine es_seq ?_
  | with_reducible refine es_asg ?_
  | with_reducible refine es_if ?_
  | with_reducible refine es_ret ?_
  | with_reducible refine es_drop ?_
  | with_reducible refine es_next ?_
  | with_reducible refine es_augS ?_
  | with_reducible refine es_fld ?_
  | ((with_reducible show Ee (tVar _) _ _ _); refine ee_var rfl ?_)
  | with_reducible refine ee_c ?_
  | with_reducible refine ee_op ?_
  | with_reducible refine ee_un ?_
  | with_reducible refine eu_neg ?_
  | with_reducible refine ee_cb ?_
  | with_reducible refine ee_call ?_
  | with_reducible refine ea_nil ?_
  | with_reducible refine ea_cons ?_
  | with_reducible refine ee_sl ?_
  | with_reducible refine eo_no ?_
  | with_reducible refine eo_part ?_
  | with_reducible refine ee_tup ?_
  | with_reducible refine ee_lst ?_
  | with_reducible refine et_test ?_
  | with_reducible refine et_tB ?_
  | with_reducible refine et_tru ?_
  | with_reducible refine et_and ?_
  | with_reducible refine et_or ?_
  | with_reducible refine et_not ?_
  | with_reducible refine ee_and ?_
  | with_reducible refine ee_or ?_
  | with_reducible refine ee_not ?_
  | with_reducible refine ee_if ?_
  | with_reducible refine ee_chain ?_
  | with_reducible refine er_addI ?_
  | with_reducible refine er_subI ?_
  | with_reducible refine er_eqI ?_
  | with_reducible refine er_neI ?_
  | with_reducible refine er_eqNI ?_
  | with_reducible refine er_eqS ?_
  | with_reducible refine er_neS ?_
  | with_reducible refine er_eqB ?_
  | with_reducible refine er_neB ?_
  | with_reducible refine er_lt ?_
  | with_reducible refine er_le ?_
  | with_reducible refine er_gt ?_
  | with_reducible refine er_ge ?_
  | with_reducible refine er_isN_non ?_
  | with_reducible refine er_isN_bl ?_
  | with_reducible refine er_isN_int ?_
  | with_reducible refine er_isN_str ?_
  | with_reducible refine er_isN_ref ?_
  | with_reducible refine er_notN_non ?_
  | with_reducible refine er_notN_bl ?_
  | with_reducible refine er_notN_int ?_
  | with_reducible refine er_notN_str ?_
  | with_reducible refine er_notN_ref ?_
  | with_reducible refine er_isN ?_
  | with_reducible refine er_notN ?_
  | with_reducible refine ec_int ?_
  | with_reducible refine ec_intB ?_
  | with_reducible refine ec_max2 ?_
  | with_reducible refine ec_min2 ?_
  | with_reducible refine ip_I ?_
  | ((with_reducible refine eg_name ?_); (try dsimp only [L2.wipe, List.set_cons_zero, List.set_cons_succ]))
  | with_reducible refine eg_sub ?_
  | with_reducible refine egs_cons ?_
  | with_reducible refine egs_nil ?_
  | with_reducible refine tru_bl ?_
  | with_reducible refine tru_int ?_
  | with_reducible refine tru_non ?_
  | with_reducible refine iteT ?_
  | with_reducible refine iteF ?_
  | with_reducible refine ite_nt ?_
  | with_reducible refine ite_nf ?_
  | with_reducible refine ⟨_, rfl, ?_⟩)
local macro_rules | `(tactic| k_extra "s") => `(tactic| ((first | k_extra "x1" | ((with_reducible refine es_unf ?_); refine es_seq ?_)); (repeat k_extra "x1")))
local macro_rules | `(tactic| k_extra "x") => `(tactic| (repeat first | k_extra "x1" | ((with_reducible refine es_unf ?_); refine es_seq ?_)))
local macro_rules | `(tactic| k_extra "start") => `(tactic| dsimp only [L2.start, List.map_cons, List.map_nil, List.length_cons, List.length_nil, Nat.reduceAdd, Nat.reduceSub, List.replicate, List.cons_append, List.nil_append, Nat.zero_add])
local macro_rules | `(tactic| k_extra "e1") => `(tactic| first
  | with_reducible refine es_next ?_
  | ((with_reducible show Ee (tVar _) _ _ _); refine ee_var rfl ?_)
  | with_reducible refine ee_c ?_
  | with_reducible refine ee_op ?_
  | with_reducible refine ee_un ?_
  | with_reducible refine eu_neg ?_
  | with_reducible refine ee_cb ?_
  | with_reducible refine ee_call ?_
  | with_reducible refine ea_nil ?_
  | with_reducible refine ea_cons ?_
  | with_reducible refine ee_sl ?_
  | with_reducible refine eo_no ?_
  | with_reducible refine eo_part ?_
  | with_reducible refine ee_tup ?_
  | with_reducible refine ee_lst ?_
  | with_reducible refine et_test ?_
  | with_reducible refine et_tB ?_
  | with_reducible refine et_tru ?_
  | with_reducible refine et_and ?_
  | with_reducible refine et_or ?_
  | with_reducible refine et_not ?_
  | with_reducible refine ee_and ?_
  | with_reducible refine ee_or ?_
  | with_reducible refine ee_not ?_
  | with_reducible refine ee_if ?_
  | with_reducible refine ee_chain ?_
  | with_reducible refine er_addI ?_
  | with_reducible refine er_subI ?_
  | with_reducible refine er_eqI ?_
  | with_reducible refine er_neI ?_
  | with_reducible refine er_eqNI ?_
  | with_reducible refine er_eqS ?_
  | with_reducible refine er_neS ?_
  | with_reducible refine er_eqB ?_
  | with_reducible refine er_neB ?_
  | with_reducible refine er_lt ?_
  | with_reducible refine er_le ?_
  | with_reducible refine er_gt ?_
  | with_reducible refine er_ge ?_
  | with_reducible refine er_isN_non ?_
  | with_reducible refine er_isN_bl ?_
  | with_reducible refine er_isN_int ?_
  | with_reducible refine er_isN_str ?_
  | with_reducible refine er_isN_ref ?_
  | with_reducible refine er_notN_non ?_
  | with_reducible refine er_notN_bl ?_
  | with_reducible refine er_notN_int ?_
  | with_reducible refine er_notN_str ?_
  | with_reducible refine er_notN_ref ?_
  | with_reducible refine er_isN ?_
  | with_reducible refine er_notN ?_
  | with_reducible refine ec_int ?_
  | with_reducible refine ec_intB ?_
  | with_reducible refine ec_max2 ?_
  | with_reducible refine ec_min2 ?_
  | with_reducible refine ip_I ?_
  | ((with_reducible refine eg_name ?_); (try dsimp only [L2.wipe, List.set_cons_zero, List.set_cons_succ]))
  | with_reducible refine eg_sub ?_
  | with_reducible refine egs_cons ?_
  | with_reducible refine egs_nil ?_
  | with_reducible refine tru_bl ?_
  | with_reducible refine tru_int ?_
  | with_reducible refine tru_non ?_
  | with_reducible refine iteT ?_
  | with_reducible refine iteF ?_
  | with_reducible refine ite_nt ?_
  | with_reducible refine ite_nf ?_
  | with_reducible refine ex_bl ?_
  | with_reducible refine ex_int ?_
  | with_reducible refine ex_str ?_
  | with_reducible refine ex_strx ?_
  | with_reducible refine ex_ints1 ?_
  | with_reducible refine ex_ints2 ?_)
local macro_rules | `(tactic| k_extra "t1") => `(tactic| first
  | with_reducible refine es_asg ?_
  | with_reducible refine es_if ?_
  | with_reducible refine es_ret ?_
  | with_reducible refine es_drop ?_
  | with_reducible refine es_augS ?_
  | with_reducible refine es_fld ?_)
local macro_rules | `(tactic| k_extra "e") => `(tactic| first
  | ((with_reducible refine es_seq ?_); (try k_extra "t1"); (repeat k_extra "e1"))
  | (k_extra "t1"; (repeat k_extra "e1"))
  | (k_extra "e1"; (repeat k_extra "e1"))
  | ((with_reducible refine es_unf ?_); (refine es_seq ?_); (try k_extra "t1"); (repeat k_extra "e1")))
theorem mkS_app (x y : List Nat) : mkS x ++ mkS y = mkS (x ++ y) := by
  refine TL.ext_tl ?_
  rw [TL.tl_append]
  simp [mkS, TL.tl]
theorem sign_none {c : Int} (h1 : c ≠ 10) (h2 : ¬ (32 ≤ c ∧ c ≤ 126) ∨ c = 37) : sign c = none := by
  unfold sign
  rw [if_neg h1, if_neg (by omega), if_neg (by omega)]
theorem sign_some {c : Int} (h : c = 10 ∨ (32 ≤ c ∧ c ≤ 126 ∧ c ≠ 37)) : ∃ x, sign c = some x := by
  unfold sign
  by_cases h1 : c = 10
  · exact ⟨10, by rw [if_pos h1]⟩
  · rw [if_neg h1]
    by_cases h2 : 32 ≤ c ∧ c < 37
    · exact ⟨_, by rw [if_pos h2]⟩
    · rw [if_neg h2]
      exact ⟨_, by rw [if_pos (by omega)]⟩
def S__law_read_text (K : PySem.W.Frag) (A : Ad) : Pm := RfP K RS rdS
/-! _law_read_text -/
def t__law_read_text_1 (K : PySem.W.Frag) (A : Ad) : TS := tSeq (tAsg (tOp (rAddU K) (tVar 4) (tCall (up (S__law_sign K A)) [] E0 (tCons (tOp (rIx K) (tVar 2) (tC (.int 0))) tNil))) (gName 4)) (tAsg (tOp (rIx K) (tVar 2) (tC (.int 1))) (gName 1))
def t__law_read_text_2 (K : PySem.W.Frag) (A : Ad) : TS := tSeq (tIfS (tOr (tTest (tOp (rIsN) (tVar 2) (tC .non))) (tOr (tAnd (tTest (tOp (rNeU K) (tOp (rIx K) (tVar 2) (tC (.int 0))) (tC (.int 10)))) (tNot (tTest (tChain (rLeI) (rLeI) (tC (.int 32)) (tOp (rIx K) (tVar 2) (tC (.int 0))) (tC (.int 126)))))) (tTest (tOp (rEqU K) (tOp (rIx K) (tVar 2) (tC (.int 0))) (tC (.int 37)))))) (tRet (tC .non)) tNext) (t__law_read_text_1 K A)
def t__law_read_text_3 (K : PySem.W.Frag) (A : Ad) : TS := tSeq (tAsg (tCall (up (S__law_read_number K A)) [] E0 (tCons (tVar 0) (tCons (tVar 1) tNil))) (gName 2)) (t__law_read_text_2 K A)
def t__law_read_text_4 (K : PySem.W.Frag) (A : Ad) : TS := tSeq (tFor (iRng1 (tCons (tVar 3) tNil)) (gName 5) (t__law_read_text_3 K A)) (tRet (tTup (tCons (tVar 4) (tCons (tVar 1) tNil))))
def t__law_read_text_5 (K : PySem.W.Frag) (A : Ad) : TS := tSeq (tAsg (tC (.str "")) (gName 4)) (t__law_read_text_4 K A)
def t__law_read_text_6 (K : PySem.W.Frag) (A : Ad) : TS := tSeq (tAsg (tVar 2) (gTup K 2 (gCons (gName 3) (gCons (gName 1) gNil)))) (t__law_read_text_5 K A)
def t__law_read_text_7 (K : PySem.W.Frag) (A : Ad) : TS := tSeq (tIfS (tOr (tTest (tOp (rIsN) (tVar 2) (tC .non))) (tTest (tOp (rGtI) (tOp (rIx K) (tVar 2) (tC (.int 0))) (tOp (rSubI) (tCB (rLenU K) (tCons (tVar 0) tNil)) (tOp (rIx K) (tVar 2) (tC (.int 1))))))) (tRet (tC .non)) tNext) (t__law_read_text_6 K A)
def t__law_read_text (K : PySem.W.Frag) (A : Ad) : TS := tSeq (tAsg (tCall (up (S__law_read_number K A)) [] E0 (tCons (tVar 0) (tCons (tVar 1) tNil))) (gName 2)) (t__law_read_text_7 K A)
theorem len__law_read_text {K : PySem.W.Frag} {A : Ad} : ∀ vs G Q E, S__law_read_text K A vs G Q E → vs.length = ["data", "at"].length := lenF
theorem ok__law_read_text {K : PySem.W.Frag} {A : Ad} : ∀ vs G Q E, S__law_read_text K A vs G Q E → Es (t__law_read_text K A) { nx := fun _ G' => Q .non G', rt := Q } (L2.start ["data", "at", "found", "count", "text", "k"] vs) G := by
  rintro vs G Q E ⟨pd, bs, a, rfl, hd, hl, hnb, q1, q2⟩
  change Es _ _ (_ :: _ :: _ :: _ :: _ :: _ :: []) _
  k_extra "e"
  refine ⟨pd, bs, a, rfl, hd, hl, hnb, fun h G1 e1 => ?_, fun n b h G1 t v e1 ht hv => ?_⟩
  · k_extra "e"
    k_extra "e"
    k_extra "e"
    exact q1 (by unfold rdS rdL rdC; rw [h]) _ e1
  cases hv
  have e0 : rdC bs a = if (bs.length : Int) - (b : Int) < n then none else some (n, b) := by unfold rdC; rw [h]
  k_extra "e"
  k_extra "e"
  refine er_ixT ht (atI_nat (j := 0) rfl) ?_
  k_extra "e"
  refine ec_lenL (SqL.of (hd.up e1)) fun _ => ?_
  rw [List.length_map]
  k_extra "e"
  refine er_ixT ht (atI_nat (j := 1) rfl) ?_
  k_extra "e"
  refine ifd (fun hn => ?_) (fun hn => ?_)
  · k_extra "e"
    rw [if_pos hn] at e0
    exact q1 (by unfold rdS rdL; rw [e0]) _ e1
  rw [if_neg hn] at e0
  have hn0 := (rdN_nn h).1
  have eL : rdS bs a = rdR rdX bs n.toNat b := by unfold rdS rdL; rw [e0]
  k_extra "e"
  k_extra "e"
  refine eg_tup ht rfl ?_
  k_extra "e"
  k_extra "e"
  k_extra "e"
  refine es_forR1 ?_
  k_extra "e"
  refine ⟨by omega, fun i σ G' => ∃ (xs : List Nat) (b2 : Nat) (c2 c5 : Option V), σ = [some (.ref pd), some (.int (b2 : Nat)), c2, some (.int n), some (.str (mkS xs)), c5] ∧ Ex G G' ∧ rdR rdX bs i b = some (xs, b2), ⟨[], b, _, _, rfl, e1, rfl⟩, ?_, ?_⟩
  · rintro i σ G' hi ⟨xs, b2, c2, c5, rfl, x1, hR⟩
    have hxl := rdR_len hR
    have bad : rdX bs b2 = none → ∀ G', Ex G G' → Q .non G' := fun hx G' e => q1 (by
      rw [eL]
      refine rdR_none (i := i + 1) _ ?_ (by omega)
      unfold rdR; rw [hR]; simp only; rw [hx]) G' e
    k_extra "e"
    refine ⟨pd, bs, b2, rfl, hd.up x1, hl, hnb, fun h2 G2 e2 => ?_, fun c b3 h2 G2 t2 v e2 ht2 hv => ?_⟩
    · k_extra "e"
      k_extra "e"
      k_extra "e"
      exact bad (by unfold rdX; rw [h2]) _ (x1.trans e2)
    cases hv
    have eX : rdX bs b2 = (sign c).map fun x => (x, b3) := by unfold rdX; rw [h2]
    have none_ : sign c = none → Q .non G2 := fun hs => bad (by rw [eX, hs]; rfl) _ (x1.trans e2)
    have go : ∀ x, sign c = some x → Es (t__law_read_text_1 K A) (Bd { nx := fun σ' G' => Es (tRet (tTup (tCons (tVar 4) (tCons (tVar 1) tNil)))) { nx := fun _ G' => Q .non G', rt := Q } σ' G', rt := Q } fun σ G' => ∃ (xs : List Nat) (b2 : Nat) (c2 c5 : Option V), σ = [some (.ref pd), some (.int (b2 : Nat)), c2, some (.int n), some (.str (mkS xs)), c5] ∧ Ex G G' ∧ rdR rdX bs (i + 1) b = some (xs, b2))
        [some (.ref pd), some (.int (b2 : Nat)), some (.ref t2), some (.int n), some (.str (mkS xs)), some (.int (i : Nat))] G2 := fun x hx => by
      k_extra "e"
      refine er_ixT ht2 (atI_nat (j := 0) rfl) ?_
      k_extra "e"
      refine ⟨c, x, rfl, hx, ?_⟩
      refine er_addS (by rw [mkS_len, mkS_len]; exact szM (by simp; omega)) ?_
      rw [mkS_app]
      k_extra "e"
      k_extra "e"
      refine er_ixT ht2 (atI_nat (j := 1) rfl) ?_
      k_extra "e"
      refine ⟨xs ++ [x], b3, _, _, rfl, x1.trans e2, ?_⟩
      unfold rdR; rw [hR]; simp only; rw [eX, hx]; rfl
    k_extra "e"
    k_extra "e"
    refine er_ixT ht2 (atI_nat (j := 0) rfl) ?_
    k_extra "e"
    have last : (c = 10 ∨ (32 ≤ c ∧ c ≤ 126)) → c ≠ 37 → ∃ x, sign c = some x := fun h1 h2 => sign_some (by omega)
    refine ifnd (fun h10 => ?_) (fun h10 => ?_)
    · k_extra "e"
      refine er_ixT ht2 (atI_nat (j := 0) rfl) ?_
      k_extra "e"
      refine ifd (fun h32 => ?_) (fun h32 => ?_)
      · k_extra "e"
        refine ifnd (fun h126 => ?_) (fun h126 => ?_)
        · k_extra "e"
          k_extra "e"
          exact none_ (sign_none h10 (.inl (fun z => h126 z.2)))
        · k_extra "e"
          refine er_ixT ht2 (atI_nat (j := 0) rfl) ?_
          k_extra "e"
          refine ifd (fun h37 => ?_) (fun h37 => ?_)
          · k_extra "e"
            exact none_ (sign_none h10 (.inr h37))
          · obtain ⟨x, hx⟩ := last (.inr ⟨h32, h126⟩) h37
            k_extra "e"
            exact go x hx
      · k_extra "e"
        k_extra "e"
        exact none_ (sign_none h10 (.inl (fun z => h32 z.1)))
    · k_extra "e"
      refine er_ixT ht2 (atI_nat (j := 0) rfl) ?_
      k_extra "e"
      refine ifd (fun h37 => ?_) (fun h37 => ?_)
      · exact absurd h37 (by omega)
      · obtain ⟨x, hx⟩ := last (.inl h10) h37
        k_extra "e"
        exact go x hx
  · rintro σ G' ⟨xs, b2, c2, c5, rfl, x1, hR⟩
    k_extra "e"
    refine ⟨sz1000 (by simp), fun t2 ht2 => ?_⟩
    exact q2 xs b2 (by rw [eL]; exact hR) _ t2 _ (x1.trans (Ex.new ht2)) (SqT.of upd_same) rfl
end Lw

namespace Lw
open PySem PySem.Spec PyProof.Rows L2
local macro_rules | `(tactic| k_extra "x1") => `(tactic| first
  | with_reducible refine es_seq ?_
  | with_reducible refine es_asg ?_
  | with_reducible refine es_if ?_
  | with_reducible refine es_ret ?_
  | with_reducible refine es_drop ?_
  | with_reducible refine es_next ?_
  | with_reducible refine es_augS ?_
  | with_reducible refine es_fld ?_
  | ((with_reducible show Ee (tVar _) _ _ _); refine ee_var rfl ?_)
  | with_reducible refine ee_c ?_
  | with_reducible refine ee_op ?_
  | with_reducible refine ee_un ?_
  | with_reducible refine eu_neg ?_
  | with_reducible refine ee_cb ?_
  | with_reducible refine ee_call ?_
  | with_reducible refine ea_nil ?_
  | with_reducible refine ea_cons ?_
  | with_reducible refine ee_sl ?_
  | with_reducible refine eo_no ?_
  | with_reducible refine eo_part ?_
  | with_reducible refine ee_tup ?_
  | with_reducible refine ee_lst ?_
  | with_reducible refine et_test ?_
  | with_reducible refine et_tB ?_
  | with_reducible refine et_tru ?_
  | with_reducible refine et_and ?_
  | with_reducible refine et_or ?_
  | with_reducible refine et_not ?_
  | with_reducible refine ee_and ?_
  | with_reducible refine ee_or ?_
  | with_reducible refine ee_not ?_
  | with_reducible refine ee_if ?_
  | with_reducible refine ee_chain ?_
  | with_reducible refine er_addI ?_
  | with_reducible refine er_subI ?_
  | with_reducible refine er_eqI ?_
  | with_reducible refine er_neI ?_
  | with_reducible refine er_eqNI ?_
  | with_reducible refine er_eqS ?_
  | with_reducible refine er_neS ?_
  | with_reducible refine er_eqB ?_
  | with_reducible refine er_neB ?_
  | with_reducible refine er_lt ?_
  | with_reducible refine er_le ?_
  | with_reducible refine er_gt ?_
  | with_reducible refine er_ge ?_
  | with_reducible refine er_isN_non ?_
  | with_reducible refine er_isN_bl ?_
  | with_reducible refine er_isN_int ?_
  | with_reducible refine er_isN_str ?_
  | with_reducible refine er_isN_ref ?_
  | with_reducible refine er_notN_non ?_
  | with_reducible refine er_notN_bl ?_
  | with_reducible refine er_notN_int ?_
  | with_reducible refine er_notN_str ?_
  | with_reducible refine er_notN_ref ?_
  | with_reducible refine er_isN ?_
  | with_reducible refine er_notN ?_
  | with_reducible refine ec_int ?_
  | with_reducible refine ec_intB ?_
  | with_reducible refine ec_max2 ?_
  | with_reducible refine ec_min2 ?_
  | with_reducible refine ip_I ?_
  | ((with_reducible refine eg_name ?_); (try dsimp only [L2.wipe, List.set_cons_zero, List.set_cons_succ]))
  | with_reducible refine eg_sub ?_
  | with_reducible refine egs_cons ?_
  | with_reducible refine egs_nil ?_
  | with_reducible refine tru_bl ?_
  | with_reducible refine tru_int ?_
  | with_reducible refine tru_non ?_
  | with_reducible refine iteT ?_
  | with_reducible refine iteF ?_
  | with_reducible refine ite_nt ?_
  | with_reducible refine ite_nf ?_
  | with_reducible refine ⟨_, rfl, ?_⟩)
local macro_rules | `(tactic| k_extra "s") => `(tactic| ((first | k_extra "x1" | ((with_reducible refine es_unf ?_); refine es_seq ?_)); (repeat k_extra "x1")))
local macro_rules | `(tactic| k_extra "x") => `(tactic| (repeat first | k_extra "x1" | ((with_reducible refine es_unf ?_); refine es_seq ?_)))
local macro_rules | `(tactic| k_extra "start") => `(tactic| dsimp only [L2.start, List.map_cons, List.map_nil, List.length_cons, List.length_nil, Nat.reduceAdd, Nat.reduceSub, List.replicate, List.cons_append, List.nil_append, Nat.zero_add])
local macro_rules | `(tactic| k_extra "e1") => `(tactic| first
  | with_reducible refine es_next ?_
  | ((with_reducible show Ee (tVar _) _ _ _); refine ee_var rfl ?_)
  | with_reducible refine ee_c ?_
  | with_reducible refine ee_op ?_
  | with_reducible refine ee_un ?_
  | with_reducible refine eu_neg ?_
  | with_reducible refine ee_cb ?_
  | with_reducible refine ee_call ?_
  | with_reducible refine ea_nil ?_
  | with_reducible refine ea_cons ?_
  | with_reducible refine ee_sl ?_
  | with_reducible refine eo_no ?_
  | with_reducible refine eo_part ?_
  | with_reducible refine ee_tup ?_
  | with_reducible refine ee_lst ?_
  | with_reducible refine et_test ?_
  | with_reducible refine et_tB ?_
  | with_reducible refine et_tru ?_
  | with_reducible refine et_and ?_
  | with_reducible refine et_or ?_
  | with_reducible refine et_not ?_
  | with_reducible refine ee_and ?_
  | with_reducible refine ee_or ?_
  | with_reducible refine ee_not ?_
  | with_reducible refine ee_if ?_
  | with_reducible refine ee_chain ?_
  | with_reducible refine er_addI ?_
  | with_reducible refine er_subI ?_
  | with_reducible refine er_eqI ?_
  | with_reducible refine er_neI ?_
  | with_reducible refine er_eqNI ?_
  | with_reducible refine er_eqS ?_
  | with_reducible refine er_neS ?_
  | with_reducible refine er_eqB ?_
  | with_reducible refine er_neB ?_
  | with_reducible refine er_lt ?_
  | with_reducible refine er_le ?_
  | with_reducible refine er_gt ?_
  | with_reducible refine er_ge ?_
  | with_reducible refine er_isN_non ?_
  | with_reducible refine er_isN_bl ?_
  | with_reducible refine er_isN_int ?_
  | with_reducible refine er_isN_str ?_
  | with_reducible refine er_isN_ref ?_
  | with_reducible refine er_notN_non ?_
  | with_reducible refine er_notN_bl ?_
  | with_reducible refine er_notN_int ?_
  | with_reducible refine er_notN_str ?_
  | with_reducible refine er_notN_ref ?_
  | with_reducible refine er_isN ?_
  | with_reducible refine er_notN ?_
  | with_reducible refine ec_int ?_
  | with_reducible refine ec_intB ?_
  | with_reducible refine ec_max2 ?_
  | with_reducible refine ec_min2 ?_
  | with_reducible refine ip_I ?_
  | ((with_reducible refine eg_name ?_); (try dsimp only [L2.wipe, List.set_cons_zero, List.set_cons_succ]))
  | with_reducible refine eg_sub ?_
  | with_reducible refine egs_cons ?_
  | with_reducible refine egs_nil ?_
  | with_reducible refine tru_bl ?_
  | with_reducible refine tru_int ?_
  | with_reducible refine tru_non ?_
  | with_reducible refine iteT ?_
  | with_reducible refine iteF ?_
  | with_reducible refine ite_nt ?_
  | with_reducible refine ite_nf ?_
  | with_reducible refine ex_bl ?_
  | with_reducible refine ex_int ?_
  | with_reducible refine ex_str ?_
  | with_reducible refine ex_strx ?_
  | with_reducible refine ex_ints1 ?_
  | with_reducible refine ex_ints2 ?_)
local macro_rules | `(tactic| k_extra "t1") => `(tactic| first
  | with_reducible refine es_asg ?_
  | with_reducible refine es_if ?_
  | with_reducible refine es_ret ?_
  | with_reducible refine es_drop ?_
  | with_reducible refine es_augS ?_
  | with_reducible refine es_fld ?_)
local macro_rules | `(tactic| k_extra "e") => `(tactic| first
  | ((with_reducible refine es_seq ?_); (try k_extra "t1"); (repeat k_extra "e1"))
  | (k_extra "t1"; (repeat k_extra "e1"))
  | (k_extra "e1"; (repeat k_extra "e1"))
  | ((with_reducible refine es_unf ?_); (refine es_seq ?_); (try k_extra "t1"); (repeat k_extra "e1")))
theorem rdCh_hi {bs : List Int} {a : Nat} (h : bs.length ≤ a) : rdCh 2 bs a = none := by unfold rdCh rdB; rw [List.getElem?_eq_none h]; rfl
theorem rdCh_at {bs : List Int} {a : Nat} (h : a < bs.length) : rdCh 2 bs a = if 2 ≤ bs[a] then none else some (bs[a], a + 1) := by unfold rdCh rdB; rw [List.getElem?_eq_getElem h]; rfl
def S__law_read_deed (K : PySem.W.Frag) (A : Ad) : Pm := RfP K (RD K) rdD
/-! _law_read_deed -/
def t__law_read_deed_1 (K : PySem.W.Frag) (A : Ad) : TS := tSeq (tAsg (tCall (up (S__law_read_number K A)) [] E0 (tCons (tVar 0) (tCons (tOp (rAddU K) (tVar 1) (tC (.int 1))) tNil))) (gName 2)) (tRet (tIf (tTest (tOp (rIsN) (tVar 2) (tC .non))) (tC .non) (tTup (tCons (tTup (tCons (tC (.str "back")) (tCons (tOp (rIx K) (tVar 2) (tC (.int 0))) tNil))) (tCons (tOp (rIx K) (tVar 2) (tC (.int 1))) tNil)))))
def t__law_read_deed_2 (K : PySem.W.Frag) (A : Ad) : TS := tSeq (tDrop (tBM K "list" (rAppend) (tVar 5) (tCons (tOp (rIx K) (tVar 2) (tC (.int 0))) tNil))) (tAsg (tOp (rIx K) (tVar 2) (tC (.int 1))) (gName 1))
def t__law_read_deed_3 (K : PySem.W.Frag) (A : Ad) : TS := tSeq (tIfS (tTest (tOp (rIsN) (tVar 2) (tC .non))) (tRet (tC .non)) tNext) (t__law_read_deed_2 K A)
def t__law_read_deed_4 (K : PySem.W.Frag) (A : Ad) : TS := tSeq (tAsg (tCall (up (S__law_read_mark K A)) [] E0 (tCons (tVar 0) (tCons (tVar 1) tNil))) (gName 2)) (t__law_read_deed_3 K A)
def t__law_read_deed_5 (K : PySem.W.Frag) (A : Ad) : TS := tSeq (tAsg (tIf (tTest (tOp (rIsN) (tVar 8) (tC .non))) (tC .non) (tCall (up (S__law_read_text K A)) [] E0 (tCons (tVar 0) (tCons (tOp (rIx K) (tVar 8) (tC (.int 1))) tNil)))) (gName 9)) (tRet (tIf (tTest (tOp (rIsN) (tVar 9) (tC .non))) (tC .non) (tTup (tCons (tTup (tCons (tC (.str "change")) (tCons (tOp (rIx K) (tVar 3) (tC (.int 0))) (tCons (tCB (rTupU K) (tCons (tVar 5) tNil)) (tCons (tOp (rIx K) (tVar 7) (tC (.int 0))) (tCons (tOp (rIx K) (tVar 8) (tC (.int 0))) (tCons (tOp (rIx K) (tVar 9) (tC (.int 0))) tNil))))))) (tCons (tOp (rIx K) (tVar 9) (tC (.int 1))) tNil)))))
def t__law_read_deed_6 (K : PySem.W.Frag) (A : Ad) : TS := tSeq (tAsg (tIf (tTest (tOp (rIsN) (tVar 7) (tC .non))) (tC .non) (tCall (up (S__law_read_number K A)) [] E0 (tCons (tVar 0) (tCons (tOp (rIx K) (tVar 7) (tC (.int 1))) tNil)))) (gName 8)) (t__law_read_deed_5 K A)
def t__law_read_deed_7 (K : PySem.W.Frag) (A : Ad) : TS := tSeq (tAsg (tIf (tTest (tOp (rEqU K) (tOp (rIx K) (tVar 0) (tVar 1)) (tC (.int 0)))) (tTup (tCons (tC .non) (tCons (tOp (rAddU K) (tVar 1) (tC (.int 1))) tNil))) (tCall (up (S__law_read_mark K A)) [] E0 (tCons (tVar 0) (tCons (tOp (rAddU K) (tVar 1) (tC (.int 1))) tNil)))) (gName 7)) (t__law_read_deed_6 K A)
def t__law_read_deed_8 (K : PySem.W.Frag) (A : Ad) : TS := tSeq (tIfS (tOr (tTest (tOp (rGeI) (tVar 1) (tCB (rLenU K) (tCons (tVar 0) tNil)))) (tTest (tOp (rGtI) (tOp (rIx K) (tVar 0) (tVar 1)) (tC (.int 1))))) (tRet (tC .non)) tNext) (t__law_read_deed_7 K A)
def t__law_read_deed_9 (K : PySem.W.Frag) (A : Ad) : TS := tSeq (tFor (iRng1 (tCons (tOp (rIx K) (tVar 4) (tC (.int 0))) tNil)) (gName 6) (t__law_read_deed_4 K A)) (t__law_read_deed_8 K A)
def t__law_read_deed_10 (K : PySem.W.Frag) (A : Ad) : TS := tSeq (tAsg (tLst tNil) (gName 5)) (t__law_read_deed_9 K A)
def t__law_read_deed_11 (K : PySem.W.Frag) (A : Ad) : TS := tSeq (tAsg (tOp (rIx K) (tVar 4) (tC (.int 1))) (gName 1)) (t__law_read_deed_10 K A)
def t__law_read_deed_12 (K : PySem.W.Frag) (A : Ad) : TS := tSeq (tIfS (tOr (tTest (tOp (rIsN) (tVar 4) (tC .non))) (tTest (tOp (rGtI) (tOp (rIx K) (tVar 4) (tC (.int 0))) (tOp (rSubI) (tCB (rLenU K) (tCons (tVar 0) tNil)) (tOp (rIx K) (tVar 4) (tC (.int 1))))))) (tRet (tC .non)) tNext) (t__law_read_deed_11 K A)
def t__law_read_deed_13 (K : PySem.W.Frag) (A : Ad) : TS := tSeq (tAsg (tIf (tTest (tOp (rIsN) (tVar 3) (tC .non))) (tC .non) (tCall (up (S__law_read_number K A)) [] E0 (tCons (tVar 0) (tCons (tOp (rIx K) (tVar 3) (tC (.int 1))) tNil)))) (gName 4)) (t__law_read_deed_12 K A)
def t__law_read_deed_14 (K : PySem.W.Frag) (A : Ad) : TS := tSeq (tAsg (tCall (up (S__law_read_text K A)) [] E0 (tCons (tVar 0) (tCons (tOp (rAddU K) (tVar 1) (tC (.int 1))) tNil))) (gName 3)) (t__law_read_deed_13 K A)
def t__law_read_deed_15 (K : PySem.W.Frag) (A : Ad) : TS := tSeq (tIfS (tTest (tOp (rEqU K) (tOp (rIx K) (tVar 0) (tVar 1)) (tC (.int 1)))) (t__law_read_deed_1 K A) tNext) (t__law_read_deed_14 K A)
def t__law_read_deed (K : PySem.W.Frag) (A : Ad) : TS := tSeq (tIfS (tOr (tTest (tOp (rGeI) (tVar 1) (tCB (rLenU K) (tCons (tVar 0) tNil)))) (tTest (tOp (rGtI) (tOp (rIx K) (tVar 0) (tVar 1)) (tC (.int 1))))) (tRet (tC .non)) tNext) (t__law_read_deed_15 K A)
theorem len__law_read_deed {K : PySem.W.Frag} {A : Ad} : ∀ vs G Q E, S__law_read_deed K A vs G Q E → vs.length = ["data", "at"].length := lenF
section
variable {K : PySem.W.Frag} {A : Ad} {G G1 : Hp} {pd tm tc pm : Addr} {bs : List Int} {a b : Nat} {Q : V → Hp → Prop} {c2 c6 c7 c8 c9 : Option V} {m : List Nat} {rm : List (Int × Int)} {acc : List V}
/-- a byte at a place, at most 1 -/
theorem et_byte {σ : L2.St} {Qt : Bool → Hp → Prop} (h0 : σ[0]? = some (some (.ref pd))) (h1 : σ[1]? = some (some (.int (a : Nat)))) (hd : Li G pd bs) (hnb : NB bs)
    (q1 : rdCh 2 bs a = none → Qt true G) (q2 : ∀ h : a < bs.length, rdCh 2 bs a = some (bs[a], a + 1) → (bs[a] = 0 ∨ bs[a] = 1) → Qt false G) :
    Et (tOr (tTest (tOp (rGeI) (tVar 1) (tCB (rLenU K) (tCons (tVar 0) tNil)))) (tTest (tOp (rGtI) (tOp (rIx K) (tVar 0) (tVar 1)) (tC (.int 1))))) σ G Qt := by
  refine et_or (et_test (ee_op (ee_var h1 (ee_cb (ea_cons (ee_var h0 (ea_nil (ec_lenL (SqL.of hd) fun _ => ?_))))))))
  rw [List.length_map]
  refine er_ge ⟨_, rfl, ifd (fun hge => q1 (rdCh_hi (by omega))) (fun hge => ?_)⟩
  have hlt : a < bs.length := by omega
  have hat : (bs.map V.int)[a]? = some (.int bs[a]) := by rw [List.getElem?_map, List.getElem?_eq_getElem hlt]; rfl
  refine et_test (ee_op (ee_op (ee_var h0 (ee_var h1 (er_ixL (SqL.of hd) (atI_nat hat) (ee_c (er_gt ⟨_, rfl, ?_⟩)))))))
  have hb := hnb _ (List.getElem_mem hlt)
  have e := rdCh_at hlt
  by_cases h : 1 < bs[a]
  · rw [decide_eq_true h]
    exact q1 (by rw [e, if_pos (by omega)])
  · rw [decide_eq_false h]
    exact q2 hlt (by rw [e, if_neg (by omega)]) (by omega)
/-- behind the marks -/
theorem deed_rest {b : Nat} (hd : Li G1 pd bs) (hl : bs.length ≤ 1000000) (hnb : NB bs) (x1 : Ex G G1) (hm : SqT K G1 tm [.str (mkS m), .int (a : Nat)]) (hp : G1 pm = some (.lst acc)) (hI : Ims K G1 acc (rm.map mkD))
    (q1 : (∀ bh n t c d e, rdBh bs b = some (bh, c) → rdN bs c = some (n, d) → rdS bs d = some (t, e) → False) → ∀ G', Ex G G' → Q .non G')
    (q2 : ∀ bh n t c d e, rdBh bs b = some (bh, c) → rdN bs c = some (n, d) → rdS bs d = some (t, e) → ∀ G' q v, Ex G G' → SqT K G' q [v, .int (e : Nat)] → RD K G' v (.change m rm bh n t) → Q (.ref q) G') :
    Es (t__law_read_deed_8 K A) { nx := fun _ G' => Q .non G', rt := Q } [some (.ref pd), some (.int (b : Nat)), c2, some (.ref tm), some (.ref tc), some (.ref pm), c6, c7, c8, c9] G1 := by
  -- number and text
  have tail : ∀ {G2 : Hp} {tb : Addr} {v3 : V} {bh : Option (Int × Int)} {c : Nat}, Ex G1 G2 → rdBh bs b = some (bh, c) → SqT K G2 tb [v3, .int (c : Nat)] → Im K G2 v3 (bhD bh) →
      Es (t__law_read_deed_6 K A) { nx := fun _ G' => Q .non G', rt := Q } [some (.ref pd), some (.int (b : Nat)), c2, some (.ref tm), some (.ref tc), some (.ref pm), c6, some (.ref tb), c8, c9] G2 := fun {G2 tb v3 bh c} x2 hbh htb hv3 => by
    k_extra "e"
    refine er_ixT htb (atI_nat (j := 1) rfl) ?_
    k_extra "e"
    refine ⟨pd, bs, c, rfl, hd.up x2, hl, hnb, fun h G3 x3 => ?_, fun n d h G3 tn v x3 htn hv => ?_⟩
    · k_extra "e"
      k_extra "e"
      k_extra "e"
      exact q1 (fun _ _ _ _ _ _ z1 z2 _ => by rw [hbh] at z1; cases z1; rw [h] at z2; cases z2) _ ((x1.trans x2).trans x3)
    cases hv
    k_extra "e"
    k_extra "e"
    refine er_ixT htn (atI_nat (j := 1) rfl) ?_
    k_extra "e"
    refine ⟨pd, bs, d, rfl, hd.up (x2.trans x3), hl, hnb, fun h2 G4 x4 => ?_, fun t e h2 G4 tt v x4 htt hv => ?_⟩
    · k_extra "e"
      k_extra "e"
      exact q1 (fun _ _ _ _ _ _ z1 z2 z3 => by rw [hbh] at z1; cases z1; rw [h] at z2; cases z2; rw [h2] at z3; cases z3) _ (((x1.trans x2).trans x3).trans x4)
    cases hv
    have y4 := (x2.trans x3).trans x4
    k_extra "e"
    k_extra "e"
    refine er_ixT (y4.st hm) (atI_nat (j := 0) rfl) ?_
    k_extra "e"
    refine ec_tupL (SqL.of (y4 _ _ hp)) fun pt hpt => ?_
    have y5 := Ex.new (o := .tup acc) hpt
    k_extra "e"
    refine er_ixT ((x3.trans (x4.trans y5)).st htb) (atI_nat (j := 0) rfl) ?_
    k_extra "e"
    refine er_ixT ((x4.trans y5).st htn) (atI_nat (j := 0) rfl) ?_
    k_extra "e"
    refine er_ixT (y5.st htt) (atI_nat (j := 0) rfl) ?_
    k_extra "e"
    refine ⟨sz1000 (by simp), fun p6 hp6 => ?_⟩
    have y6 := Ex.new (o := .tup [.str (Str.ofString "change"), .str (mkS m), .ref pt, v3, .int n, .str (mkS t)]) hp6
    k_extra "e"
    refine er_ixT ((y5.trans y6).st htt) (atI_nat (j := 1) rfl) ?_
    k_extra "e"
    refine ⟨sz1000 (by simp), fun p7 hp7 => ?_⟩
    have y7 := Ex.new (o := .tup [.ref p6, .int (e : Nat)]) hp7
    refine q2 bh n t c d e hbh h h2 _ p7 _ (((x1.trans y4).trans y5).trans (y6.trans y7)) (SqT.of upd_same) (.tup ((y7).st (SqT.of upd_same)) (.cons (.str _) (.cons (.str _) (.cons (.tup ((y6.trans y7).st (SqT.of upd_same)) ((((y4.trans y5).trans y6).trans y7).tx.ims hI)) (.cons (((x3.trans (x4.trans y5)).trans (y6.trans y7)).tx.im hv3) (.cons (.int _) (.cons (.str _) .nil)))))))
  refine es_seq (es_if (et_byte rfl rfl hd hnb (fun h => ?_) (fun hlt h hb => ?_)))
  · refine iteT ?_
    k_extra "e"
    exact q1 (fun bh n t c d e z1 _ _ => by unfold rdBh at z1; rw [h] at z1; cases z1) _ x1
  refine iteF ?_
  refine es_next ?_
  have hat : (bs.map V.int)[b]? = some (.int bs[b]) := by rw [List.getElem?_map, List.getElem?_eq_getElem hlt]; rfl
  k_extra "e"
  refine er_ixL (SqL.of hd) (atI_nat hat) ?_
  k_extra "e"
  refine ifd (fun h0 => ?_) (fun h0 => ?_)
  · k_extra "e"
    refine ⟨sz1000 (by simp), fun tb htb => ?_⟩
    k_extra "e"
    exact tail (bh := none) (c := b + 1) (Ex.new htb) (by unfold rdBh; rw [h]; simp only; rw [if_neg (by omega)]) (SqT.of upd_same) .non
  · k_extra "e"
    have e1 : rdBh bs b = (rdM bs (b + 1)).map fun x => (some x.1, x.2) := by unfold rdBh; rw [h]; simp only; rw [if_pos (by omega)]
    refine ⟨pd, bs, b + 1, rfl, hd, hl, hnb, fun h2 G2 x2 => ?_, fun mk c h2 G2 tb v x2 htb hv => ?_⟩
    · k_extra "e"
      k_extra "e"
      k_extra "e"
      k_extra "e"
      exact q1 (fun bh n t c d e z1 _ _ => by rw [e1, h2] at z1; cases z1) _ (x1.trans x2)
    · k_extra "e"
      exact tail (bh := some mk) (c := c) x2 (by rw [e1, h2]; rfl) htb hv
end
end Lw

namespace Lw
open PySem PySem.Spec PyProof.Rows L2
local macro_rules | `(tactic| k_extra "x1") => `(tactic| first
  | with_reducible refine es_seq ?_
  | with_reducible refine es_asg ?_
  | with_reducible refine es_if ?_
  | with_reducible refine es_ret ?_
  | with_reducible refine es_drop ?_
  | with_reducible refine es_next ?_
  | with_reducible refine es_augS ?_
  | with_reducible refine es_fld ?_
  | ((with_reducible show Ee (tVar _) _ _ _); refine ee_var rfl ?_)
  | with_reducible refine ee_c ?_
  | with_reducible refine ee_op ?_
  | with_reducible refine ee_un ?_
  | with_reducible refine eu_neg ?_
  | with_reducible refine ee_cb ?_
  | with_reducible refine ee_call ?_
  | with_reducible refine ea_nil ?_
  | with_reducible refine ea_cons ?_
  | with_reducible refine ee_sl ?_
  | with_reducible refine eo_no ?_
  | with_reducible refine eo_part ?_
  | with_reducible refine ee_tup ?_
  | with_reducible refine ee_lst ?_
  | with_reducible refine et_test ?_
  | with_reducible refine et_tB ?_
  | with_reducible refine et_tru ?_
  | with_reducible refine et_and ?_
  | with_reducible refine et_or ?_
  | with_reducible refine et_not ?_
  | with_reducible refine ee_and ?_
  | with_reducible refine ee_or ?_
  | with_reducible refine ee_not ?_
  | with_reducible refine ee_if ?_
  | with_reducible refine ee_chain ?_
  | with_reducible refine er_addI ?_
  | with_reducible refine er_subI ?_
  | with_reducible refine er_eqI ?_
  | with_reducible refine er_neI ?_
  | with_reducible refine er_eqNI ?_
  | with_reducible refine er_eqS ?_
  | with_reducible refine er_neS ?_
  | with_reducible refine er_eqB ?_
  | with_reducible refine er_neB ?_
  | with_reducible refine er_lt ?_
  | with_reducible refine er_le ?_
  | with_reducible refine er_gt ?_
  | with_reducible refine er_ge ?_
  | with_reducible refine er_isN_non ?_
  | with_reducible refine er_isN_bl ?_
  | with_reducible refine er_isN_int ?_
  | with_reducible refine er_isN_str ?_
  | with_reducible refine er_isN_ref ?_
  | with_reducible refine er_notN_non ?_
  | with_reducible refine er_notN_bl ?_
  | with_reducible refine er_notN_int ?_
  | with_reducible refine er_notN_str ?_
  | with_reducible refine er_notN_ref ?_
  | with_reducible refine er_isN ?_
  | with_reducible refine er_notN ?_
  | with_reducible refine ec_int ?_
  | with_reducible refine ec_intB ?_
  | with_reducible refine ec_max2 ?_
  | with_reducible refine ec_min2 ?_
  | with_reducible refine ip_I ?_
  | ((with_reducible refine eg_name ?_); (try dsimp only [L2.wipe, List.set_cons_zero, List.set_cons_succ]))
  | with_reducible refine eg_sub ?_
  | with_reducible refine egs_cons ?_
  | with_reducible refine egs_nil ?_
  | with_reducible refine tru_bl ?_
  | with_reducible refine tru_int ?_
  | with_reducible refine tru_non ?_
  | with_reducible refine iteT ?_
  | with_reducible refine iteF ?_
  | with_reducible refine ite_nt ?_
  | with_reducible refine ite_nf ?_
  | with_reducible refine ⟨_, rfl, ?_⟩)
local macro_rules | `(tactic| k_extra "s") => `(tactic| ((first | k_extra "x1" | ((with_reducible refine es_unf ?_); refine es_seq ?_)); (repeat k_extra "x1")))
local macro_rules | `(tactic| k_extra "x") => `(tactic| (repeat first | k_extra "x1" | ((with_reducible refine es_unf ?_); refine es_seq ?_)))
local macro_rules | `(tactic| k_extra "start") => `(tactic| dsimp only [L2.start, List.map_cons, List.map_nil, List.length_cons, List.length_nil, Nat.reduceAdd, Nat.reduceSub, List.replicate, List.cons_append, List.nil_append, Nat.zero_add])
local macro_rules | `(tactic| k_extra "e1") => `(tactic| first
  | with_reducible refine es_next ?_
  | ((with_reducible show Ee (tVar _) _ _ _); refine ee_var rfl ?_)
  | with_reducible refine ee_c ?_
  | with_reducible refine ee_op ?_
  | with_reducible refine ee_un ?_
  | with_reducible refine eu_neg ?_
  | with_reducible refine ee_cb ?_
  | with_reducible refine ee_call ?_
  | with_reducible refine ea_nil ?_
  | with_reducible refine ea_cons ?_
  | with_reducible refine ee_sl ?_
  | with_reducible refine eo_no ?_
  | with_reducible refine eo_part ?_
  | with_reducible refine ee_tup ?_
  | with_reducible refine ee_lst ?_
  | with_reducible refine et_test ?_
  | with_reducible refine et_tB ?_
  | with_reducible refine et_tru ?_
  | with_reducible refine et_and ?_
  | with_reducible refine et_or ?_
  | with_reducible refine et_not ?_
  | with_reducible refine ee_and ?_
  | with_reducible refine ee_or ?_
  | with_reducible refine ee_not ?_
  | with_reducible refine ee_if ?_
  | with_reducible refine ee_chain ?_
  | with_reducible refine er_addI ?_
  | with_reducible refine er_subI ?_
  | with_reducible refine er_eqI ?_
  | with_reducible refine er_neI ?_
  | with_reducible refine er_eqNI ?_
  | with_reducible refine er_eqS ?_
  | with_reducible refine er_neS ?_
  | with_reducible refine er_eqB ?_
  | with_reducible refine er_neB ?_
  | with_reducible refine er_lt ?_
  | with_reducible refine er_le ?_
  | with_reducible refine er_gt ?_
  | with_reducible refine er_ge ?_
  | with_reducible refine er_isN_non ?_
  | with_reducible refine er_isN_bl ?_
  | with_reducible refine er_isN_int ?_
  | with_reducible refine er_isN_str ?_
  | with_reducible refine er_isN_ref ?_
  | with_reducible refine er_notN_non ?_
  | with_reducible refine er_notN_bl ?_
  | with_reducible refine er_notN_int ?_
  | with_reducible refine er_notN_str ?_
  | with_reducible refine er_notN_ref ?_
  | with_reducible refine er_isN ?_
  | with_reducible refine er_notN ?_
  | with_reducible refine ec_int ?_
  | with_reducible refine ec_intB ?_
  | with_reducible refine ec_max2 ?_
  | with_reducible refine ec_min2 ?_
  | with_reducible refine ip_I ?_
  | ((with_reducible refine eg_name ?_); (try dsimp only [L2.wipe, List.set_cons_zero, List.set_cons_succ]))
  | with_reducible refine eg_sub ?_
  | with_reducible refine egs_cons ?_
  | with_reducible refine egs_nil ?_
  | with_reducible refine tru_bl ?_
  | with_reducible refine tru_int ?_
  | with_reducible refine tru_non ?_
  | with_reducible refine iteT ?_
  | with_reducible refine iteF ?_
  | with_reducible refine ite_nt ?_
  | with_reducible refine ite_nf ?_
  | with_reducible refine ex_bl ?_
  | with_reducible refine ex_int ?_
  | with_reducible refine ex_str ?_
  | with_reducible refine ex_strx ?_
  | with_reducible refine ex_ints1 ?_
  | with_reducible refine ex_ints2 ?_)
local macro_rules | `(tactic| k_extra "t1") => `(tactic| first
  | with_reducible refine es_asg ?_
  | with_reducible refine es_if ?_
  | with_reducible refine es_ret ?_
  | with_reducible refine es_drop ?_
  | with_reducible refine es_augS ?_
  | with_reducible refine es_fld ?_)
local macro_rules | `(tactic| k_extra "e") => `(tactic| first
  | ((with_reducible refine es_seq ?_); (try k_extra "t1"); (repeat k_extra "e1"))
  | (k_extra "t1"; (repeat k_extra "e1"))
  | (k_extra "e1"; (repeat k_extra "e1"))
  | ((with_reducible refine es_unf ?_); (refine es_seq ?_); (try k_extra "t1"); (repeat k_extra "e1")))
theorem nb_at {bs : List Int} (h : NB bs) {a : Nat} (hl : a < bs.length) : 0 ≤ bs[a] := h _ (List.getElem_mem hl)
theorem ok__law_read_deed {K : PySem.W.Frag} {A : Ad} : ∀ vs G Q E, S__law_read_deed K A vs G Q E → Es (t__law_read_deed K A) { nx := fun _ G' => Q .non G', rt := Q } (L2.start ["data", "at", "found", "module", "count", "marks", "k", "behind", "number", "text"] vs) G := by
  rintro vs G Q E ⟨pd, bs, a, rfl, hd, hl, hnb, q1, q2⟩
  change Es _ _ (_ :: _ :: _ :: _ :: _ :: _ :: _ :: _ :: _ :: _ :: []) _
  refine es_seq (es_if (et_byte rfl rfl hd hnb (fun h => ?_) (fun hlt h hb => ?_)))
  · refine iteT ?_
    k_extra "e"
    exact q1 (by unfold rdD; rw [h]) _ (Ex.refl _)
  refine iteF ?_
  refine es_next ?_
  have e0 : rdD bs a = if bs[a] = 1 then (rdN bs (a + 1)).map fun x => (.back x.1, x.2) else rdCg bs (a + 1) := by unfold rdD; rw [h]
  have hat : (bs.map V.int)[a]? = some (.int bs[a]) := by rw [List.getElem?_map, List.getElem?_eq_getElem hlt]; rfl
  k_extra "e"
  refine er_ixL (SqL.of hd) (atI_nat hat) ?_
  k_extra "e"
  refine ifd (fun h1 => ?_) (fun h1 => ?_)
  · rw [if_pos h1] at e0
    k_extra "e"
    refine ⟨pd, bs, a + 1, rfl, hd, hl, hnb, fun h2 G2 x2 => ?_, fun n b h2 G2 t v x2 ht hv => ?_⟩
    · k_extra "e"
      k_extra "e"
      exact q1 (by rw [e0, h2]; rfl) _ x2
    cases hv
    k_extra "e"
    k_extra "e"
    refine er_ixT ht (atI_nat (j := 0) rfl) ?_
    k_extra "e"
    refine ⟨sz1000 (by simp), fun p6 hp6 => ?_⟩
    k_extra "e"
    refine er_ixT ((Ex.new hp6).st ht) (atI_nat (j := 1) rfl) ?_
    k_extra "e"
    refine ⟨sz1000 (by simp), fun p7 hp7 => ?_⟩
    exact q2 (.back n) b (by rw [e0, h2]; rfl) _ p7 _ ((x2.trans (Ex.new hp6)).trans (Ex.new hp7)) (SqT.of upd_same) (.tup (SqT.of (get_new upd_same hp7)) (.cons (.str _) (.cons (.int _) .nil)))
  rw [if_neg h1] at e0
  k_extra "e"
  k_extra "e"
  refine ⟨pd, bs, a + 1, rfl, hd, hl, hnb, fun h2 G2 x2 => ?_, fun m b h2 G2 tm v x2 htm hv => ?_⟩
  · k_extra "e"
    k_extra "e"
    k_extra "e"
    k_extra "e"
    exact q1 (by rw [e0]; unfold rdCg; rw [h2]) _ x2
  cases hv
  k_extra "e"
  k_extra "e"
  refine er_ixT htm (atI_nat (j := 1) rfl) ?_
  k_extra "e"
  refine ⟨pd, bs, b, rfl, hd.up x2, hl, hnb, fun h3 G3 x3 => ?_, fun n c h3 G3 tc v x3 htc hv => ?_⟩
  · k_extra "e"
    k_extra "e"
    k_extra "e"
    exact q1 (by rw [e0]; unfold rdCg; rw [h2]; simp only; unfold rdL rdC; rw [h3]) _ (x2.trans x3)
  cases hv
  have eC : rdC bs b = if (bs.length : Int) - (c : Int) < n then none else some (n, c) := by unfold rdC; rw [h3]
  k_extra "e"
  k_extra "e"
  refine er_ixT htc (atI_nat (j := 0) rfl) ?_
  k_extra "e"
  refine ec_lenL (SqL.of (hd.up (x2.trans x3))) fun _ => ?_
  rw [List.length_map]
  k_extra "e"
  refine er_ixT htc (atI_nat (j := 1) rfl) ?_
  k_extra "e"
  refine ifd (fun hn => ?_) (fun hn => ?_)
  · rw [if_pos hn] at eC
    k_extra "e"
    exact q1 (by rw [e0]; unfold rdCg; rw [h2]; simp only; unfold rdL; rw [eC]) _ (x2.trans x3)
  rw [if_neg hn] at eC
  have hn0 := (rdN_nn h3).1
  have eL : rdL rdM bs b = rdR rdM bs n.toNat c := by unfold rdL; rw [eC]
  k_extra "e"
  k_extra "e"
  refine er_ixT htc (atI_nat (j := 1) rfl) ?_
  k_extra "e"
  k_extra "e"
  refine ⟨Nat.zero_le _, fun pm hpm => ?_⟩
  have x4 := (x2.trans x3).trans (Ex.new (o := .lst []) hpm)
  have hpG : G pm = none := (x2.trans x3).nul hpm
  k_extra "e"
  refine es_seq (es_forR1 ?_)
  k_extra "e"
  refine er_ixT ((Ex.new hpm).st htc) (atI_nat (j := 0) rfl) ?_
  k_extra "e"
  refine ⟨by omega, fun i σ G' => ∃ (xs : List (Int × Int)) (d : Nat) (acc : List V) (c2 c6 : Option V), σ = [some (.ref pd), some (.int (d : Nat)), c2, some (.ref tm), some (.ref tc), some (.ref pm), c6, none, none, none] ∧ Ex G G' ∧ G' pm = some (.lst acc) ∧ SqT K G' tm [.str (mkS m), .int (b : Nat)] ∧ Ims K G' acc (xs.map mkD) ∧ rdR rdM bs i c = some (xs, d),
    ⟨[], c, [], _, _, rfl, x4, upd_same, (Ex.new hpm).st (x3.st htm), .nil, rfl⟩, ?_, ?_⟩
  · rintro i σ G' hi ⟨xs, d, acc, c2, c6, rfl, y1, y2, y3, y4, y5⟩
    have hlen := ims_len y4
    rw [List.length_map, rdR_len y5] at hlen
    k_extra "e"
    refine ⟨pd, bs, d, rfl, hd.up y1, hl, hnb, fun h6 G6 x6 => ?_, fun mk d2 h6 G6 t6 v x6 ht6 hv => ?_⟩
    · k_extra "e"
      k_extra "e"
      k_extra "e"
      refine q1 ?_ _ (y1.trans x6)
      rw [e0]; unfold rdCg; rw [h2]; simp only
      rw [eL, rdR_none (i := i + 1) n.toNat (by unfold rdR; rw [y5]; simp only; rw [h6]) (by omega)]
    · k_extra "e"
      k_extra "e"
      k_extra "e"
      refine ee_bm ?_
      k_extra "e"
      refine ⟨ty_lst (x6 _ _ y2), ?_⟩
      k_extra "e"
      refine er_ixT ht6 (atI_nat (j := 0) rfl) ?_
      k_extra "e"
      refine em_append (x6 _ _ y2) (szlt (by omega)) ?_
      have tx := Tx.upd (o := .lst (acc ++ [v])) (noTup_lst (x6 _ _ y2))
      k_extra "e"
      refine er_ixT (tx.st ht6) (atI_nat (j := 1) rfl) ?_
      k_extra "e"
      refine ⟨xs ++ [mk], d2, _, _, _, rfl, (y1.trans x6).mut hpG, upd_same, tx.st (x6.st y3), ?_, ?_⟩
      · rw [List.map_append]
        exact ims_app (tx.ims (x6.tx.ims y4)) (.cons (tx.im hv) .nil)
      · unfold rdR; rw [y5]; simp only; rw [h6]
  · rintro σ G' ⟨xs, d, acc, c2, c6, rfl, y1, y2, y3, y4, y5⟩
    refine deed_rest (hd.up y1) hl hnb y1 y3 y2 y4 (fun hno G' e => q1 ?_ G' e) (fun bh n' t c' d' e' z1 z2 z3 G' q v e hq hv => q2 _ e' ?_ G' q v e hq hv)
    · rw [e0]; unfold rdCg; rw [h2]; simp only; rw [eL, y5]; simp only
      cases hz : rdBh bs d with
      | none => rfl
      | some z =>
        obtain ⟨bh, c'⟩ := z
        simp only
        cases hz2 : rdN bs c' with
        | none => rfl
        | some z =>
          obtain ⟨n', d'⟩ := z
          simp only
          cases hz3 : rdS bs d' with
          | none => rfl
          | some z =>
            obtain ⟨t, e'⟩ := z
            exact (hno _ _ _ _ _ _ hz hz2 hz3).elim
    · rw [e0]; unfold rdCg; rw [h2]; simp only; rw [eL, y5]; simp only; rw [z1]; simp only; rw [z2]; simp only; rw [z3]
def RfPs (K : PySem.W.Frag) (f : Rdr (List Tri)) : Pm := RfP K (RTs K) f
def S__law_read_triples (K : PySem.W.Frag) (A : Ad) : Pm := RfP K (RTs K) rdTs
/-! _law_read_triples -/
def t__law_read_triples_1 (K : PySem.W.Frag) (A : Ad) : TS := tSeq (tDrop (tBM K "list" (rAppend) (tVar 3) (tCons (tOp (rAddU K) (tOp (rIx K) (tVar 5) (tC (.int 0))) (tTup (tCons (tOp (rIx K) (tVar 6) (tC (.int 0))) tNil))) tNil))) (tAsg (tOp (rIx K) (tVar 6) (tC (.int 1))) (gName 1))
def t__law_read_triples_2 (K : PySem.W.Frag) (A : Ad) : TS := tSeq (tIfS (tTest (tOp (rIsN) (tVar 6) (tC .non))) (tRet (tC .non)) tNext) (t__law_read_triples_1 K A)
def t__law_read_triples_3 (K : PySem.W.Frag) (A : Ad) : TS := tSeq (tAsg (tIf (tTest (tOp (rIsN) (tVar 5) (tC .non))) (tC .non) (tCall (up (S__law_read_deed K A)) [] E0 (tCons (tVar 0) (tCons (tOp (rIx K) (tVar 5) (tC (.int 1))) tNil)))) (gName 6)) (t__law_read_triples_2 K A)
def t__law_read_triples_4 (K : PySem.W.Frag) (A : Ad) : TS := tSeq (tAsg (tCall (up (S__law_read_mark K A)) [] E0 (tCons (tVar 0) (tCons (tVar 1) tNil))) (gName 5)) (t__law_read_triples_3 K A)
def t__law_read_triples_5 (K : PySem.W.Frag) (A : Ad) : TS := tSeq (tFor (iRng1 (tCons (tOp (rIx K) (tVar 2) (tC (.int 0))) tNil)) (gName 4) (t__law_read_triples_4 K A)) (tRet (tTup (tCons (tVar 3) (tCons (tVar 1) tNil))))
def t__law_read_triples_6 (K : PySem.W.Frag) (A : Ad) : TS := tSeq (tAsg (tLst tNil) (gName 3)) (t__law_read_triples_5 K A)
def t__law_read_triples_7 (K : PySem.W.Frag) (A : Ad) : TS := tSeq (tAsg (tOp (rIx K) (tVar 2) (tC (.int 1))) (gName 1)) (t__law_read_triples_6 K A)
def t__law_read_triples_8 (K : PySem.W.Frag) (A : Ad) : TS := tSeq (tIfS (tOr (tTest (tOp (rIsN) (tVar 2) (tC .non))) (tTest (tOp (rGtI) (tOp (rIx K) (tVar 2) (tC (.int 0))) (tOp (rSubI) (tCB (rLenU K) (tCons (tVar 0) tNil)) (tOp (rIx K) (tVar 2) (tC (.int 1))))))) (tRet (tC .non)) tNext) (t__law_read_triples_7 K A)
def t__law_read_triples (K : PySem.W.Frag) (A : Ad) : TS := tSeq (tAsg (tCall (up (S__law_read_number K A)) [] E0 (tCons (tVar 0) (tCons (tVar 1) tNil))) (gName 2)) (t__law_read_triples_8 K A)
theorem len__law_read_triples {K : PySem.W.Frag} {A : Ad} : ∀ vs G Q E, S__law_read_triples K A vs G Q E → vs.length = ["data", "at"].length := lenF
theorem ok__law_read_triples {K : PySem.W.Frag} {A : Ad} : ∀ vs G Q E, S__law_read_triples K A vs G Q E → Es (t__law_read_triples K A) { nx := fun _ G' => Q .non G', rt := Q } (L2.start ["data", "at", "count", "triples", "k", "pair", "deed"] vs) G := by
  rintro vs G Q E ⟨pd, bs, a, rfl, hd, hl, hnb, q1, q2⟩
  change Es _ _ (_ :: _ :: _ :: _ :: _ :: _ :: _ :: []) _
  k_extra "e"
  refine ⟨pd, bs, a, rfl, hd, hl, hnb, fun h3 G3 x3 => ?_, fun n c h3 G3 tc v x3 htc hv => ?_⟩
  · k_extra "e"
    k_extra "e"
    k_extra "e"
    exact q1 (by unfold rdTs rdL rdC; rw [h3]) _ x3
  cases hv
  have eC : rdC bs a = if (bs.length : Int) - (c : Int) < n then none else some (n, c) := by unfold rdC; rw [h3]
  k_extra "e"
  k_extra "e"
  refine er_ixT htc (atI_nat (j := 0) rfl) ?_
  k_extra "e"
  refine ec_lenL (SqL.of (hd.up x3)) fun _ => ?_
  rw [List.length_map]
  k_extra "e"
  refine er_ixT htc (atI_nat (j := 1) rfl) ?_
  k_extra "e"
  refine ifd (fun hn => ?_) (fun hn => ?_)
  · rw [if_pos hn] at eC
    k_extra "e"
    exact q1 (by unfold rdTs rdL; rw [eC]) _ x3
  rw [if_neg hn] at eC
  have hn0 := (rdN_nn h3).1
  have eL : rdTs bs a = rdR rdT bs n.toNat c := by unfold rdTs rdL; rw [eC]
  k_extra "e"
  k_extra "e"
  refine er_ixT htc (atI_nat (j := 1) rfl) ?_
  k_extra "e"
  k_extra "e"
  refine ⟨Nat.zero_le _, fun pm hpm => ?_⟩
  have x4 := x3.trans (Ex.new (o := .lst []) hpm)
  have hpG : G pm = none := x3.nul hpm
  k_extra "e"
  refine es_seq (es_forR1 ?_)
  k_extra "e"
  refine er_ixT ((Ex.new hpm).st htc) (atI_nat (j := 0) rfl) ?_
  k_extra "e"
  refine ⟨by omega, fun i σ G' => ∃ (xs : List Tri) (d : Nat) (acc : List V) (c4 c5 c6 : Option V), σ = [some (.ref pd), some (.int (d : Nat)), some (.ref tc), some (.ref pm), c4, c5, c6] ∧ Ex G G' ∧ G' pm = some (.lst acc) ∧ Ims K G' acc (xs.map triD) ∧ rdR rdT bs i c = some (xs, d),
    ⟨[], c, [], _, _, _, rfl, x4, upd_same, .nil, rfl⟩, ?_, ?_⟩
  · rintro i σ G' hi ⟨xs, d, acc, c4, c5, c6, rfl, y1, y2, y4, y5⟩
    have hlen := ims_len y4
    rw [List.length_map, rdR_len y5] at hlen
    have bad : rdT bs d = none → ∀ G', Ex G G' → Q .non G' := fun hx G' e => q1 (by
      rw [eL]
      refine rdR_none (i := i + 1) _ ?_ (by omega)
      unfold rdR; rw [y5]; simp only; rw [hx]) G' e
    k_extra "e"
    refine ⟨pd, bs, d, rfl, hd.up y1, hl, hnb, fun h6 G6 x6 => ?_, fun mk d2 h6 G6 t6 v x6 ht6 hv => ?_⟩
    · k_extra "e"
      k_extra "e"
      k_extra "e"
      k_extra "e"
      exact bad (by unfold rdT; rw [h6]) _ (y1.trans x6)
    obtain ⟨tk, rfl, htk⟩ := im_mark hv
    k_extra "e"
    k_extra "e"
    refine er_ixT ht6 (atI_nat (j := 1) rfl) ?_
    k_extra "e"
    refine ⟨pd, bs, d2, rfl, hd.up (y1.trans x6), hl, hnb, fun h7 G7 x7 => ?_, fun dd d3 h7 G7 t7 vd x7 ht7 hvd => ?_⟩
    · k_extra "e"
      k_extra "e"
      k_extra "e"
      exact bad (by unfold rdT; rw [h6]; simp only; rw [h7]; rfl) _ ((y1.trans x6).trans x7)
    have z7 := x6.trans x7
    k_extra "e"
    k_extra "e"
    k_extra "e"
    refine ee_bm ?_
    k_extra "e"
    refine ⟨ty_lst (z7 _ _ y2), ?_⟩
    k_extra "e"
    refine er_ixT (x7.st ht6) (atI_nat (j := 0) rfl) ?_
    k_extra "e"
    refine er_ixT ht7 (atI_nat (j := 0) rfl) ?_
    k_extra "e"
    refine ⟨sz1000 (by simp), fun p8 hp8 => ?_⟩
    have z8 := Ex.new (o := .tup [vd]) hp8
    refine er_addT ((x7.trans z8).st htk) (SqT.of upd_same) (by simp) (by simp) (sz1000 (by simp)) fun p9 hp9 => ?_
    have z9 := Ex.new (o := .tup ([.int mk.1, .int mk.2] ++ [vd])) hp9
    have y2' := (z7.trans (z8.trans z9)) _ _ y2
    k_extra "e"
    refine em_append y2' (szlt (by omega)) ?_
    have tx := Tx.upd (o := .lst (acc ++ [.ref p9])) (noTup_lst y2')
    k_extra "e"
    refine er_ixT (tx.st ((z8.trans z9).st ht7)) (atI_nat (j := 1) rfl) ?_
    k_extra "e"
    refine ⟨xs ++ [(mk.1, mk.2, dd)], d3, _, _, _, _, rfl, (y1.trans (z7.trans (z8.trans z9))).mut hpG, upd_same, ?_, ?_⟩
    · rw [List.map_append]
      exact ims_app (tx.ims ((z7.trans (z8.trans z9)).tx.ims y4)) (.cons (.tup (tx.st (SqT.of upd_same)) (.cons (.int _) (.cons (.int _) (.cons (tx.im ((z8.trans z9).tx.im hvd)) .nil)))) .nil)
    · unfold rdR; rw [y5]; simp only
      have : rdT bs d = some ((mk.1, mk.2, dd), d3) := by unfold rdT; rw [h6]; simp only; rw [h7]; rfl
      rw [this]
  · rintro σ G' ⟨xs, d, acc, c4, c5, c6, rfl, y1, y2, y4, y5⟩
    k_extra "e"
    refine ⟨sz1000 (by simp), fun p8 hp8 => ?_⟩
    exact q2 xs d (by rw [eL]; exact y5) _ p8 _ (y1.trans (Ex.new hp8)) (SqT.of upd_same) ⟨pm, acc, rfl, get_new y2 hp8, (Ex.new hp8).tx.ims y4⟩
def S__law_read_packet (K : PySem.W.Frag) (A : Ad) : Pm := RfP K (RTs K) rdP
/-! _law_read_packet -/
def t__law_read_packet (K : PySem.W.Frag) (A : Ad) : TS := tSeq (tIfS (tOr (tTest (tOp (rGeI) (tVar 1) (tCB (rLenU K) (tCons (tVar 0) tNil)))) (tTest (tOp (rNeU K) (tOp (rIx K) (tVar 0) (tVar 1)) (tC (.int 1))))) (tRet (tC .non)) tNext) (tRet (tCall (up (S__law_read_triples K A)) [] E0 (tCons (tVar 0) (tCons (tOp (rAddU K) (tVar 1) (tC (.int 1))) tNil))))
theorem len__law_read_packet {K : PySem.W.Frag} {A : Ad} : ∀ vs G Q E, S__law_read_packet K A vs G Q E → vs.length = ["data", "at"].length := lenF
theorem ok__law_read_packet {K : PySem.W.Frag} {A : Ad} : ∀ vs G Q E, S__law_read_packet K A vs G Q E → Es (t__law_read_packet K A) { nx := fun _ G' => Q .non G', rt := Q } (L2.start ["data", "at"] vs) G := by
  rintro vs G Q E ⟨pd, bs, a, rfl, hd, hl, hnb, q1, q2⟩
  change Es _ _ (_ :: _ :: []) _
  k_extra "e"
  refine ec_lenL (SqL.of hd) fun _ => ?_
  rw [List.length_map]
  k_extra "e"
  refine ifd (fun hge => ?_) (fun hge => ?_)
  · k_extra "e"
    k_extra "e"
    exact q1 (by unfold rdP rdB; rw [List.getElem?_eq_none (by omega)]; rfl) _ (Ex.refl _)
  have hlt : a < bs.length := by omega
  have hat : (bs.map V.int)[a]? = some (.int bs[a]) := by rw [List.getElem?_map, List.getElem?_eq_getElem hlt]; rfl
  have e0 : rdP bs a = if bs[a] = 1 then rdTs bs (a + 1) else none := by unfold rdP rdB; rw [List.getElem?_eq_getElem hlt]; rfl
  k_extra "e"
  refine er_ixL (SqL.of hd) (atI_nat hat) ?_
  k_extra "e"
  refine ifnd (fun h1 => ?_) (fun h1 => ?_)
  · k_extra "e"
    exact q1 (by rw [e0, if_neg h1]) _ (Ex.refl _)
  · k_extra "e"
    k_extra "e"
    refine ⟨pd, bs, a + 1, rfl, hd, hl, hnb, fun h => q1 (by rw [e0, if_pos h1, h]), fun r b h => q2 r b (by rw [e0, if_pos h1, h])⟩
end Lw

namespace Lw
open PySem PySem.Spec PyProof.Rows L2
local macro_rules | `(tactic| k_extra "x1") => `(tactic| first
  | with_reducible refine es_seq ?_
  | with_reducible refine es_asg ?_
  | with_reducible refine es_if ?_
  | with_reducible refine es_ret ?_
  | with_reducible refine es_drop ?_
  | with_reducible refine es_next ?_
  | with_reducible refine es_augS ?_
  | with_reducible refine es_fld ?_
  | ((with_reducible show Ee (tVar _) _ _ _); refine ee_var rfl ?_)
  | with_reducible refine ee_c ?_
  | with_reducible refine ee_op ?_
  | with_reducible refine ee_un ?_
  | with_reducible refine eu_neg ?_
  | with_reducible refine ee_cb ?_
  | with_reducible refine ee_call ?_
  | with_reducible refine ea_nil ?_
  | with_reducible refine ea_cons ?_
  | with_reducible refine ee_sl ?_
  | with_reducible refine eo_no ?_
  | with_reducible refine eo_part ?_
  | with_reducible refine ee_tup ?_
  | with_reducible refine ee_lst ?_
  | with_reducible refine et_test ?_
  | with_reducible refine et_tB ?_
  | with_reducible refine et_tru ?_
  | with_reducible refine et_and ?_
  | with_reducible refine et_or ?_
  | with_reducible refine et_not ?_
  | with_reducible refine ee_and ?_
  | with_reducible refine ee_or ?_
  | with_reducible refine ee_not ?_
  | with_reducible refine ee_if ?_
  | with_reducible refine ee_chain ?_
  | with_reducible refine er_addI ?_
  | with_reducible refine er_subI ?_
  | with_reducible refine er_eqI ?_
  | with_reducible refine er_neI ?_
  | with_reducible refine er_eqNI ?_
  | with_reducible refine er_eqS ?_
  | with_reducible refine er_neS ?_
  | with_reducible refine er_eqB ?_
  | with_reducible refine er_neB ?_
  | with_reducible refine er_lt ?_
  | with_reducible refine er_le ?_
  | with_reducible refine er_gt ?_
  | with_reducible refine er_ge ?_
  | with_reducible refine er_isN_non ?_
  | with_reducible refine er_isN_bl ?_
  | with_reducible refine er_isN_int ?_
  | with_reducible refine er_isN_str ?_
  | with_reducible refine er_isN_ref ?_
  | with_reducible refine er_notN_non ?_
  | with_reducible refine er_notN_bl ?_
  | with_reducible refine er_notN_int ?_
  | with_reducible refine er_notN_str ?_
  | with_reducible refine er_notN_ref ?_
  | with_reducible refine er_isN ?_
  | with_reducible refine er_notN ?_
  | with_reducible refine ec_int ?_
  | with_reducible refine ec_intB ?_
  | with_reducible refine ec_max2 ?_
  | with_reducible refine ec_min2 ?_
  | with_reducible refine ip_I ?_
  | ((with_reducible refine eg_name ?_); (try dsimp only [L2.wipe, List.set_cons_zero, List.set_cons_succ]))
  | with_reducible refine eg_sub ?_
  | with_reducible refine egs_cons ?_
  | with_reducible refine egs_nil ?_
  | with_reducible refine tru_bl ?_
  | with_reducible refine tru_int ?_
  | with_reducible refine tru_non ?_
  | with_reducible refine iteT ?_
  | with_reducible refine iteF ?_
  | with_reducible refine ite_nt ?_
  | with_reducible refine ite_nf ?_
  | with_reducible refine ⟨_, rfl, ?_⟩)
local macro_rules | `(tactic| k_extra "s") => `(tactic| ((first | k_extra "x1" | ((with_reducible refine es_unf ?_); refine es_seq ?_)); (repeat k_extra "x1")))
local macro_rules | `(tactic| k_extra "x") => `(tactic| (repeat first | k_extra "x1" | ((with_reducible refine es_unf ?_); refine es_seq ?_)))
local macro_rules | `(tactic| k_extra "start") => `(tactic| dsimp only [L2.start, List.map_cons, List.map_nil, List.length_cons, List.length_nil, Nat.reduceAdd, Nat.reduceSub, List.replicate, List.cons_append, List.nil_append, Nat.zero_add])
local macro_rules | `(tactic| k_extra "e1") => `(tactic| first
  | with_reducible refine es_next ?_
  | ((with_reducible show Ee (tVar _) _ _ _); refine ee_var rfl ?_)
  | with_reducible refine ee_c ?_
  | with_reducible refine ee_op ?_
  | with_reducible refine ee_un ?_
  | with_reducible refine eu_neg ?_
  | with_reducible refine ee_cb ?_
  | with_reducible refine ee_call ?_
  | with_reducible refine ea_nil ?_
  | with_reducible refine ea_cons ?_
  | with_reducible refine ee_sl ?_
  | with_reducible refine eo_no ?_
  | with_reducible refine eo_part ?_
  | with_reducible refine ee_tup ?_
  | with_reducible refine ee_lst ?_
  | with_reducible refine et_test ?_
  | with_reducible refine et_tB ?_
  | with_reducible refine et_tru ?_
  | with_reducible refine et_and ?_
  | with_reducible refine et_or ?_
  | with_reducible refine et_not ?_
  | with_reducible refine ee_and ?_
  | with_reducible refine ee_or ?_
  | with_reducible refine ee_not ?_
  | with_reducible refine ee_if ?_
  | with_reducible refine ee_chain ?_
  | with_reducible refine er_addI ?_
  | with_reducible refine er_subI ?_
  | with_reducible refine er_eqI ?_
  | with_reducible refine er_neI ?_
  | with_reducible refine er_eqNI ?_
  | with_reducible refine er_eqS ?_
  | with_reducible refine er_neS ?_
  | with_reducible refine er_eqB ?_
  | with_reducible refine er_neB ?_
  | with_reducible refine er_lt ?_
  | with_reducible refine er_le ?_
  | with_reducible refine er_gt ?_
  | with_reducible refine er_ge ?_
  | with_reducible refine er_isN_non ?_
  | with_reducible refine er_isN_bl ?_
  | with_reducible refine er_isN_int ?_
  | with_reducible refine er_isN_str ?_
  | with_reducible refine er_isN_ref ?_
  | with_reducible refine er_notN_non ?_
  | with_reducible refine er_notN_bl ?_
  | with_reducible refine er_notN_int ?_
  | with_reducible refine er_notN_str ?_
  | with_reducible refine er_notN_ref ?_
  | with_reducible refine er_isN ?_
  | with_reducible refine er_notN ?_
  | with_reducible refine ec_int ?_
  | with_reducible refine ec_intB ?_
  | with_reducible refine ec_max2 ?_
  | with_reducible refine ec_min2 ?_
  | with_reducible refine ip_I ?_
  | ((with_reducible refine eg_name ?_); (try dsimp only [L2.wipe, List.set_cons_zero, List.set_cons_succ]))
  | with_reducible refine eg_sub ?_
  | with_reducible refine egs_cons ?_
  | with_reducible refine egs_nil ?_
  | with_reducible refine tru_bl ?_
  | with_reducible refine tru_int ?_
  | with_reducible refine tru_non ?_
  | with_reducible refine iteT ?_
  | with_reducible refine iteF ?_
  | with_reducible refine ite_nt ?_
  | with_reducible refine ite_nf ?_
  | with_reducible refine ex_bl ?_
  | with_reducible refine ex_int ?_
  | with_reducible refine ex_str ?_
  | with_reducible refine ex_strx ?_
  | with_reducible refine ex_ints1 ?_
  | with_reducible refine ex_ints2 ?_)
local macro_rules | `(tactic| k_extra "t1") => `(tactic| first
  | with_reducible refine es_asg ?_
  | with_reducible refine es_if ?_
  | with_reducible refine es_ret ?_
  | with_reducible refine es_drop ?_
  | with_reducible refine es_augS ?_
  | with_reducible refine es_fld ?_)
local macro_rules | `(tactic| k_extra "e") => `(tactic| first
  | ((with_reducible refine es_seq ?_); (try k_extra "t1"); (repeat k_extra "e1"))
  | (k_extra "t1"; (repeat k_extra "e1"))
  | (k_extra "e1"; (repeat k_extra "e1"))
  | ((with_reducible refine es_unf ?_); (refine es_seq ?_); (try k_extra "t1"); (repeat k_extra "e1")))
/-! ### the drawing object, and the comparison, of this law -/
def StG (l : Addr) (p v r : Int) : HO := .lst [.ref l, .int p, .int v, .int r]
def SOk (n : Nat) (p v r : Int) : Prop := 0 ≤ p ∧ p ≤ n ∧ 0 ≤ v ∧ 0 ≤ r ∧ r < 2147483647
def LimOk (lim : Int) : Prop := 0 < lim ∧ lim.natAbs.log2 < 9000
theorem log2_ok {n : Int} (h : 0 < n) (h2 : n < 1073741824) : LimOk n := ⟨h, by
  have : n.natAbs < 2 ^ 30 := by omega
  have := PySem.Flt.log2_lt_of (k := 30) (by decide) this
  omega⟩
def S__law_next (K : PySem.W.Frag) (A : Ad) : Pm := fun vs G Q _ => ∃ (a l : Addr) (ns : List Int) (p v r : Int) (lim : Int), vs = [.ref a, .int lim] ∧ LimOk lim ∧ G a = some (StG l p v r) ∧ SqL K G l (ns.map V.int) ∧ l ≠ a ∧ ns.length ≤ 1000 ∧ SOk ns.length p v r ∧
  ∀ x p' v' r', 0 ≤ x → x < lim → SOk ns.length p' v' r' → Q (.int x) (upd G a (StG l p' v' r'))
/-! _law_next -/
/-! _law_next -/
def t__law_next_1 (K : PySem.W.Frag) (A : Ad) : TS := tSeq (tAugS (tVar 0) (tC (.int 1)) (tC (.int 1)) (rGetL K) (ipI fun i j => i + j) rSetL) (tIfS (tTest (tOp (rGeI) (tVar 2) (tOp (rPowU) (tC (.int 10)) (tC (.int 18))))) (tAsg (tVar 2) (gSub (tVar 0) (tC (.int 2)) rSetL)) (tAsg (tOp (rModU) (tCB (rInt1) (tCons (tOp (rAddU K) (tOp (rAddU K) (tOp (rMulU) (tOp (rIx K) (tVar 0) (tC (.int 3))) (tC (.int 48271))) (tOp (rModU) (tCB (rInt1) (tCons (tVar 2) tNil)) (tC (.int 2147483647)))) (tC (.int 7))) tNil)) (tC (.int 2147483647))) (gSub (tVar 0) (tC (.int 3)) rSetL)))
def t__law_next_2 (K : PySem.W.Frag) (A : Ad) : TS := tSeq (tAsg (tOp (rIx K) (tOp (rIx K) (tVar 0) (tC (.int 0))) (tOp (rIx K) (tVar 0) (tC (.int 1)))) (gName 2)) (t__law_next_1 K A)
def t__law_next_3 (K : PySem.W.Frag) (A : Ad) : TS := tSeq (tAsg (tOp (rDivU) (tOp (rIx K) (tVar 0) (tC (.int 2))) (tVar 1)) (gSub (tVar 0) (tC (.int 2)) rSetL)) (tRet (tVar 3))
def t__law_next_4 (K : PySem.W.Frag) (A : Ad) : TS := tSeq (tAsg (tOp (rModU) (tCB (rInt1) (tCons (tOp (rIx K) (tVar 0) (tC (.int 2))) tNil)) (tVar 1)) (gName 3)) (t__law_next_3 K A)
def t__law_next_5 (K : PySem.W.Frag) (A : Ad) : TS := tSeq (tAsg (tOp (rModU) (tCB (rInt1) (tCons (tOp (rAddU K) (tOp (rMulU) (tOp (rIx K) (tVar 0) (tC (.int 3))) (tC (.int 69621))) (tC (.int 12345))) tNil)) (tC (.int 2147483647))) (gSub (tVar 0) (tC (.int 3)) rSetL)) (tRet (tOp (rModU) (tCB (rInt1) (tCons (tOp (rDivU) (tOp (rIx K) (tVar 0) (tC (.int 3))) (tC (.int 7))) tNil)) (tVar 1)))
def t__law_next_6 (K : PySem.W.Frag) (A : Ad) : TS := tSeq (tIfS (tTest (tOp (rGtI) (tOp (rIx K) (tVar 0) (tC (.int 2))) (tC (.int 0)))) (t__law_next_4 K A) tNext) (t__law_next_5 K A)
def t__law_next (K : PySem.W.Frag) (A : Ad) : TS := tSeq (tIfS (tAnd (tTest (tOp (rEqU K) (tOp (rIx K) (tVar 0) (tC (.int 2))) (tC (.int 0)))) (tTest (tOp (rLtU K) (tOp (rIx K) (tVar 0) (tC (.int 1))) (tCB (rLenU K) (tCons (tOp (rIx K) (tVar 0) (tC (.int 0))) tNil))))) (t__law_next_2 K A) tNext) (t__law_next_6 K A)
theorem len__law_next {K : PySem.W.Frag} {A : Ad} : ∀ vs G Q E, S__law_next K A vs G Q E → vs.length = ["state", "limit"].length := by
  rintro vs G Q E ⟨a, l, ns, p, v, r, lim, rfl, _⟩; rfl
theorem ok__law_next {K : PySem.W.Frag} {A : Ad} : ∀ vs G Q E, S__law_next K A vs G Q E → Es (t__law_next K A) { nx := fun _ G' => Q .non G', rt := Q } (L2.start ["state", "limit", "cell", "value"] vs) G := by
  rintro vs G Q E ⟨a, l, ns, p, v, r, lim, rfl, hlim, ha, hl, hne, hn, hs, k⟩
  change Es _ _ (_ :: _ :: _ :: _ :: []) _
  -- the last part, from any state
  have fin : ∀ (c : Option V) (p v r : Int) (G' : Hp), (∀ o, upd G' a o = upd G a o) → G' a = some (StG l p v r) → SOk ns.length p v r → Es (t__law_next_6 K A) { nx := fun _ G' => Q .non G', rt := Q } [some (.ref a), some (.int lim), c, none] G' := by
    rintro c p v r G' up1 ha' ⟨h1, h2, h3, h4, h5⟩
    k_extra "s"
    refine er_ixL (SqL.of ha') (atI_nat (j := 2) rfl) ?_
    k_extra "x"
    refine ifd (fun hv => ?_) (fun hv => ?_)
    · k_extra "x"
      refine er_ixL (SqL.of ha') (atI_nat (j := 2) rfl) ?_
      k_extra "x"
      refine er_mod hlim.1 ?_
      k_extra "x"
      refine er_ixL (SqL.of ha') (atI_nat (j := 2) rfl) ?_
      k_extra "x"
      refine er_divW hlim ?_
      k_extra "x"
      refine ez_L ha' (j := 2) rfl ?_
      k_extra "x"
      rw [up1]
      exact k (v % lim) p (v / lim) r (Int.emod_nonneg _ (by have := hlim.1; omega)) (Int.emod_lt_of_pos _ hlim.1) ⟨h1, h2, Int.ediv_nonneg h3 (by have := hlim.1; omega), h4, h5⟩
    · k_extra "x"
      refine er_ixL (SqL.of ha') (atI_nat (j := 3) rfl) ?_
      k_extra "x"
      refine er_mulR (by decide) ?_
      k_extra "x"
      refine er_mod (by decide) ?_
      k_extra "x"
      refine ez_L ha' (j := 3) rfl ?_
      k_extra "x"
      refine er_ixL (SqL.of upd_same) (atI_nat (j := 3) rfl) ?_
      k_extra "x"
      refine er_div (by decide) ?_
      k_extra "x"
      refine er_mod hlim.1 ?_
      k_extra "x"
      rw [up1]
      exact k _ p v ((r * 69621 + 12345) % 2147483647) (Int.emod_nonneg _ (by have := hlim.1; omega)) (Int.emod_lt_of_pos _ hlim.1) ⟨h1, h2, h3, by omega, by omega⟩
  obtain ⟨h1, h2, h3, h4, h5⟩ := hs
  k_extra "s"
  refine er_ixL (SqL.of ha) (atI_nat (j := 2) rfl) ?_
  k_extra "s"
  refine ifd (fun hv => ?_) (fun hv => ?_)
  · k_extra "s"
    refine er_ixL (SqL.of ha) (atI_nat (j := 1) rfl) ?_
    k_extra "s"
    refine er_ixL (SqL.of ha) (atI_nat (j := 0) rfl) ?_
    k_extra "s"
    refine ec_lenL hl fun _ => ?_
    k_extra "s"
    refine ifd (fun hp => ?_) (fun hp => ?_)
    · rw [List.length_map] at hp
      k_extra "s"
      refine er_ixL (SqL.of ha) (atI_nat (j := 0) rfl) ?_
      k_extra "s"
      refine er_ixL (SqL.of ha) (atI_nat (j := 1) rfl) ?_
      obtain ⟨j, rfl⟩ := Int.eq_ofNat_of_zero_le h1
      have hj : j < ns.length := by omega
      have hc : (ns.map V.int)[j]? = some (.int ns[j]) := by rw [List.getElem?_map, List.getElem?_eq_getElem hj]; rfl
      refine er_ixL hl (atI_nat hc) ?_
      k_extra "s"
      k_extra "s"
      refine er_getL (SqL.of ha) (by decide) rfl ?_
      k_extra "s"
      refine ez_L ha (j := 1) rfl ?_
      k_extra "s"
      refine er_pow (by decide) ?_
      k_extra "s"
      refine ifd (fun hc => ?_) (fun hc => ?_)
      · k_extra "s"
        refine ez_L upd_same (j := 2) rfl ?_
        rw [upd_upd]
        have : (0 : Int) ≤ ns[j] := Int.le_trans (by decide) hc
        exact fin _ (j + 1) ns[j] r _ (fun o => by rw [upd_upd]) upd_same ⟨by omega, by omega, this, h4, h5⟩
      · k_extra "s"
        refine er_ixL (SqL.of upd_same) (atI_nat (j := 3) rfl) ?_
        k_extra "s"
        refine er_mulR (by decide) ?_
        k_extra "s"
        refine er_mod (by decide) ?_
        k_extra "s"
        refine er_mod (by decide) ?_
        k_extra "s"
        refine ez_L upd_same (j := 3) rfl ?_
        rw [upd_upd]
        exact fin _ (j + 1) v _ _ (fun o => by rw [upd_upd]) upd_same ⟨by omega, by omega, h3, by omega, by omega⟩
    · k_extra "s"
      exact fin _ _ _ _ _ (fun _ => rfl) ha ⟨h1, h2, h3, h4, h5⟩
  · k_extra "s"
    exact fin _ _ _ _ _ (fun _ => rfl) ha ⟨h1, h2, h3, h4, h5⟩

/-! ### _law_same: of twice the same data it is True -/
def Sn__law_same (K : PySem.W.Frag) (A : Ad) (n : Nat) : Pm := fun vs G Q _ => ∃ a e d, vs = [a, e] ∧ Dp K G a d ∧ Dp K G e d ∧ d.depth < n ∧ Q (.bl true) G
/-! _law_same -/
/-! _law_same -/
def t__law_same_1 (K : PySem.W.Frag) (A : Ad) (S : Pm) : TS := tSeq (tFor (iRng1 (tCons (tCB (rLenU K) (tCons (tVar 1) tNil)) tNil)) (gName 2) (tIfS (tNot (tTru K (tCall (up S) [] E0 (tCons (tOp (rIx K) (tVar 0) (tVar 2)) (tCons (tOp (rIx K) (tVar 1) (tVar 2)) tNil))))) (tRet (tC (.bl false))) tNext)) (tRet (tC (.bl true)))
def t__law_same_2 (K : PySem.W.Frag) (A : Ad) (S : Pm) : TS := tSeq (tIfS (tTest (tOp (rNeU K) (tCB (rLenU K) (tCons (tVar 0) tNil)) (tCB (rLenU K) (tCons (tVar 1) tNil)))) (tRet (tC (.bl false))) tNext) (t__law_same_1 K A S)
def t__law_same_3 (K : PySem.W.Frag) (A : Ad) (S : Pm) : TS := tSeq (tIfS (tAnd (tTru K (tCB (rIsiU K) (tCons (tVar 1) (tCons (tC (.ty "list")) tNil)))) (tNot (tTru K (tCB (rIsiU K) (tCons (tVar 0) (tCons (tC (.ty "list")) tNil)))))) (tRet (tC (.bl false))) tNext) (t__law_same_2 K A S)
def t__law_same_4 (K : PySem.W.Frag) (A : Ad) (S : Pm) : TS := tSeq (tIfS (tAnd (tTru K (tCB (rIsiU K) (tCons (tVar 1) (tCons (tC (.ty "tuple")) tNil)))) (tNot (tTru K (tCB (rIsiU K) (tCons (tVar 0) (tCons (tC (.ty "tuple")) tNil)))))) (tRet (tC (.bl false))) tNext) (t__law_same_3 K A S)
def t__law_same_5 (K : PySem.W.Frag) (A : Ad) (S : Pm) : TS := tSeq (tIfS (tTru K (tCB (rIsiU K) (tCons (tVar 1) (tCons (tC (.ty "str")) tNil)))) (tRet (tAndV (tCB (rIsiU K) (tCons (tVar 0) (tCons (tC (.ty "str")) tNil))) (tOp (rEqU K) (tVar 0) (tVar 1)))) tNext) (t__law_same_4 K A S)
def t__law_same_6 (K : PySem.W.Frag) (A : Ad) (S : Pm) : TS := tSeq (tIfS (tTru K (tCB (rIsiU K) (tCons (tVar 1) (tCons (tC (.ty "int")) tNil)))) (tRet (tAndV (tCB (rIsiU K) (tCons (tVar 0) (tCons (tC (.ty "int")) tNil))) (tAndV (tNotV (tCB (rIsiU K) (tCons (tVar 0) (tCons (tC (.ty "bool")) tNil)))) (tOp (rEqU K) (tVar 0) (tVar 1))))) tNext) (t__law_same_5 K A S)
def t__law_same_7 (K : PySem.W.Frag) (A : Ad) (S : Pm) : TS := tSeq (tIfS (tTru K (tCB (rIsiU K) (tCons (tVar 1) (tCons (tC (.ty "bool")) tNil)))) (tRet (tAndV (tCB (rIsiU K) (tCons (tVar 0) (tCons (tC (.ty "bool")) tNil))) (tOp (rEqU K) (tVar 0) (tVar 1)))) tNext) (t__law_same_6 K A S)
def t__law_same (K : PySem.W.Frag) (A : Ad) (S : Pm) : TS := tSeq (tIfS (tTest (tOp (rIsN) (tVar 1) (tC .non))) (tRet (tOp (rIsN) (tVar 0) (tC .non))) tNext) (t__law_same_7 K A S)
theorem len__law_same {K : PySem.W.Frag} {A : Ad} (n : Nat) : ∀ vs G Q E, Sn__law_same K A n vs G Q E → vs.length = ["actual", "expected"].length := by
  rintro vs G Q E ⟨a, e, d, rfl, _⟩; rfl
theorem no__law_same {K : PySem.W.Frag} {A : Ad} : ∀ vs G Q E, ¬ Sn__law_same K A 0 vs G Q E := by
  rintro vs G Q E ⟨a, e, d, _, _, _, h, _⟩; exact absurd h (Nat.not_lt_zero _)
theorem depth_mem {d : PyData} {ds : List PyData} (h : d ∈ ds) : d.depth ≤ PyData.depthAll ds := PyData.depth_le_depthAll ds d h
theorem law_same_tail {K : PySem.W.Frag} {A : Ad} {n : Nat} {G : Hp} {Q : V → Hp → Prop} {D : Ek} (hD : D.rt = Q) {a e : Addr} {xs ys : List V} {ds : List PyData} (h1 : Sq K G a xs) (h2 : Sq K G e ys) (k1 : DpAll K G xs ds) (k2 : DpAll K G ys ds) (hd : PyData.depthAll ds < n) (q : Q (.bl true) G) :
    Es (t__law_same_2 K A (Sn__law_same K A n)) D [some (.ref a), some (.ref e), none] G := by
  have e1 := dps_len k1
  have e2 := dps_len k2
  k_extra "s"
  refine ec_lenU h1 fun _ => ?_
  k_extra "s"
  refine ec_lenU h2 fun _ => ?_
  k_extra "s"
  refine ifnd (fun h => absurd (by rw [e1, e2]) h) fun _ => ?_
  k_extra "s"
  k_extra "s"
  refine es_forR1 ?_
  k_extra "s"
  refine ec_lenU h2 fun hz => ?_
  k_extra "s"
  refine ⟨line62 hz, fun i σ G' => G' = G ∧ ∃ c, σ = [some (.ref a), some (.ref e), c], ⟨rfl, _, rfl⟩, ?_, ?_⟩
  · rintro i σ G' hi ⟨rfl, c, rfl⟩
    obtain ⟨d, hd'⟩ : ∃ d, ds[i]? = some d := ⟨ds[i]'(by omega), List.getElem?_eq_getElem _⟩
    obtain ⟨x, hx, kx⟩ := dps_get k1 hd'
    obtain ⟨y, hy, ky⟩ := dps_get k2 hd'
    have hm := List.mem_of_getElem? hd'
    k_extra "s"
    refine er_ixU h1 (atI_nat hx) ?_
    k_extra "s"
    refine er_ixU h2 (atI_nat hy) ?_
    k_extra "s"
    refine ⟨x, y, d, rfl, kx, ky, Nat.lt_of_le_of_lt (depth_mem hm) hd, true, rfl, ?_⟩
    k_extra "s"
    exact ⟨rfl, _, rfl⟩
  · rintro σ G' ⟨rfl, c, rfl⟩
    k_extra "s"
    rw [hD]
    exact q
theorem ok__law_same {K : PySem.W.Frag} {A : Ad} (n : Nat) : ∀ vs G Q E, Sn__law_same K A (n + 1) vs G Q E → Es (t__law_same K A (Sn__law_same K A n)) { nx := fun _ G' => Q .non G', rt := Q } (L2.start ["actual", "expected", "k"] vs) G := by
  rintro vs G Q E ⟨a, e, d, rfl, ha, he, hd, q⟩
  change Es _ _ (_ :: _ :: _ :: []) _
  cases he with
  | non =>
    cases ha
    k_extra "s"
    exact q
  | bl b =>
    cases ha
    k_extra "s"
    k_extra "s"
    refine ec_isi (.base (.bl b)) (r := true) (by decide +kernel) ?_
    k_extra "s"
    refine ec_isi (.base (.bl b)) (r := true) (by decide +kernel) ?_
    k_extra "s"
    rw [decide_eq_true rfl]
    exact q
  | int i =>
    cases ha
    k_extra "s"
    k_extra "s"
    refine ec_isi (.base (.int i)) (r := false) (by decide +kernel) ?_
    k_extra "s"
    k_extra "s"
    refine ec_isi (.base (.int i)) (r := true) (by decide +kernel) ?_
    k_extra "s"
    refine ec_isi (.base (.int i)) (r := true) (by decide +kernel) ?_
    k_extra "s"
    refine ec_isi (.base (.int i)) (r := false) (by decide +kernel) ?_
    k_extra "s"
    rw [decide_eq_true rfl]
    exact q
  | str x =>
    cases ha
    k_extra "s"
    k_extra "s"
    refine ec_isi (.base (.str x)) (r := false) (by decide +kernel) ?_
    k_extra "s"
    k_extra "s"
    refine ec_isi (.base (.str x)) (r := false) (by decide +kernel) ?_
    k_extra "s"
    k_extra "s"
    refine ec_isi (.base (.str x)) (r := true) (by decide +kernel) ?_
    k_extra "s"
    refine ec_isi (.base (.str x)) (r := true) (by decide +kernel) ?_
    k_extra "s"
    rw [decide_eq_true rfl]
    exact q
  | lst h2 k2 =>
    obtain ⟨a, xs, rfl, h1, k1⟩ := dp_list ha
    k_extra "s"
    k_extra "s"
    refine ec_isi (tyx_l h2) (r := false) (by decide +kernel) ?_
    k_extra "s"
    k_extra "s"
    refine ec_isi (tyx_l h2) (r := false) (by decide +kernel) ?_
    k_extra "s"
    k_extra "s"
    refine ec_isi (tyx_l h2) (r := false) (by decide +kernel) ?_
    k_extra "s"
    k_extra "s"
    refine ec_isi (tyx_l h2) (r := false) (by decide +kernel) ?_
    k_extra "s"
    k_extra "s"
    refine ec_isi (tyx_l h2) (r := true) (by decide +kernel) ?_
    k_extra "s"
    refine ec_isi (tyx_l h1) (r := true) (by decide +kernel) ?_
    k_extra "s"
    simp only [PyData.depth] at hd
    exact law_same_tail rfl (.inl h1) (.inl h2) k1 k2 (by omega) q
  | tup h2 k2 =>
    obtain ⟨a, xs, rfl, h1, k1⟩ := dp_tup ha
    k_extra "s"
    k_extra "s"
    refine ec_isi (tyx_t h2) (r := false) (by decide +kernel) ?_
    k_extra "s"
    k_extra "s"
    refine ec_isi (tyx_t h2) (r := false) (by decide +kernel) ?_
    k_extra "s"
    k_extra "s"
    refine ec_isi (tyx_t h2) (r := false) (by decide +kernel) ?_
    k_extra "s"
    k_extra "s"
    refine ec_isi (tyx_t h2) (r := true) (by decide +kernel) ?_
    k_extra "s"
    refine ec_isi (tyx_t h1) (r := true) (by decide +kernel) ?_
    k_extra "s"
    k_extra "s"
    refine ec_isi (tyx_t h2) (r := false) (by decide +kernel) ?_
    k_extra "s"
    simp only [PyData.depth] at hd
    exact law_same_tail rfl (.inr h1) (.inr h2) k1 k2 (by omega) q

theorem l_upd {G : Hp} {a : Addr} {o : HO} (h : G a = none) : Ex G (upd G a o) := Ex.new h
/-- the drawing object stands at a -/
structure StP (K : PySem.W.Frag) (G : Hp) (a l : Addr) (ns : List Int) (p v r : Int) : Prop where
  at_ : G a = some (StG l p v r)
  li : G l = some (.lst (ns.map V.int))
  ne : l ≠ a
  sm : ns.length ≤ 1000
  ok : SOk ns.length p v r
theorem StP.put {K : PySem.W.Frag} {G : Hp} {a l : Addr} {ns : List Int} {p v r p' v' r' : Int} (h : StP K G a l ns p v r) (s : SOk ns.length p' v' r') : StP K (upd G a (StG l p' v' r')) a l ns p' v' r' :=
  ⟨upd_same, get_ne h.li h.ne, h.ne, h.sm, s⟩
theorem StP.new {K : PySem.W.Frag} {G : Hp} {a l q : Addr} {o : HO} {ns : List Int} {p v r : Int} (h : StP K G a l ns p v r) (n : G q = none) : StP K (upd G q o) a l ns p v r :=
  ⟨get_new h.at_ n, get_new h.li n, h.ne, h.sm, h.ok⟩
theorem StP.mut {K : PySem.W.Frag} {G : Hp} {a l q : Addr} {o : HO} {ns : List Int} {p v r : Int} (h : StP K G a l ns p v r) (n : a ≠ q) (m : l ≠ q) : StP K (upd G q o) a l ns p v r :=
  ⟨get_ne h.at_ n, get_ne h.li m, h.ne, h.sm, h.ok⟩
theorem nx_call {K : PySem.W.Frag} {A : Ad} {G : Hp} {a l : Addr} {ns : List Int} {p v r lim : Int} {Q : V → Hp → Prop} {E : XK} (h : StP K G a l ns p v r) (hl : LimOk lim)
    (q : ∀ x p' v' r', 0 ≤ x → x < lim → SOk ns.length p' v' r' → Q (.int x) (upd G a (StG l p' v' r'))) : S__law_next K A [.ref a, .int lim] G Q E :=
  ⟨a, l, ns, p, v, r, lim, rfl, hl, h.at_, SqL.of h.li, h.ne, h.sm, h.ok, q⟩
/-! ### _law_char -/
theorem tl_one (c : Nat) : TL.tl ⟨#[c]⟩ = [c] := rfl
theorem len_app (x y : Str) : (x ++ y).length = x.length + y.length := by rw [TL.len_tl, TL.tl_append, List.length_append, ← TL.len_tl, ← TL.len_tl]
theorem menu {α : Type} (l : List α) (x : Int) (h0 : 0 ≤ x) (h1 : x < l.length) : ∃ v, atI l x = some v ∧ v ∈ l := by
  obtain ⟨j, rfl⟩ := Int.eq_ofNat_of_zero_le h0
  have hj : j < l.length := by omega
  exact ⟨l[j], atI_nat (List.getElem?_eq_getElem hj), List.getElem_mem hj⟩
end Lw

namespace Lw
open PySem PySem.Spec PyProof.Rows L2
local macro_rules | `(tactic| k_extra "x1") => `(tactic| first
  | with_reducible refine es_seq ?_
  | with_reducible refine es_asg ?_
  | with_reducible refine es_if ?_
  | with_reducible refine es_ret ?_
  | with_reducible refine es_drop ?_
  | with_reducible refine es_next ?_
  | with_reducible refine es_augS ?_
  | with_reducible refine es_fld ?_
  | ((with_reducible show Ee (tVar _) _ _ _); refine ee_var rfl ?_)
  | with_reducible refine ee_c ?_
  | with_reducible refine ee_op ?_
  | with_reducible refine ee_un ?_
  | with_reducible refine eu_neg ?_
  | with_reducible refine ee_cb ?_
  | with_reducible refine ee_call ?_
  | with_reducible refine ea_nil ?_
  | with_reducible refine ea_cons ?_
  | with_reducible refine ee_sl ?_
  | with_reducible refine eo_no ?_
  | with_reducible refine eo_part ?_
  | with_reducible refine ee_tup ?_
  | with_reducible refine ee_lst ?_
  | with_reducible refine et_test ?_
  | with_reducible refine et_tB ?_
  | with_reducible refine et_tru ?_
  | with_reducible refine et_and ?_
  | with_reducible refine et_or ?_
  | with_reducible refine et_not ?_
  | with_reducible refine ee_and ?_
  | with_reducible refine ee_or ?_
  | with_reducible refine ee_not ?_
  | with_reducible refine ee_if ?_
  | with_reducible refine ee_chain ?_
  | with_reducible refine er_addI ?_
  | with_reducible refine er_subI ?_
  | with_reducible refine er_eqI ?_
  | with_reducible refine er_neI ?_
  | with_reducible refine er_eqNI ?_
  | with_reducible refine er_eqS ?_
  | with_reducible refine er_neS ?_
  | with_reducible refine er_eqB ?_
  | with_reducible refine er_neB ?_
  | with_reducible refine er_lt ?_
  | with_reducible refine er_le ?_
  | with_reducible refine er_gt ?_
  | with_reducible refine er_ge ?_
  | with_reducible refine er_isN_non ?_
  | with_reducible refine er_isN_bl ?_
  | with_reducible refine er_isN_int ?_
  | with_reducible refine er_isN_str ?_
  | with_reducible refine er_isN_ref ?_
  | with_reducible refine er_notN_non ?_
  | with_reducible refine er_notN_bl ?_
  | with_reducible refine er_notN_int ?_
  | with_reducible refine er_notN_str ?_
  | with_reducible refine er_notN_ref ?_
  | with_reducible refine er_isN ?_
  | with_reducible refine er_notN ?_
  | with_reducible refine ec_int ?_
  | with_reducible refine ec_intB ?_
  | with_reducible refine ec_max2 ?_
  | with_reducible refine ec_min2 ?_
  | with_reducible refine ip_I ?_
  | ((with_reducible refine eg_name ?_); (try dsimp only [L2.wipe, List.set_cons_zero, List.set_cons_succ]))
  | with_reducible refine eg_sub ?_
  | with_reducible refine egs_cons ?_
  | with_reducible refine egs_nil ?_
  | with_reducible refine tru_bl ?_
  | with_reducible refine tru_int ?_
  | with_reducible refine tru_non ?_
  | with_reducible refine iteT ?_
  | with_reducible refine iteF ?_
  | with_reducible refine ite_nt ?_
  | with_reducible refine ite_nf ?_
  | with_reducible refine ⟨_, rfl, ?_⟩)
local macro_rules | `(tactic| k_extra "s") => `(tactic| ((first | k_extra "x1" | ((with_reducible refine es_unf ?_); refine es_seq ?_)); (repeat k_extra "x1")))
local macro_rules | `(tactic| k_extra "x") => `(tactic| (repeat first | k_extra "x1" | ((with_reducible refine es_unf ?_); refine es_seq ?_)))
local macro_rules | `(tactic| k_extra "start") => `(tactic| dsimp only [L2.start, List.map_cons, List.map_nil, List.length_cons, List.length_nil, Nat.reduceAdd, Nat.reduceSub, List.replicate, List.cons_append, List.nil_append, Nat.zero_add])
local macro_rules | `(tactic| k_extra "e1") => `(tactic| first
  | with_reducible refine es_next ?_
  | ((with_reducible show Ee (tVar _) _ _ _); refine ee_var rfl ?_)
  | with_reducible refine ee_c ?_
  | with_reducible refine ee_op ?_
  | with_reducible refine ee_un ?_
  | with_reducible refine eu_neg ?_
  | with_reducible refine ee_cb ?_
  | with_reducible refine ee_call ?_
  | with_reducible refine ea_nil ?_
  | with_reducible refine ea_cons ?_
  | with_reducible refine ee_sl ?_
  | with_reducible refine eo_no ?_
  | with_reducible refine eo_part ?_
  | with_reducible refine ee_tup ?_
  | with_reducible refine ee_lst ?_
  | with_reducible refine et_test ?_
  | with_reducible refine et_tB ?_
  | with_reducible refine et_tru ?_
  | with_reducible refine et_and ?_
  | with_reducible refine et_or ?_
  | with_reducible refine et_not ?_
  | with_reducible refine ee_and ?_
  | with_reducible refine ee_or ?_
  | with_reducible refine ee_not ?_
  | with_reducible refine ee_if ?_
  | with_reducible refine ee_chain ?_
  | with_reducible refine er_addI ?_
  | with_reducible refine er_subI ?_
  | with_reducible refine er_eqI ?_
  | with_reducible refine er_neI ?_
  | with_reducible refine er_eqNI ?_
  | with_reducible refine er_eqS ?_
  | with_reducible refine er_neS ?_
  | with_reducible refine er_eqB ?_
  | with_reducible refine er_neB ?_
  | with_reducible refine er_lt ?_
  | with_reducible refine er_le ?_
  | with_reducible refine er_gt ?_
  | with_reducible refine er_ge ?_
  | with_reducible refine er_isN_non ?_
  | with_reducible refine er_isN_bl ?_
  | with_reducible refine er_isN_int ?_
  | with_reducible refine er_isN_str ?_
  | with_reducible refine er_isN_ref ?_
  | with_reducible refine er_notN_non ?_
  | with_reducible refine er_notN_bl ?_
  | with_reducible refine er_notN_int ?_
  | with_reducible refine er_notN_str ?_
  | with_reducible refine er_notN_ref ?_
  | with_reducible refine er_isN ?_
  | with_reducible refine er_notN ?_
  | with_reducible refine ec_int ?_
  | with_reducible refine ec_intB ?_
  | with_reducible refine ec_max2 ?_
  | with_reducible refine ec_min2 ?_
  | with_reducible refine ip_I ?_
  | ((with_reducible refine eg_name ?_); (try dsimp only [L2.wipe, List.set_cons_zero, List.set_cons_succ]))
  | with_reducible refine eg_sub ?_
  | with_reducible refine egs_cons ?_
  | with_reducible refine egs_nil ?_
  | with_reducible refine tru_bl ?_
  | with_reducible refine tru_int ?_
  | with_reducible refine tru_non ?_
  | with_reducible refine iteT ?_
  | with_reducible refine iteF ?_
  | with_reducible refine ite_nt ?_
  | with_reducible refine ite_nf ?_
  | with_reducible refine ex_bl ?_
  | with_reducible refine ex_int ?_
  | with_reducible refine ex_str ?_
  | with_reducible refine ex_strx ?_
  | with_reducible refine ex_ints1 ?_
  | with_reducible refine ex_ints2 ?_)
local macro_rules | `(tactic| k_extra "t1") => `(tactic| first
  | with_reducible refine es_asg ?_
  | with_reducible refine es_if ?_
  | with_reducible refine es_ret ?_
  | with_reducible refine es_drop ?_
  | with_reducible refine es_augS ?_
  | with_reducible refine es_fld ?_)
local macro_rules | `(tactic| k_extra "e") => `(tactic| first
  | ((with_reducible refine es_seq ?_); (try k_extra "t1"); (repeat k_extra "e1"))
  | (k_extra "t1"; (repeat k_extra "e1"))
  | (k_extra "e1"; (repeat k_extra "e1"))
  | ((with_reducible refine es_unf ?_); (refine es_seq ?_); (try k_extra "t1"); (repeat k_extra "e1")))
/-! ### what is drawn -/
def Sd (K : PySem.W.Frag) (a l : Addr) (ns : List Int) (L : List Hp) (G : Hp) : Prop := ∃ (T : Hp) (p v r : Int), StP K T a l ns p v r ∧ Ap (T :: L) G
section
variable {K : PySem.W.Frag} {A : Ad} {a l : Addr} {ns : List Int} {L : List Hp} {G G' : Hp} {Q : V → Hp → Prop} {E : XK}
theorem Sd.junk (h : Sd K a l ns L G) (e : Ex G G') : Sd K a l ns L G' := by
  obtain ⟨T, p, v, r, h1, h2⟩ := h; exact ⟨T, p, v, r, h1, h2.junk e⟩
theorem Sd.add {p : Addr} {o : HO} (h : Sd K a l ns L G) (hp : G p = none) : Sd K a l ns (one p o :: L) (upd G p o) := by
  obtain ⟨T, p', v, r, h1, h2⟩ := h; exact ⟨T, p', v, r, h1, h2.add2 hp⟩
theorem Sd.drop {X : Hp} (h : Sd K a l ns (X :: L) G) : Sd K a l ns L G := by
  obtain ⟨T, p, v, r, h1, h2⟩ := h
  exact ⟨T, p, v, r, h1, h2.sub (.cons₂ _ (.cons _ (List.Sublist.refl _)))⟩
theorem Sd.ex {X : Hp} (h : Sd K a l ns L G) (hX : X ∈ L) : Ex X G := by
  obtain ⟨T, p, v, r, h1, h2⟩ := h; exact h2.ex X (List.mem_cons_of_mem _ hX)
theorem StP.up (h : StP K G a l ns p v r) (e : Ex G G') : StP K G' a l ns p v r := ⟨e _ _ h.at_, e _ _ h.li, h.ne, h.sm, h.ok⟩
theorem nxS {lim : Int} (h : Sd K a l ns L G) (hl : LimOk lim) (q : ∀ x G', 0 ≤ x → x < lim → Sd K a l ns L G' → Tx G G' → Q (.int x) G') : S__law_next K A [.ref a, .int lim] G Q E := by
  obtain ⟨T, p, v, r, h1, h2⟩ := h
  have h1G := h1.up (h2.ex T List.mem_cons_self)
  refine nx_call h1G hl fun x p' v' r' x0 x1 s => ?_
  exact q x _ x0 x1 ⟨_, p', v', r', h1.put s, h2.mut1 h1.at_⟩ (Tx.upd (noTup_lst h1G.at_))
end
theorem wrN_le : ∀ (k n : Nat), 0 < k → n < 128 ^ k → (wrN n).length ≤ k
  | 0, _, h, _ => absurd h (by decide)
  | k + 1, n, _, h => by
    by_cases hn : n < 128
    · rw [wrN_lt hn]; simp
    · rw [wrN_ge hn, List.length_cons]
      rcases Nat.eq_zero_or_pos k with z | z
      · subst z; exact absurd h (by simpa using hn)
      · have := wrN_le k (n / 128) z (by rw [Nat.pow_succ] at h; omega)
        omega
/-- a drawn number -/
def Num (n : Int) : Prop := 0 ≤ n ∧ n < 128 ^ 10
theorem Num.big {n : Int} (h : Num n) : Big n := ⟨h.1, Int.lt_of_lt_of_le h.2 (by decide)⟩
theorem Num.len {n : Int} (h : Num n) : (wrN n.toNat).length ≤ 10 := wrN_le 10 _ (by decide) (by have := h.2; omega)
theorem lim_ok {n : Int} (h : 0 < n) (h2 : n.natAbs < 2 ^ 8000) : LimOk n := ⟨h, Nat.lt_of_lt_of_le (PySem.Flt.log2_lt_of (by decide) h2) (by decide)⟩
def S__law_drawn_number (K : PySem.W.Frag) (A : Ad) : Pm := fun vs G Q _ => ∃ (a l : Addr) (ns : List Int) (L : List Hp), vs = [.ref a] ∧ Sd K a l ns L G ∧ ∀ n G', Num n → Sd K a l ns L G' → Tx G G' → Q (.int n) G'
/-! _law_drawn_number -/
def t__law_drawn_number (K : PySem.W.Frag) (A : Ad) : TS := (tRet (tCall (up (S__law_next K A)) [] E0 (tCons (tVar 0) (tCons (tOp (rIx K) (tLst (tCons (tC (.int 3)) (tCons (tC (.int 128)) (tCons (tC (.int 300)) (tCons (tOp (rPowU) (tC (.int 128)) (tC (.int 3))) (tCons (tOp (rMulU) (tOp (rPowU) (tC (.int 2)) (tC (.int 60))) (tC (.int 1024))) tNil)))))) (tCall (up (S__law_next K A)) [] E0 (tCons (tVar 0) (tCons (tC (.int 5)) tNil)))) tNil))))
theorem len__law_drawn_number {K : PySem.W.Frag} {A : Ad} : ∀ vs G Q E, S__law_drawn_number K A vs G Q E → vs.length = ["state"].length := by
  rintro vs G Q E ⟨a, l, ns, L, rfl, _⟩; rfl
theorem ok__law_drawn_number {K : PySem.W.Frag} {A : Ad} : ∀ vs G Q E, S__law_drawn_number K A vs G Q E → Es (t__law_drawn_number K A) { nx := fun _ G' => Q .non G', rt := Q } (L2.start ["state"] vs) G := by
  rintro vs G Q E ⟨a, l, ns, L, rfl, h, q⟩
  change Es _ _ (_ :: []) _
  k_extra "e"
  refine er_pow (by decide) ?_
  k_extra "e"
  refine er_pow (by decide) ?_
  k_extra "e"
  refine er_mulR (by decide) ?_
  k_extra "e"
  refine ⟨sz1000 (by simp), fun p hp => ?_⟩
  k_extra "e"
  have h1 := h.add (o := .lst [.int 3, .int 128, .int 300, .int (128 ^ (3 : Int).toNat), .int (2 ^ (60 : Int).toNat * 1024)]) hp
  refine nxS h1 (lim_ok (by decide) (by decide)) fun x G2 x0 x1 h2 t2 => ?_
  obtain ⟨v, hv, hm⟩ := menu [V.int 3, .int 128, .int 300, .int (128 ^ (3 : Int).toNat), .int (2 ^ (60 : Int).toNat * 1024)] x x0 (by simpa using x1)
  refine er_ixL (SqL.of (h2.ex (X := one p _) List.mem_cons_self _ _ one_at)) hv ?_
  have hn : ∃ n : Int, v = .int n ∧ 0 < n ∧ n ≤ 2 ^ 70 := by
    simp only [List.mem_cons, List.not_mem_nil, or_false] at hm
    rcases hm with rfl | rfl | rfl | rfl | rfl <;> exact ⟨_, rfl, by decide, by decide⟩
  obtain ⟨n, rfl, n0, n1⟩ := hn
  k_extra "e"
  refine nxS h2 (lim_ok n0 (Nat.lt_of_le_of_lt (show n.natAbs ≤ 2 ^ 70 by omega) (Nat.pow_lt_pow_right (by decide) (by decide)))) fun y G3 y0 y1 h3 t3 => ?_
  exact q y G3 ⟨y0, by omega⟩ h3.drop (((Ex.new hp).tx.trans t2).trans t3)
end Lw

namespace Lw
open PySem PySem.Spec PyProof.Rows L2
local macro_rules | `(tactic| k_extra "x1") => `(tactic| first
  | with_reducible refine es_seq ?_
  | with_reducible refine es_asg ?_
  | with_reducible refine es_if ?_
  | with_reducible refine es_ret ?_
  | with_reducible refine es_drop ?_
  | with_reducible refine es_next ?_
  | with_reducible refine es_augS ?_
  | with_reducible refine es_fld ?_
  | ((with_reducible show Ee (tVar _) _ _ _); refine ee_var rfl ?_)
  | with_reducible refine ee_c ?_
  | with_reducible refine ee_op ?_
  | with_reducible refine ee_un ?_
  | with_reducible refine eu_neg ?_
  | with_reducible refine ee_cb ?_
  | with_reducible refine ee_call ?_
  | with_reducible refine ea_nil ?_
  | with_reducible refine ea_cons ?_
  | with_reducible refine ee_sl ?_
  | with_reducible refine eo_no ?_
  | with_reducible refine eo_part ?_
  | with_reducible refine ee_tup ?_
  | with_reducible refine ee_lst ?_
  | with_reducible refine et_test ?_
  | with_reducible refine et_tB ?_
  | with_reducible refine et_tru ?_
  | with_reducible refine et_and ?_
  | with_reducible refine et_or ?_
  | with_reducible refine et_not ?_
  | with_reducible refine ee_and ?_
  | with_reducible refine ee_or ?_
  | with_reducible refine ee_not ?_
  | with_reducible refine ee_if ?_
  | with_reducible refine ee_chain ?_
  | with_reducible refine er_addI ?_
  | with_reducible refine er_subI ?_
  | with_reducible refine er_eqI ?_
  | with_reducible refine er_neI ?_
  | with_reducible refine er_eqNI ?_
  | with_reducible refine er_eqS ?_
  | with_reducible refine er_neS ?_
  | with_reducible refine er_eqB ?_
  | with_reducible refine er_neB ?_
  | with_reducible refine er_lt ?_
  | with_reducible refine er_le ?_
  | with_reducible refine er_gt ?_
  | with_reducible refine er_ge ?_
  | with_reducible refine er_isN_non ?_
  | with_reducible refine er_isN_bl ?_
  | with_reducible refine er_isN_int ?_
  | with_reducible refine er_isN_str ?_
  | with_reducible refine er_isN_ref ?_
  | with_reducible refine er_notN_non ?_
  | with_reducible refine er_notN_bl ?_
  | with_reducible refine er_notN_int ?_
  | with_reducible refine er_notN_str ?_
  | with_reducible refine er_notN_ref ?_
  | with_reducible refine er_isN ?_
  | with_reducible refine er_notN ?_
  | with_reducible refine ec_int ?_
  | with_reducible refine ec_intB ?_
  | with_reducible refine ec_max2 ?_
  | with_reducible refine ec_min2 ?_
  | with_reducible refine ip_I ?_
  | ((with_reducible refine eg_name ?_); (try dsimp only [L2.wipe, List.set_cons_zero, List.set_cons_succ]))
  | with_reducible refine eg_sub ?_
  | with_reducible refine egs_cons ?_
  | with_reducible refine egs_nil ?_
  | with_reducible refine tru_bl ?_
  | with_reducible refine tru_int ?_
  | with_reducible refine tru_non ?_
  | with_reducible refine iteT ?_
  | with_reducible refine iteF ?_
  | with_reducible refine ite_nt ?_
  | with_reducible refine ite_nf ?_
  | with_reducible refine ⟨_, rfl, ?_⟩)
local macro_rules | `(tactic| k_extra "s") => `(tactic| ((first | k_extra "x1" | ((with_reducible refine es_unf ?_); refine es_seq ?_)); (repeat k_extra "x1")))
local macro_rules | `(tactic| k_extra "x") => `(tactic| (repeat first | k_extra "x1" | ((with_reducible refine es_unf ?_); refine es_seq ?_)))
local macro_rules | `(tactic| k_extra "start") => `(tactic| dsimp only [L2.start, List.map_cons, List.map_nil, List.length_cons, List.length_nil, Nat.reduceAdd, Nat.reduceSub, List.replicate, List.cons_append, List.nil_append, Nat.zero_add])
local macro_rules | `(tactic| k_extra "e1") => `(tactic| first
  | with_reducible refine es_next ?_
  | ((with_reducible show Ee (tVar _) _ _ _); refine ee_var rfl ?_)
  | with_reducible refine ee_c ?_
  | with_reducible refine ee_op ?_
  | with_reducible refine ee_un ?_
  | with_reducible refine eu_neg ?_
  | with_reducible refine ee_cb ?_
  | with_reducible refine ee_call ?_
  | with_reducible refine ea_nil ?_
  | with_reducible refine ea_cons ?_
  | with_reducible refine ee_sl ?_
  | with_reducible refine eo_no ?_
  | with_reducible refine eo_part ?_
  | with_reducible refine ee_tup ?_
  | with_reducible refine ee_lst ?_
  | with_reducible refine et_test ?_
  | with_reducible refine et_tB ?_
  | with_reducible refine et_tru ?_
  | with_reducible refine et_and ?_
  | with_reducible refine et_or ?_
  | with_reducible refine et_not ?_
  | with_reducible refine ee_and ?_
  | with_reducible refine ee_or ?_
  | with_reducible refine ee_not ?_
  | with_reducible refine ee_if ?_
  | with_reducible refine ee_chain ?_
  | with_reducible refine er_addI ?_
  | with_reducible refine er_subI ?_
  | with_reducible refine er_eqI ?_
  | with_reducible refine er_neI ?_
  | with_reducible refine er_eqNI ?_
  | with_reducible refine er_eqS ?_
  | with_reducible refine er_neS ?_
  | with_reducible refine er_eqB ?_
  | with_reducible refine er_neB ?_
  | with_reducible refine er_lt ?_
  | with_reducible refine er_le ?_
  | with_reducible refine er_gt ?_
  | with_reducible refine er_ge ?_
  | with_reducible refine er_isN_non ?_
  | with_reducible refine er_isN_bl ?_
  | with_reducible refine er_isN_int ?_
  | with_reducible refine er_isN_str ?_
  | with_reducible refine er_isN_ref ?_
  | with_reducible refine er_notN_non ?_
  | with_reducible refine er_notN_bl ?_
  | with_reducible refine er_notN_int ?_
  | with_reducible refine er_notN_str ?_
  | with_reducible refine er_notN_ref ?_
  | with_reducible refine er_isN ?_
  | with_reducible refine er_notN ?_
  | with_reducible refine ec_int ?_
  | with_reducible refine ec_intB ?_
  | with_reducible refine ec_max2 ?_
  | with_reducible refine ec_min2 ?_
  | with_reducible refine ip_I ?_
  | ((with_reducible refine eg_name ?_); (try dsimp only [L2.wipe, List.set_cons_zero, List.set_cons_succ]))
  | with_reducible refine eg_sub ?_
  | with_reducible refine egs_cons ?_
  | with_reducible refine egs_nil ?_
  | with_reducible refine tru_bl ?_
  | with_reducible refine tru_int ?_
  | with_reducible refine tru_non ?_
  | with_reducible refine iteT ?_
  | with_reducible refine iteF ?_
  | with_reducible refine ite_nt ?_
  | with_reducible refine ite_nf ?_
  | with_reducible refine ex_bl ?_
  | with_reducible refine ex_int ?_
  | with_reducible refine ex_str ?_
  | with_reducible refine ex_strx ?_
  | with_reducible refine ex_ints1 ?_
  | with_reducible refine ex_ints2 ?_)
local macro_rules | `(tactic| k_extra "t1") => `(tactic| first
  | with_reducible refine es_asg ?_
  | with_reducible refine es_if ?_
  | with_reducible refine es_ret ?_
  | with_reducible refine es_drop ?_
  | with_reducible refine es_augS ?_
  | with_reducible refine es_fld ?_)
local macro_rules | `(tactic| k_extra "e") => `(tactic| first
  | ((with_reducible refine es_seq ?_); (try k_extra "t1"); (repeat k_extra "e1"))
  | (k_extra "t1"; (repeat k_extra "e1"))
  | (k_extra "e1"; (repeat k_extra "e1"))
  | ((with_reducible refine es_unf ?_); (refine es_seq ?_); (try k_extra "t1"); (repeat k_extra "e1")))
theorem Ap.del {G : Hp} {L : List Hp} {p : Addr} {o : HO} (ap : Ap (one p o :: L) G) : Ap L (del G p) := by
  obtain ⟨e, d⟩ := ap
  rw [List.pairwise_cons] at d
  refine ⟨fun F hF b u h => ?_, d.2⟩
  have n : b ≠ p := by
    rintro rfl
    rcases d.1 F hF b with z | z
    · rw [one_at] at z; cases z
    · rw [h] at z; cases z
  rw [del_ne n]
  exact e F (List.mem_cons_of_mem _ hF) _ _ h
theorem Sd.del {K : PySem.W.Frag} {a l : Addr} {ns : List Int} {L : List Hp} {G : Hp} {p : Addr} {xs : List V} (h : Sd K a l ns (one p (.lst xs) :: L) G) : Sd K a l ns L (Lw.del G p) ∧ G p = some (.lst xs) ∧ Tx G (Lw.del G p) := by
  obtain ⟨T, p', v, r, h1, h2⟩ := h
  have g : G p = some (.lst xs) := h2.ex (one p (.lst xs)) (by simp) _ _ one_at
  exact ⟨⟨T, p', v, r, h1, (h2.perm (List.Perm.swap _ _ _)).del⟩, g, tx_del (noTup_lst g)⟩
theorem letters_at : ∀ j : Fin 95, (match (("\n !\"#$&'()*+,-./0123456789:;<=>?@ABCDEFGHIJKLMNOPQRSTUVWXYZ[\\]^_`abcdefghijklmnopqrstuvwxyz{|}~" : Str)).cps.toList[j.val]? with | some c => decide (c = 10) || (decide (32 ≤ c) && decide (c < 127) && decide (c ≠ 37)) | none => false) = true := by decide +kernel
theorem letters_len : ("\n !\"#$&'()*+,-./0123456789:;<=>?@ABCDEFGHIJKLMNOPQRSTUVWXYZ[\\]^_`abcdefghijklmnopqrstuvwxyz{|}~" : Str).length = 95 := by decide +kernel
theorem letters_get (j : Nat) (h : j < 95) : ∃ c, (("\n !\"#$&'()*+,-./0123456789:;<=>?@ABCDEFGHIJKLMNOPQRSTUVWXYZ[\\]^_`abcdefghijklmnopqrstuvwxyz{|}~" : Str)).cps.toList[j]? = some c ∧ (c = 10 ∨ (32 ≤ c ∧ c < 127 ∧ c ≠ 37)) := by
  have := letters_at ⟨j, h⟩
  dsimp only at this
  split at this
  · rename_i c e
    refine ⟨c, e, ?_⟩
    simp only [Bool.or_eq_true, Bool.and_eq_true, decide_eq_true_eq] at this
    rcases this with z | ⟨⟨z1, z2⟩, z3⟩
    · exact .inl z
    · exact .inr ⟨z1, z2, z3⟩
  · cases this
def S__law_drawn_text (K : PySem.W.Frag) (A : Ad) : Pm := fun vs G Q _ => ∃ (a l : Addr) (ns : List Int) (L : List Hp), vs = [.ref a] ∧ Sd K a l ns L G ∧ ∀ s G', TxOk s → s.length ≤ 139 → Sd K a l ns L G' → Tx G G' → Q (.str (mkS s)) G'
/-! _law_drawn_text -/
def t__law_drawn_text (K : PySem.W.Frag) (A : Ad) : TS := tSeq (tAsg (tC (.str "\n !\"#$&'()*+,-./0123456789:;<=>?@ABCDEFGHIJKLMNOPQRSTUVWXYZ[\\]^_`abcdefghijklmnopqrstuvwxyz{|}~")) (gName 1)) (tRet (tM1 (rJoinU K) (tC (.str "")) (tLc (iRng1 (tCons (tCall (up (S__law_next K A)) [] E0 (tCons (tVar 0) (tCons (tOp (rIx K) (tLst (tCons (tC (.int 1)) (tCons (tC (.int 4)) (tCons (tC (.int 9)) (tCons (tC (.int 140)) tNil))))) (tCall (up (S__law_next K A)) [] E0 (tCons (tVar 0) (tCons (tC (.int 4)) tNil)))) tNil))) tNil)) (gName 2) tYes (tOp (rIx K) (tVar 1) (tCall (up (S__law_next K A)) [] E0 (tCons (tVar 0) (tCons (tCB (rLenU K) (tCons (tVar 1) tNil)) tNil)))) [2])))
theorem len__law_drawn_text {K : PySem.W.Frag} {A : Ad} : ∀ vs G Q E, S__law_drawn_text K A vs G Q E → vs.length = ["state"].length := by
  rintro vs G Q E ⟨a, l, ns, L, rfl, _⟩; rfl
theorem ok__law_drawn_text {K : PySem.W.Frag} {A : Ad} : ∀ vs G Q E, S__law_drawn_text K A vs G Q E → Es (t__law_drawn_text K A) { nx := fun _ G' => Q .non G', rt := Q } (L2.start ["state", "letters", "k"] vs) G := by
  rintro vs G Q E ⟨a, l, ns, L, rfl, h, q⟩
  change Es _ _ (_ :: _ :: _ :: []) _
  k_extra "e"
  k_extra "e"
  refine ee_m1 ?_
  k_extra "e"
  refine ee_lcR1 ?_
  k_extra "e"
  refine ⟨sz1000 (by simp), fun p hp => ?_⟩
  k_extra "e"
  have h1 := h.add (o := .lst [.int 1, .int 4, .int 9, .int 140]) hp
  refine nxS h1 (lim_ok (by decide) (by decide)) fun x G2 x0 x1 h2 t2 => ?_
  obtain ⟨v, hv, hm⟩ := menu [V.int 1, .int 4, .int 9, .int 140] x x0 (by simpa using x1)
  refine er_ixL (SqL.of (h2.ex (X := one p _) List.mem_cons_self _ _ one_at)) hv ?_
  have hn : ∃ n : Int, v = .int n ∧ 0 < n ∧ n ≤ 140 := by
    simp only [List.mem_cons, List.not_mem_nil, or_false] at hm
    rcases hm with rfl | rfl | rfl | rfl <;> exact ⟨_, rfl, by decide, by decide⟩
  obtain ⟨n, rfl, n0, n1⟩ := hn
  k_extra "e"
  refine nxS h2 (log2_ok n0 (by omega)) fun y G3 y0 y1 h3 t3 => ?_
  have h4 := h3.drop
  have tG : Tx G G3 := ((Ex.new hp).tx.trans t2).trans t3
  k_extra "e"
  refine ⟨by omega, fun pl hpl => ⟨fun i acc G' => ∃ s, Sd K a l ns L G' ∧ G' pl = none ∧ acc = (s.map fun c => mkS [c]).map V.str ∧ s.length = i ∧ TxOk s ∧ Tx G G' ∧ i ≤ 139, ⟨[], h4, hpl, rfl, rfl, (fun c hc => by cases hc), tG, by decide⟩, ?_, ?_, ?_⟩⟩
  · rintro i acc G' ⟨s, k1, k2, rfl, k4, k5, k6, k7⟩
    exact ⟨k2, by rw [List.length_map, List.length_map, k4]; exact szlt (by omega)⟩
  · rintro i acc G' hi ⟨s, k1, k2, rfl, k4, k5, k6, k7⟩
    refine ⟨rfl, et_yes ?_⟩
    refine iteT ?_
    dsimp only [L2.wipe, List.set_cons_zero, List.set_cons_succ]
    k_extra "e"
    refine ec_lenS (by rw [letters_len]; exact sz1000 (by decide)) ?_
    rw [letters_len]
    k_extra "e"
    refine nxS (k1.add (o := .lst ((s.map fun c => mkS [c]).map V.str)) k2) (log2_ok (by decide) (by decide)) fun z G5 z0 z1 h5 t5 => ?_
    obtain ⟨z, rfl⟩ := Int.eq_ofNat_of_zero_le z0
    obtain ⟨c, hc, hok⟩ := letters_get z (by omega)
    refine er_ixS (by rw [letters_len]; exact sz1000 (by decide)) (atI_nat hc) ?_
    obtain ⟨d1, d2, d3⟩ := h5.del
    refine ⟨d2, Lw.del G5 pl, del_ex d2, s ++ [c], d1, del_at, by simp [mkS], by rw [List.length_append, k4]; rfl, ?_, ((k6.trans (Ex.new k2).tx).trans t5).trans d3, by omega⟩
    intro x hx
    rcases List.mem_append.mp hx with hx | hx
    · exact k5 x hx
    · rw [List.mem_singleton] at hx; subst hx; exact hok
  · rintro acc G' ⟨s, k1, k2, rfl, k4, k5, k6, k7⟩
    refine em_join (SqL.of upd_same) ?_ ?_
    · rw [sum_one, em_len]; omega
    · rw [join_chars]
      exact q s _ k5 (by omega) (k1.junk (Ex.new k2)) (k6.trans (Ex.new k2).tx)
end Lw

namespace Lw
open PySem PySem.Spec PyProof.Rows L2
local macro_rules | `(tactic| k_extra "x1") => `(tactic| first
  | with_reducible refine es_seq ?_
  | with_reducible refine es_asg ?_
  | with_reducible refine es_if ?_
  | with_reducible refine es_ret ?_
  | with_reducible refine es_drop ?_
  | with_reducible refine es_next ?_
  | with_reducible refine es_augS ?_
  | with_reducible refine es_fld ?_
  | ((with_reducible show Ee (tVar _) _ _ _); refine ee_var rfl ?_)
  | with_reducible refine ee_c ?_
  | with_reducible refine ee_op ?_
  | with_reducible refine ee_un ?_
  | with_reducible refine eu_neg ?_
  | with_reducible refine ee_cb ?_
  | with_reducible refine ee_call ?_
  | with_reducible refine ea_nil ?_
  | with_reducible refine ea_cons ?_
  | with_reducible refine ee_sl ?_
  | with_reducible refine eo_no ?_
  | with_reducible refine eo_part ?_
  | with_reducible refine ee_tup ?_
  | with_reducible refine ee_lst ?_
  | with_reducible refine et_test ?_
  | with_reducible refine et_tB ?_
  | with_reducible refine et_tru ?_
  | with_reducible refine et_and ?_
  | with_reducible refine et_or ?_
  | with_reducible refine et_not ?_
  | with_reducible refine ee_and ?_
  | with_reducible refine ee_or ?_
  | with_reducible refine ee_not ?_
  | with_reducible refine ee_if ?_
  | with_reducible refine ee_chain ?_
  | with_reducible refine er_addI ?_
  | with_reducible refine er_subI ?_
  | with_reducible refine er_eqI ?_
  | with_reducible refine er_neI ?_
  | with_reducible refine er_eqNI ?_
  | with_reducible refine er_eqS ?_
  | with_reducible refine er_neS ?_
  | with_reducible refine er_eqB ?_
  | with_reducible refine er_neB ?_
  | with_reducible refine er_lt ?_
  | with_reducible refine er_le ?_
  | with_reducible refine er_gt ?_
  | with_reducible refine er_ge ?_
  | with_reducible refine er_isN_non ?_
  | with_reducible refine er_isN_bl ?_
  | with_reducible refine er_isN_int ?_
  | with_reducible refine er_isN_str ?_
  | with_reducible refine er_isN_ref ?_
  | with_reducible refine er_notN_non ?_
  | with_reducible refine er_notN_bl ?_
  | with_reducible refine er_notN_int ?_
  | with_reducible refine er_notN_str ?_
  | with_reducible refine er_notN_ref ?_
  | with_reducible refine er_isN ?_
  | with_reducible refine er_notN ?_
  | with_reducible refine ec_int ?_
  | with_reducible refine ec_intB ?_
  | with_reducible refine ec_max2 ?_
  | with_reducible refine ec_min2 ?_
  | with_reducible refine ip_I ?_
  | ((with_reducible refine eg_name ?_); (try dsimp only [L2.wipe, List.set_cons_zero, List.set_cons_succ]))
  | with_reducible refine eg_sub ?_
  | with_reducible refine egs_cons ?_
  | with_reducible refine egs_nil ?_
  | with_reducible refine tru_bl ?_
  | with_reducible refine tru_int ?_
  | with_reducible refine tru_non ?_
  | with_reducible refine iteT ?_
  | with_reducible refine iteF ?_
  | with_reducible refine ite_nt ?_
  | with_reducible refine ite_nf ?_
  | with_reducible refine ⟨_, rfl, ?_⟩)
local macro_rules | `(tactic| k_extra "s") => `(tactic| ((first | k_extra "x1" | ((with_reducible refine es_unf ?_); refine es_seq ?_)); (repeat k_extra "x1")))
local macro_rules | `(tactic| k_extra "x") => `(tactic| (repeat first | k_extra "x1" | ((with_reducible refine es_unf ?_); refine es_seq ?_)))
local macro_rules | `(tactic| k_extra "start") => `(tactic| dsimp only [L2.start, List.map_cons, List.map_nil, List.length_cons, List.length_nil, Nat.reduceAdd, Nat.reduceSub, List.replicate, List.cons_append, List.nil_append, Nat.zero_add])
local macro_rules | `(tactic| k_extra "e1") => `(tactic| first
  | with_reducible refine es_next ?_
  | ((with_reducible show Ee (tVar _) _ _ _); refine ee_var rfl ?_)
  | with_reducible refine ee_c ?_
  | with_reducible refine ee_op ?_
  | with_reducible refine ee_un ?_
  | with_reducible refine eu_neg ?_
  | with_reducible refine ee_cb ?_
  | with_reducible refine ee_call ?_
  | with_reducible refine ea_nil ?_
  | with_reducible refine ea_cons ?_
  | with_reducible refine ee_sl ?_
  | with_reducible refine eo_no ?_
  | with_reducible refine eo_part ?_
  | with_reducible refine ee_tup ?_
  | with_reducible refine ee_lst ?_
  | with_reducible refine et_test ?_
  | with_reducible refine et_tB ?_
  | with_reducible refine et_tru ?_
  | with_reducible refine et_and ?_
  | with_reducible refine et_or ?_
  | with_reducible refine et_not ?_
  | with_reducible refine ee_and ?_
  | with_reducible refine ee_or ?_
  | with_reducible refine ee_not ?_
  | with_reducible refine ee_if ?_
  | with_reducible refine ee_chain ?_
  | with_reducible refine er_addI ?_
  | with_reducible refine er_subI ?_
  | with_reducible refine er_eqI ?_
  | with_reducible refine er_neI ?_
  | with_reducible refine er_eqNI ?_
  | with_reducible refine er_eqS ?_
  | with_reducible refine er_neS ?_
  | with_reducible refine er_eqB ?_
  | with_reducible refine er_neB ?_
  | with_reducible refine er_lt ?_
  | with_reducible refine er_le ?_
  | with_reducible refine er_gt ?_
  | with_reducible refine er_ge ?_
  | with_reducible refine er_isN_non ?_
  | with_reducible refine er_isN_bl ?_
  | with_reducible refine er_isN_int ?_
  | with_reducible refine er_isN_str ?_
  | with_reducible refine er_isN_ref ?_
  | with_reducible refine er_notN_non ?_
  | with_reducible refine er_notN_bl ?_
  | with_reducible refine er_notN_int ?_
  | with_reducible refine er_notN_str ?_
  | with_reducible refine er_notN_ref ?_
  | with_reducible refine er_isN ?_
  | with_reducible refine er_notN ?_
  | with_reducible refine ec_int ?_
  | with_reducible refine ec_intB ?_
  | with_reducible refine ec_max2 ?_
  | with_reducible refine ec_min2 ?_
  | with_reducible refine ip_I ?_
  | ((with_reducible refine eg_name ?_); (try dsimp only [L2.wipe, List.set_cons_zero, List.set_cons_succ]))
  | with_reducible refine eg_sub ?_
  | with_reducible refine egs_cons ?_
  | with_reducible refine egs_nil ?_
  | with_reducible refine tru_bl ?_
  | with_reducible refine tru_int ?_
  | with_reducible refine tru_non ?_
  | with_reducible refine iteT ?_
  | with_reducible refine iteF ?_
  | with_reducible refine ite_nt ?_
  | with_reducible refine ite_nf ?_
  | with_reducible refine ex_bl ?_
  | with_reducible refine ex_int ?_
  | with_reducible refine ex_str ?_
  | with_reducible refine ex_strx ?_
  | with_reducible refine ex_ints1 ?_
  | with_reducible refine ex_ints2 ?_)
local macro_rules | `(tactic| k_extra "t1") => `(tactic| first
  | with_reducible refine es_asg ?_
  | with_reducible refine es_if ?_
  | with_reducible refine es_ret ?_
  | with_reducible refine es_drop ?_
  | with_reducible refine es_augS ?_
  | with_reducible refine es_fld ?_)
local macro_rules | `(tactic| k_extra "e") => `(tactic| first
  | ((with_reducible refine es_seq ?_); (try k_extra "t1"); (repeat k_extra "e1"))
  | (k_extra "t1"; (repeat k_extra "e1"))
  | (k_extra "e1"; (repeat k_extra "e1"))
  | ((with_reducible refine es_unf ?_); (refine es_seq ?_); (try k_extra "t1"); (repeat k_extra "e1")))
def MkN (m : Int × Int) : Prop := Num m.1 ∧ 0 ≤ m.2 ∧ m.2 < 8
theorem MkN.ok {m : Int × Int} (h : MkN m) : MkOk m := ⟨h.1.big, h.2.1, Int.lt_of_lt_of_le h.2.2 (by decide)⟩
theorem MkN.len {m : Int × Int} (h : MkN m) : (wrM m).length ≤ 11 := by
  unfold wrM
  rw [List.length_append]
  have := h.1.len
  have := wrN_le 1 m.2.toNat (by decide) (by have := h.2.2; omega)
  omega
theorem tx_len {s : List Nat} (h : TxOk s) (hl : s.length ≤ 139) : (wrS s).length ≤ 141 := by
  have h1 := wrL_len (s.map wrN)
  rw [List.length_map] at h1
  have h2 := wrN_le 2 s.length (by decide) (by omega)
  have h3 : ∀ r : List Nat, (∀ c ∈ r, c < 128) → (r.map wrN).flatten.length = r.length := by
    intro r
    induction r with
    | nil => intro _; rfl
    | cons c r ih =>
      intro hr
      rw [List.map_cons, List.flatten_cons, List.length_append, ih (fun x hx => hr x (List.mem_cons_of_mem _ hx)), wrN_lt (hr c List.mem_cons_self), List.length_cons]
      simp only [List.length_cons, List.length_nil]; omega
  have h4 := h3 s (fun c hc => by have := h c hc; omega)
  unfold wrS
  omega
theorem ms_len : ∀ ms : List (Int × Int), (∀ m ∈ ms, MkN m) → (ms.map wrM).flatten.length ≤ 11 * ms.length
  | [], _ => Nat.le_refl _
  | m :: r, h => by
    rw [List.map_cons, List.flatten_cons, List.length_append, List.length_cons]
    have := (h m List.mem_cons_self).len
    have := ms_len r fun x hx => h x (List.mem_cons_of_mem _ hx)
    omega
def S__law_drawn_deed (K : PySem.W.Frag) (A : Ad) : Pm := fun vs G Q _ => ∃ (a l : Addr) (ns : List Int) (L : List Hp), vs = [.ref a] ∧ Sd K a l ns L G ∧ ∀ v d G', DOk d → (wrD d).length ≤ 600 → Sd K a l ns L G' → Tx G G' → Im K G' v d.data → Q v G'
/-! _law_drawn_deed -/
def t__law_drawn_deed_1 (K : PySem.W.Frag) (A : Ad) : TS := tSeq (tAsg (tOp (rIx K) (tLst (tCons (tC .non) (tCons (tTup (tCons (tCall (up (S__law_drawn_number K A)) [] E0 (tCons (tVar 0) tNil)) (tCons (tCall (up (S__law_next K A)) [] E0 (tCons (tVar 0) (tCons (tC (.int 8)) tNil))) tNil))) tNil))) (tCall (up (S__law_next K A)) [] E0 (tCons (tVar 0) (tCons (tC (.int 2)) tNil)))) (gName 2)) (tRet (tTup (tCons (tC (.str "change")) (tCons (tCall (up (S__law_drawn_text K A)) [] E0 (tCons (tVar 0) tNil)) (tCons (tVar 1) (tCons (tVar 2) (tCons (tCall (up (S__law_drawn_number K A)) [] E0 (tCons (tVar 0) tNil)) (tCons (tCall (up (S__law_drawn_text K A)) [] E0 (tCons (tVar 0) tNil)) tNil))))))))
def t__law_drawn_deed_2 (K : PySem.W.Frag) (A : Ad) : TS := tSeq (tAsg (tCB (rTupU K) (tCons (tLc (iRng1 (tCons (tCall (up (S__law_next K A)) [] E0 (tCons (tVar 0) (tCons (tC (.int 4)) tNil))) tNil)) (gName 3) tYes (tTup (tCons (tCall (up (S__law_drawn_number K A)) [] E0 (tCons (tVar 0) tNil)) (tCons (tCall (up (S__law_next K A)) [] E0 (tCons (tVar 0) (tCons (tC (.int 8)) tNil))) tNil))) [3]) tNil)) (gName 1)) (t__law_drawn_deed_1 K A)
def t__law_drawn_deed (K : PySem.W.Frag) (A : Ad) : TS := tSeq (tIfS (tTest (tOp (rEqU K) (tCall (up (S__law_next K A)) [] E0 (tCons (tVar 0) (tCons (tC (.int 3)) tNil))) (tC (.int 0)))) (tRet (tTup (tCons (tC (.str "back")) (tCons (tCall (up (S__law_drawn_number K A)) [] E0 (tCons (tVar 0) tNil)) tNil)))) tNext) (t__law_drawn_deed_2 K A)
theorem len__law_drawn_deed {K : PySem.W.Frag} {A : Ad} : ∀ vs G Q E, S__law_drawn_deed K A vs G Q E → vs.length = ["state"].length := by
  rintro vs G Q E ⟨a, l, ns, L, rfl, _⟩; rfl
theorem ok__law_drawn_deed {K : PySem.W.Frag} {A : Ad} : ∀ vs G Q E, S__law_drawn_deed K A vs G Q E → Es (t__law_drawn_deed K A) { nx := fun _ G' => Q .non G', rt := Q } (L2.start ["state", "marks", "behind", "k"] vs) G := by
  rintro vs G Q E ⟨a, l, ns, L, rfl, h, q⟩
  change Es _ _ (_ :: _ :: _ :: _ :: []) _
  k_extra "e"
  refine nxS h (log2_ok (by decide) (by decide)) fun x G1 x0 x1 h1 t1 => ?_
  k_extra "e"
  refine ifd (fun _ => ?_) (fun _ => ?_)
  · k_extra "e"
    refine ⟨a, l, ns, L, rfl, h1, fun n G2 hn h2 t2 => ?_⟩
    k_extra "e"
    refine ⟨sz1000 (by simp), fun t ht => ?_⟩
    refine q (.ref t) (.back n) _ hn.big ?_ (h2.junk (Ex.new ht)) ((t1.trans t2).trans (Ex.new ht).tx) (.tup (SqT.of upd_same) (.cons (.str _) (.cons (.int _) .nil)))
    have := hn.len
    simp only [wrD, List.length_append, List.length_cons, List.length_nil]; omega
  k_extra "e"
  k_extra "e"
  refine ee_lcR1 ?_
  k_extra "e"
  refine nxS h1 (log2_ok (by decide) (by decide)) fun n G2 n0 n1 h2 t2 => ?_
  k_extra "e"
  refine ⟨by omega, fun pl hpl => ⟨fun i acc G' => ∃ ms : List (Int × Int), Sd K a l ns L G' ∧ G' pl = none ∧ Ims K G' acc (ms.map mkD) ∧ ms.length = i ∧ (∀ m ∈ ms, MkN m) ∧ Tx G G' ∧ i ≤ 3, ⟨[], h2, hpl, .nil, rfl, (fun c hc => by cases hc), t1.trans t2, by decide⟩, ?_, ?_, ?_⟩⟩
  · rintro i acc G' ⟨ms, k1, k2, k3, k4, k5, k6, k7⟩
    have := ims_len k3
    rw [List.length_map] at this
    exact ⟨k2, szlt (by omega)⟩
  · rintro i acc G' hi ⟨ms, k1, k2, k3, k4, k5, k6, k7⟩
    refine ⟨rfl, et_yes ?_⟩
    refine iteT ?_
    dsimp only [L2.wipe, List.set_cons_zero, List.set_cons_succ]
    k_extra "e"
    refine ⟨a, l, ns, _, rfl, k1.add (o := .lst acc) k2, fun m G5 hm h5 t5 => ?_⟩
    k_extra "e"
    refine nxS h5 (log2_ok (by decide) (by decide)) fun r G6 r0 r1 h6 t6 => ?_
    k_extra "e"
    refine ⟨sz1000 (by simp), fun t ht => ?_⟩
    obtain ⟨d1, d2, d3⟩ := (h6.junk (Ex.new (o := .tup [.int m, .int r]) ht)).del
    have tt := ((Ex.new (o := .lst acc) k2).tx.trans (t5.trans (t6.trans (Ex.new (o := .tup [.int m, .int r]) ht).tx))).trans d3
    refine ⟨d2, Lw.del _ pl, del_ex d2, ms ++ [(m, r)], d1, del_at, ?_, by rw [List.length_append, k4]; rfl, ?_, k6.trans tt, by omega⟩
    · rw [List.map_append]
      exact ims_app (tt.ims k3) (.cons (d3.im (.tup (SqT.of upd_same) (.cons (.int _) (.cons (.int _) .nil)))) .nil)
    · intro x hx
      rcases List.mem_append.mp hx with hx | hx
      · exact k5 x hx
      · rw [List.mem_singleton] at hx; subst hx; exact ⟨hm, r0, r1⟩
  rintro acc G3 ⟨ms, k1, k2, k3, k4, k5, k6, k7⟩
  k_extra "e"
  refine ec_tupL (SqL.of upd_same) fun pt hpt => ?_
  have e4 := (Ex.new (o := .lst acc) k2).trans (Ex.new (o := .tup acc) hpt)
  have h4 := k1.junk e4
  have im4 : Im K (upd (upd G3 pl (.lst acc)) pt (.tup acc)) (.ref pt) (.tuple (ms.map mkD)) := .tup (SqT.of upd_same) (e4.tx.ims k3)
  have t4 := k6.trans e4.tx
  generalize upd (upd G3 pl (.lst acc)) pt (.tup acc) = G4 at h4 im4 t4 ⊢
  -- what stands behind the mark
  have fin : ∀ {G5 : Hp} {v3 : V} {bh : Option (Int × Int)}, Sd K a l ns L G5 → Tx G G5 → Im K G5 (.ref pt) (.tuple (ms.map mkD)) → Im K G5 v3 (bhD bh) → BhOk bh → (wrBh bh).length ≤ 12 →
      Es (tRet (tTup (tCons (tC (.str "change")) (tCons (tCall (up (S__law_drawn_text K A)) [] E0 (tCons (tVar 0) tNil)) (tCons (tVar 1) (tCons (tVar 2) (tCons (tCall (up (S__law_drawn_number K A)) [] E0 (tCons (tVar 0) tNil)) (tCons (tCall (up (S__law_drawn_text K A)) [] E0 (tCons (tVar 0) tNil)) tNil)))))))) { nx := fun _ G' => Q .non G', rt := Q } [some (.ref a), some (.ref pt), some v3, none] G5 := fun {G5 v3 bh} h5 t5 i5 i3 hbh hbl => by
    k_extra "e"
    refine ⟨a, l, ns, L, rfl, h5, fun m G6 hm hml h6 t6 => ?_⟩
    k_extra "e"
    refine ⟨a, l, ns, L, rfl, h6, fun n' G7 hn' h7 t7 => ?_⟩
    k_extra "e"
    refine ⟨a, l, ns, L, rfl, h7, fun tx G8 htx htl h8 t8 => ?_⟩
    k_extra "e"
    refine ⟨sz1000 (by simp), fun t ht => ?_⟩
    have e9 := Ex.new (o := .tup [.str (Str.ofString "change"), .str (mkS m), .ref pt, v3, .int n', .str (mkS tx)]) ht
    have t9 := ((t6.trans t7).trans t8).trans e9.tx
    refine q (.ref t) (.change m ms bh n' tx) _ ⟨hm, fun x hx => (k5 x hx).ok, hbh, hn'.big, htx⟩ ?_ (h8.junk e9) (t5.trans t9) (.tup (SqT.of upd_same) (.cons (.str _) (.cons (.str _) (.cons (t9.im i5) (.cons (t9.im i3) (.cons (.int _) (.cons (.str _) .nil)))))))
    have l1 := tx_len hm hml
    have l2 := tx_len htx htl
    have l3 := wrL_len (ms.map wrM)
    rw [List.length_map] at l3
    have l4 := ms_len ms k5
    have l5 := wrN_le 1 ms.length (by decide) (by omega)
    have l6 := hn'.len
    simp only [wrD, List.length_append, List.length_cons, List.length_nil]; omega
  k_extra "e"
  k_extra "e"
  refine ⟨a, l, ns, L, rfl, h4, fun bn G5 hbn h5 t5 => ?_⟩
  k_extra "e"
  refine nxS h5 (log2_ok (by decide) (by decide)) fun br G6 r0 r1 h6 t6 => ?_
  k_extra "e"
  refine ⟨sz1000 (by simp), fun tb htb => ?_⟩
  have e7 := Ex.new (o := .tup [.int bn, .int br]) htb
  have im7 : Im K (upd G6 tb (.tup [.int bn, .int br])) (.ref tb) (bhD (some (bn, br))) := .tup (SqT.of upd_same) (.cons (.int _) (.cons (.int _) .nil))
  have h7 := h6.junk e7
  have tt7 := (t5.trans t6).trans e7.tx
  generalize upd G6 tb (.tup [.int bn, .int br]) = G7 at h7 im7 tt7 ⊢
  k_extra "e"
  refine ⟨sz1000 (by simp), fun p8 hp8 => ?_⟩
  have h8 := h7.add (o := .lst [.non, .ref tb]) hp8
  have e8 := Ex.new (o := .lst [.non, .ref tb]) hp8
  k_extra "e"
  refine nxS h8 (log2_ok (by decide) (by decide)) fun y G9 y0 y1 h9 t9 => ?_
  have g9 := h9.ex (X := one p8 (.lst [.non, .ref tb])) List.mem_cons_self _ _ one_at
  have tt9 := tt7.trans (e8.tx.trans t9)
  rcases (show y = 0 ∨ y = 1 by omega) with rfl | rfl
  · refine er_ixL (SqL.of g9) (atI_nat (j := 0) rfl) ?_
    k_extra "e"
    exact fin (bh := none) h9.drop (t4.trans tt9) (tt9.im im4) .non trivial (by decide)
  · refine er_ixL (SqL.of g9) (atI_nat (j := 1) rfl) ?_
    k_extra "e"
    have hm : MkN (bn, br) := ⟨hbn, r0, r1⟩
    refine fin (bh := some (bn, br)) h9.drop (t4.trans tt9) (tt9.im im4) ((e8.tx.trans t9).im im7) hm.ok ?_
    have := hm.len
    simp only [wrBh, List.length_append, List.length_cons, List.length_nil]; omega
end Lw

namespace Lw
open PySem PySem.Spec PyProof.Rows L2
local macro_rules | `(tactic| k_extra "x1") => `(tactic| first
  | with_reducible refine es_seq ?_
  | with_reducible refine es_asg ?_
  | with_reducible refine es_if ?_
  | with_reducible refine es_ret ?_
  | with_reducible refine es_drop ?_
  | with_reducible refine es_next ?_
  | with_reducible refine es_augS ?_
  | with_reducible refine es_fld ?_
  | ((with_reducible show Ee (tVar _) _ _ _); refine ee_var rfl ?_)
  | with_reducible refine ee_c ?_
  | with_reducible refine ee_op ?_
  | with_reducible refine ee_un ?_
  | with_reducible refine eu_neg ?_
  | with_reducible refine ee_cb ?_
  | with_reducible refine ee_call ?_
  | with_reducible refine ea_nil ?_
  | with_reducible refine ea_cons ?_
  | with_reducible refine ee_sl ?_
  | with_reducible refine eo_no ?_
  | with_reducible refine eo_part ?_
  | with_reducible refine ee_tup ?_
  | with_reducible refine ee_lst ?_
  | with_reducible refine et_test ?_
  | with_reducible refine et_tB ?_
  | with_reducible refine et_tru ?_
  | with_reducible refine et_and ?_
  | with_reducible refine et_or ?_
  | with_reducible refine et_not ?_
  | with_reducible refine ee_and ?_
  | with_reducible refine ee_or ?_
  | with_reducible refine ee_not ?_
  | with_reducible refine ee_if ?_
  | with_reducible refine ee_chain ?_
  | with_reducible refine er_addI ?_
  | with_reducible refine er_subI ?_
  | with_reducible refine er_eqI ?_
  | with_reducible refine er_neI ?_
  | with_reducible refine er_eqNI ?_
  | with_reducible refine er_eqS ?_
  | with_reducible refine er_neS ?_
  | with_reducible refine er_eqB ?_
  | with_reducible refine er_neB ?_
  | with_reducible refine er_lt ?_
  | with_reducible refine er_le ?_
  | with_reducible refine er_gt ?_
  | with_reducible refine er_ge ?_
  | with_reducible refine er_isN_non ?_
  | with_reducible refine er_isN_bl ?_
  | with_reducible refine er_isN_int ?_
  | with_reducible refine er_isN_str ?_
  | with_reducible refine er_isN_ref ?_
  | with_reducible refine er_notN_non ?_
  | with_reducible refine er_notN_bl ?_
  | with_reducible refine er_notN_int ?_
  | with_reducible refine er_notN_str ?_
  | with_reducible refine er_notN_ref ?_
  | with_reducible refine er_isN ?_
  | with_reducible refine er_notN ?_
  | with_reducible refine ec_int ?_
  | with_reducible refine ec_intB ?_
  | with_reducible refine ec_max2 ?_
  | with_reducible refine ec_min2 ?_
  | with_reducible refine ip_I ?_
  | ((with_reducible refine eg_name ?_); (try dsimp only [L2.wipe, List.set_cons_zero, List.set_cons_succ]))
  | with_reducible refine eg_sub ?_
  | with_reducible refine egs_cons ?_
  | with_reducible refine egs_nil ?_
  | with_reducible refine tru_bl ?_
  | with_reducible refine tru_int ?_
  | with_reducible refine tru_non ?_
  | with_reducible refine iteT ?_
  | with_reducible refine iteF ?_
  | with_reducible refine ite_nt ?_
  | with_reducible refine ite_nf ?_
  | with_reducible refine ⟨_, rfl, ?_⟩)
local macro_rules | `(tactic| k_extra "s") => `(tactic| ((first | k_extra "x1" | ((with_reducible refine es_unf ?_); refine es_seq ?_)); (repeat k_extra "x1")))
local macro_rules | `(tactic| k_extra "x") => `(tactic| (repeat first | k_extra "x1" | ((with_reducible refine es_unf ?_); refine es_seq ?_)))
local macro_rules | `(tactic| k_extra "start") => `(tactic| dsimp only [L2.start, List.map_cons, List.map_nil, List.length_cons, List.length_nil, Nat.reduceAdd, Nat.reduceSub, List.replicate, List.cons_append, List.nil_append, Nat.zero_add])
local macro_rules | `(tactic| k_extra "e1") => `(tactic| first
  | with_reducible refine es_next ?_
  | ((with_reducible show Ee (tVar _) _ _ _); refine ee_var rfl ?_)
  | with_reducible refine ee_c ?_
  | with_reducible refine ee_op ?_
  | with_reducible refine ee_un ?_
  | with_reducible refine eu_neg ?_
  | with_reducible refine ee_cb ?_
  | with_reducible refine ee_call ?_
  | with_reducible refine ea_nil ?_
  | with_reducible refine ea_cons ?_
  | with_reducible refine ee_sl ?_
  | with_reducible refine eo_no ?_
  | with_reducible refine eo_part ?_
  | with_reducible refine ee_tup ?_
  | with_reducible refine ee_lst ?_
  | with_reducible refine et_test ?_
  | with_reducible refine et_tB ?_
  | with_reducible refine et_tru ?_
  | with_reducible refine et_and ?_
  | with_reducible refine et_or ?_
  | with_reducible refine et_not ?_
  | with_reducible refine ee_and ?_
  | with_reducible refine ee_or ?_
  | with_reducible refine ee_not ?_
  | with_reducible refine ee_if ?_
  | with_reducible refine ee_chain ?_
  | with_reducible refine er_addI ?_
  | with_reducible refine er_subI ?_
  | with_reducible refine er_eqI ?_
  | with_reducible refine er_neI ?_
  | with_reducible refine er_eqNI ?_
  | with_reducible refine er_eqS ?_
  | with_reducible refine er_neS ?_
  | with_reducible refine er_eqB ?_
  | with_reducible refine er_neB ?_
  | with_reducible refine er_lt ?_
  | with_reducible refine er_le ?_
  | with_reducible refine er_gt ?_
  | with_reducible refine er_ge ?_
  | with_reducible refine er_isN_non ?_
  | with_reducible refine er_isN_bl ?_
  | with_reducible refine er_isN_int ?_
  | with_reducible refine er_isN_str ?_
  | with_reducible refine er_isN_ref ?_
  | with_reducible refine er_notN_non ?_
  | with_reducible refine er_notN_bl ?_
  | with_reducible refine er_notN_int ?_
  | with_reducible refine er_notN_str ?_
  | with_reducible refine er_notN_ref ?_
  | with_reducible refine er_isN ?_
  | with_reducible refine er_notN ?_
  | with_reducible refine ec_int ?_
  | with_reducible refine ec_intB ?_
  | with_reducible refine ec_max2 ?_
  | with_reducible refine ec_min2 ?_
  | with_reducible refine ip_I ?_
  | ((with_reducible refine eg_name ?_); (try dsimp only [L2.wipe, List.set_cons_zero, List.set_cons_succ]))
  | with_reducible refine eg_sub ?_
  | with_reducible refine egs_cons ?_
  | with_reducible refine egs_nil ?_
  | with_reducible refine tru_bl ?_
  | with_reducible refine tru_int ?_
  | with_reducible refine tru_non ?_
  | with_reducible refine iteT ?_
  | with_reducible refine iteF ?_
  | with_reducible refine ite_nt ?_
  | with_reducible refine ite_nf ?_
  | with_reducible refine ex_bl ?_
  | with_reducible refine ex_int ?_
  | with_reducible refine ex_str ?_
  | with_reducible refine ex_strx ?_
  | with_reducible refine ex_ints1 ?_
  | with_reducible refine ex_ints2 ?_)
local macro_rules | `(tactic| k_extra "t1") => `(tactic| first
  | with_reducible refine es_asg ?_
  | with_reducible refine es_if ?_
  | with_reducible refine es_ret ?_
  | with_reducible refine es_drop ?_
  | with_reducible refine es_augS ?_
  | with_reducible refine es_fld ?_)
local macro_rules | `(tactic| k_extra "e") => `(tactic| first
  | ((with_reducible refine es_seq ?_); (try k_extra "t1"); (repeat k_extra "e1"))
  | (k_extra "t1"; (repeat k_extra "e1"))
  | (k_extra "e1"; (repeat k_extra "e1"))
  | ((with_reducible refine es_unf ?_); (refine es_seq ?_); (try k_extra "t1"); (repeat k_extra "e1")))
def Byt (w : List Int) : Prop := ∀ b ∈ w, 0 ≤ b ∧ b < 256
theorem byt_nb {w : List Int} (h : Byt w) : NB w := fun b hb => (h b hb).1
theorem byt_app {x y : List Int} (h : Byt x) (h' : Byt y) : Byt (x ++ y) := fun b hb => (List.mem_append.mp hb).elim (h b) (h' b)
theorem byt_take {x : List Int} (h : Byt x) (n : Nat) : Byt (x.take n) := fun b hb => h b (List.mem_of_mem_take hb)
theorem byt_drop {x : List Int} (h : Byt x) (n : Nat) : Byt (x.drop n) := fun b hb => h b (List.mem_of_mem_drop hb)
theorem byt_one {b : Int} (h : 0 ≤ b ∧ b < 256) : Byt [b] := fun x hx => by rw [List.mem_singleton] at hx; subst hx; exact h
theorem map_take (xs : List Int) (n : Nat) : (xs.map V.int).take n = (xs.take n).map V.int := List.map_take.symm
theorem map_drop (xs : List Int) (n : Nat) : (xs.map V.int).drop n = (xs.drop n).map V.int := List.map_drop.symm
def S__law_spoilt (K : PySem.W.Frag) (A : Ad) : Pm := fun vs G Q _ => ∃ (a l : Addr) (ns : List Int) (L : List Hp) (pd : Addr) (d : List Int), vs = [.ref a, .ref pd] ∧ Sd K a l ns (one pd (.lst (d.map V.int)) :: L) G ∧ Byt d ∧ d.length ≤ 400000 ∧
  ∀ p w G', Byt w → w.length ≤ d.length + 12 → Sd K a l ns L G' → Tx G G' → Li G' p w → Q (.ref p) G'
/-! _law_spoilt -/
def t__law_spoilt_1 (K : PySem.W.Frag) (A : Ad) : TS := tSeq (tIfS (tTest (tOp (rEqU K) (tVar 4) (tC (.int 3)))) (tRet (tOp (rAddU K) (tOp (rAddU K) (tSl (rSlU K) (tVar 1) tNoPart (tPart (tVar 2))) (tLst (tCons (tVar 3) tNil))) (tSl (rSlU K) (tVar 1) (tPart (tOp (rAddU K) (tVar 2) (tC (.int 1)))) tNoPart))) tNext) (tRet (tLc (iRng1 (tCons (tCall (up (S__law_next K A)) [] E0 (tCons (tVar 0) (tCons (tC (.int 12)) tNil))) tNil)) (gName 5) tYes (tCall (up (S__law_next K A)) [] E0 (tCons (tVar 0) (tCons (tOp (rIx K) (tLst (tCons (tC (.int 3)) (tCons (tC (.int 256)) tNil))) (tCall (up (S__law_next K A)) [] E0 (tCons (tVar 0) (tCons (tC (.int 2)) tNil)))) tNil))) [5]))
def t__law_spoilt_2 (K : PySem.W.Frag) (A : Ad) : TS := tSeq (tIfS (tTest (tOp (rEqU K) (tVar 4) (tC (.int 2)))) (tRet (tOp (rAddU K) (tOp (rAddU K) (tSl (rSlU K) (tVar 1) tNoPart (tPart (tVar 2))) (tLst (tCons (tVar 3) tNil))) (tSl (rSlU K) (tVar 1) (tPart (tVar 2)) tNoPart))) tNext) (t__law_spoilt_1 K A)
def t__law_spoilt_3 (K : PySem.W.Frag) (A : Ad) : TS := tSeq (tIfS (tTest (tOp (rEqU K) (tVar 4) (tC (.int 1)))) (tRet (tOp (rAddU K) (tSl (rSlU K) (tVar 1) tNoPart (tPart (tVar 2))) (tSl (rSlU K) (tVar 1) (tPart (tOp (rAddU K) (tVar 2) (tC (.int 1)))) tNoPart))) tNext) (t__law_spoilt_2 K A)
def t__law_spoilt_4 (K : PySem.W.Frag) (A : Ad) : TS := tSeq (tIfS (tTest (tOp (rEqU K) (tVar 4) (tC (.int 0)))) (tRet (tSl (rSlU K) (tVar 1) tNoPart (tPart (tVar 2)))) tNext) (t__law_spoilt_3 K A)
def t__law_spoilt_5 (K : PySem.W.Frag) (A : Ad) : TS := tSeq (tAsg (tCall (up (S__law_next K A)) [] E0 (tCons (tVar 0) (tCons (tC (.int 5)) tNil))) (gName 4)) (t__law_spoilt_4 K A)
def t__law_spoilt_6 (K : PySem.W.Frag) (A : Ad) : TS := tSeq (tAsg (tOp (rIx K) (tLst (tCons (tC (.int 0)) (tCons (tC (.int 1)) (tCons (tC (.int 2)) (tCons (tC (.int 37)) (tCons (tC (.int 127)) (tCons (tC (.int 128)) (tCons (tC (.int 255)) tNil)))))))) (tCall (up (S__law_next K A)) [] E0 (tCons (tVar 0) (tCons (tC (.int 7)) tNil)))) (gName 3)) (t__law_spoilt_5 K A)
def t__law_spoilt (K : PySem.W.Frag) (A : Ad) : TS := tSeq (tAsg (tCall (up (S__law_next K A)) [] E0 (tCons (tVar 0) (tCons (tOp (rAddU K) (tCB (rLenU K) (tCons (tVar 1) tNil)) (tC (.int 1))) tNil))) (gName 2)) (t__law_spoilt_6 K A)
theorem len__law_spoilt {K : PySem.W.Frag} {A : Ad} : ∀ vs G Q E, S__law_spoilt K A vs G Q E → vs.length = ["state", "data"].length := by
  rintro vs G Q E ⟨a, l, ns, L, pd, d, rfl, _⟩; rfl
theorem ok__law_spoilt {K : PySem.W.Frag} {A : Ad} : ∀ vs G Q E, S__law_spoilt K A vs G Q E → Es (t__law_spoilt K A) { nx := fun _ G' => Q .non G', rt := Q } (L2.start ["state", "data", "place", "byte", "pick", "j"] vs) G := by
  rintro vs G Q E ⟨a, l, ns, L, pd, d, rfl, h, hb, hl, q⟩
  change Es _ _ (_ :: _ :: _ :: _ :: _ :: _ :: []) _
  have gd : ∀ {G' : Hp} {M : List Hp}, Sd K a l ns M G' → one pd (.lst (d.map V.int)) ∈ M → Li G' pd d := fun h hm => h.ex hm _ _ one_at
  k_extra "e"
  refine ec_lenL (SqL.of (gd h (by simp))) fun _ => ?_
  rw [List.length_map]
  k_extra "e"
  refine nxS h (log2_ok (by omega) (by omega)) fun pl G1 p0 p1 h1 t1 => ?_
  obtain ⟨pl, rfl⟩ := Int.eq_ofNat_of_zero_le p0
  k_extra "e"
  k_extra "e"
  refine ⟨sz1000 (by simp), fun pm hpm => ?_⟩
  have h2 := h1.add (o := .lst [.int 0, .int 1, .int 2, .int 37, .int 127, .int 128, .int 255]) hpm
  have t2 := t1.trans (Ex.new (o := .lst [.int 0, .int 1, .int 2, .int 37, .int 127, .int 128, .int 255]) hpm).tx
  k_extra "e"
  refine nxS h2 (log2_ok (by decide) (by decide)) fun x G3 x0 x1 h3 t3 => ?_
  obtain ⟨v, hv, hm⟩ := menu [V.int 0, .int 1, .int 2, .int 37, .int 127, .int 128, .int 255] x x0 (by simpa using x1)
  refine er_ixL (SqL.of (h3.ex (X := one pm _) List.mem_cons_self _ _ one_at)) hv ?_
  have hn : ∃ n : Int, v = .int n ∧ 0 ≤ n ∧ n < 256 := by
    simp only [List.mem_cons, List.not_mem_nil, or_false] at hm
    rcases hm with rfl | rfl | rfl | rfl | rfl | rfl | rfl <;> exact ⟨_, rfl, by decide, by decide⟩
  obtain ⟨by_, rfl, b0, b1⟩ := hn
  have h4 := h3.drop
  have t4 := t2.trans t3
  clear h h1 h2 h3
  k_extra "e"
  k_extra "e"
  refine nxS h4 (log2_ok (by decide) (by decide)) fun pk G5 k0 k1 h5 t5 => ?_
  have t6 := t4.trans t5
  have g5 : Li G5 pd d := gd h5 (by simp)
  clear h4
  have e1 : ((pl : Nat) : Int) + 1 = ((pl + 1 : Nat) : Int) := rfl
  have h6 := h5.drop
  k_extra "e"
  k_extra "e"
  refine ifd (fun _ => ?_) (fun _ => ?_)
  · k_extra "e"
    refine ew_L (SqL.of g5) fun p hp => ?_
    rw [cut_toN, map_take]
    exact q p _ _ (byt_take hb _) (by rw [List.length_take]; omega) (h6.junk (Ex.new hp)) (t6.trans (Ex.new hp).tx) li_new
  k_extra "e"
  k_extra "e"
  refine ifd (fun _ => ?_) (fun _ => ?_)
  · k_extra "e"
    refine ew_L (SqL.of g5) fun p hp => ?_
    rw [cut_toN, map_take]
    have y1 := Ex.new (o := .lst ((d.take pl).map V.int)) hp
    k_extra "e"
    refine ew_L (SqL.of (g5.up y1)) fun p2 hp2 => ?_
    rw [e1, cut_from, map_drop]
    have y2 := y1.trans (Ex.new (o := .lst ((d.drop (pl + 1)).map V.int)) hp2)
    refine er_li (get_new li_new hp2) li_new (by rw [List.length_take, List.length_drop]; omega) fun p3 hp3 => ?_
    have y3 := y2.trans (Ex.new (o := .lst ((d.take pl ++ d.drop (pl + 1)).map V.int)) hp3)
    exact q p3 _ _ (byt_app (byt_take hb _) (byt_drop hb _)) (by rw [List.length_append, List.length_take, List.length_drop]; omega) (h6.junk y3) (t6.trans y3.tx) li_new
  k_extra "e"
  k_extra "e"
  refine ifd (fun _ => ?_) (fun _ => ?_)
  · k_extra "e"
    refine ew_L (SqL.of g5) fun p hp => ?_
    rw [cut_toN, map_take]
    have y1 := Ex.new (o := .lst ((d.take pl).map V.int)) hp
    k_extra "e"
    refine ⟨sz1000 (by simp), fun p2 hp2 => ?_⟩
    have y2 := y1.trans (Ex.new (o := .lst (([by_] : List Int).map V.int)) hp2)
    refine er_li (y := [by_]) (get_new li_new hp2) upd_same (by rw [List.length_take]; simp; omega) fun p3 hp3 => ?_
    have y3 := y2.trans (Ex.new (o := .lst ((d.take pl ++ [by_]).map V.int)) hp3)
    k_extra "e"
    refine ew_L (SqL.of (g5.up y3)) fun p4 hp4 => ?_
    rw [cut_from, map_drop]
    have y4 := y3.trans (Ex.new (o := .lst ((d.drop pl).map V.int)) hp4)
    refine er_li (x := d.take pl ++ [by_]) (get_new li_new hp4) li_new (by simp; omega) fun p5 hp5 => ?_
    have y5 := y4.trans (Ex.new (o := .lst ((d.take pl ++ [by_] ++ d.drop pl).map V.int)) hp5)
    exact q p5 _ _ (byt_app (byt_app (byt_take hb _) (byt_one ⟨b0, b1⟩)) (byt_drop hb _)) (by simp; omega) (h6.junk y5) (t6.trans y5.tx) li_new
  k_extra "e"
  k_extra "e"
  refine ifd (fun _ => ?_) (fun _ => ?_)
  · k_extra "e"
    refine ew_L (SqL.of g5) fun p hp => ?_
    rw [cut_toN, map_take]
    have y1 := Ex.new (o := .lst ((d.take pl).map V.int)) hp
    k_extra "e"
    refine ⟨sz1000 (by simp), fun p2 hp2 => ?_⟩
    have y2 := y1.trans (Ex.new (o := .lst (([by_] : List Int).map V.int)) hp2)
    refine er_li (y := [by_]) (get_new li_new hp2) upd_same (by rw [List.length_take]; simp; omega) fun p3 hp3 => ?_
    have y3 := y2.trans (Ex.new (o := .lst ((d.take pl ++ [by_]).map V.int)) hp3)
    k_extra "e"
    refine ew_L (SqL.of (g5.up y3)) fun p4 hp4 => ?_
    rw [e1, cut_from, map_drop]
    have y4 := y3.trans (Ex.new (o := .lst ((d.drop (pl + 1)).map V.int)) hp4)
    refine er_li (x := d.take pl ++ [by_]) (get_new li_new hp4) li_new (by simp; omega) fun p5 hp5 => ?_
    have y5 := y4.trans (Ex.new (o := .lst ((d.take pl ++ [by_] ++ d.drop (pl + 1)).map V.int)) hp5)
    exact q p5 _ _ (byt_app (byt_app (byt_take hb _) (byt_one ⟨b0, b1⟩)) (byt_drop hb _)) (by simp; omega) (h6.junk y5) (t6.trans y5.tx) li_new
  k_extra "e"
  k_extra "e"
  refine ee_lcR1 ?_
  k_extra "e"
  refine nxS h6 (log2_ok (by decide) (by decide)) fun n G7 n0 n1 h7 t7 => ?_
  k_extra "e"
  refine ⟨by omega, fun pw hpw => ⟨fun i acc G' => ∃ w : List Int, Sd K a l ns L G' ∧ G' pw = none ∧ acc = w.map V.int ∧ w.length = i ∧ Byt w ∧ Tx G G' ∧ i ≤ 11, ⟨[], h7, hpw, rfl, rfl, (fun c hc => by cases hc), t6.trans t7, by decide⟩, ?_, ?_, ?_⟩⟩
  · rintro i acc G' ⟨w, z1, z2, rfl, z4, z5, z6, z7⟩
    exact ⟨z2, by rw [List.length_map]; exact szlt (by omega)⟩
  · rintro i acc G' hi ⟨w, z1, z2, rfl, z4, z5, z6, z7⟩
    refine ⟨rfl, et_yes ?_⟩
    refine iteT ?_
    dsimp only [L2.wipe, List.set_cons_zero, List.set_cons_succ]
    k_extra "e"
    refine ⟨sz1000 (by simp), fun p8 hp8 => ?_⟩
    have s1 := (z1.add (o := .lst (w.map V.int)) z2).add (o := .lst [.int 3, .int 256]) hp8
    have u1 := (Ex.new (o := .lst (w.map V.int)) z2).tx.trans (Ex.new (o := .lst [.int 3, .int 256]) hp8).tx
    k_extra "e"
    refine nxS s1 (log2_ok (by decide) (by decide)) fun y G9 y0 y1 s2 u2 => ?_
    obtain ⟨v, hv, hm⟩ := menu [V.int 3, .int 256] y y0 (by simpa using y1)
    refine er_ixL (SqL.of (s2.ex (X := one p8 _) List.mem_cons_self _ _ one_at)) hv ?_
    have hn : ∃ n : Int, v = .int n ∧ 0 < n ∧ n ≤ 256 := by
      simp only [List.mem_cons, List.not_mem_nil, or_false] at hm
      rcases hm with rfl | rfl <;> exact ⟨_, rfl, by decide, by decide⟩
    obtain ⟨lim, rfl, l0, l1⟩ := hn
    k_extra "e"
    refine nxS s2.drop (log2_ok l0 (by omega)) fun c G10 c0 c1 s3 u3 => ?_
    obtain ⟨d1, d2, d3⟩ := s3.del
    refine ⟨d2, Lw.del _ pw, del_ex d2, w ++ [c], d1, del_at, by simp, by rw [List.length_append, z4]; rfl, byt_app z5 (byt_one ⟨c0, by omega⟩), z6.trans (((u1.trans u2).trans u3).trans d3), by omega⟩
  · rintro acc G' ⟨w, z1, z2, rfl, z4, z5, z6, z7⟩
    exact q pw w _ z5 (by omega) (z1.junk (Ex.new z2)) (z6.trans (Ex.new z2).tx) li_new
end Lw

namespace Lw
open PySem PySem.Spec PyProof.Rows L2
local macro_rules | `(tactic| k_extra "x1") => `(tactic| first
  | with_reducible refine es_seq ?_
  | with_reducible refine es_asg ?_
  | with_reducible refine es_if ?_
  | with_reducible refine es_ret ?_
  | with_reducible refine es_drop ?_
  | with_reducible refine es_next ?_
  | with_reducible refine es_augS ?_
  | with_reducible refine es_fld ?_
  | ((with_reducible show Ee (tVar _) _ _ _); refine ee_var rfl ?_)
  | with_reducible refine ee_c ?_
  | with_reducible refine ee_op ?_
  | with_reducible refine ee_un ?_
  | with_reducible refine eu_neg ?_
  | with_reducible refine ee_cb ?_
  | with_reducible refine ee_call ?_
  | with_reducible refine ea_nil ?_
  | with_reducible refine ea_cons ?_
  | with_reducible refine ee_sl ?_
  | with_reducible refine eo_no ?_
  | with_reducible refine eo_part ?_
  | with_reducible refine ee_tup ?_
  | with_reducible refine ee_lst ?_
  | with_reducible refine et_test ?_
  | with_reducible refine et_tB ?_
  | with_reducible refine et_tru ?_
  | with_reducible refine et_and ?_
  | with_reducible refine et_or ?_
  | with_reducible refine et_not ?_
  | with_reducible refine ee_and ?_
  | with_reducible refine ee_or ?_
  | with_reducible refine ee_not ?_
  | with_reducible refine ee_if ?_
  | with_reducible refine ee_chain ?_
  | with_reducible refine er_addI ?_
  | with_reducible refine er_subI ?_
  | with_reducible refine er_eqI ?_
  | with_reducible refine er_neI ?_
  | with_reducible refine er_eqNI ?_
  | with_reducible refine er_eqS ?_
  | with_reducible refine er_neS ?_
  | with_reducible refine er_eqB ?_
  | with_reducible refine er_neB ?_
  | with_reducible refine er_lt ?_
  | with_reducible refine er_le ?_
  | with_reducible refine er_gt ?_
  | with_reducible refine er_ge ?_
  | with_reducible refine er_isN_non ?_
  | with_reducible refine er_isN_bl ?_
  | with_reducible refine er_isN_int ?_
  | with_reducible refine er_isN_str ?_
  | with_reducible refine er_isN_ref ?_
  | with_reducible refine er_notN_non ?_
  | with_reducible refine er_notN_bl ?_
  | with_reducible refine er_notN_int ?_
  | with_reducible refine er_notN_str ?_
  | with_reducible refine er_notN_ref ?_
  | with_reducible refine er_isN ?_
  | with_reducible refine er_notN ?_
  | with_reducible refine ec_int ?_
  | with_reducible refine ec_intB ?_
  | with_reducible refine ec_max2 ?_
  | with_reducible refine ec_min2 ?_
  | with_reducible refine ip_I ?_
  | ((with_reducible refine eg_name ?_); (try dsimp only [L2.wipe, List.set_cons_zero, List.set_cons_succ]))
  | with_reducible refine eg_sub ?_
  | with_reducible refine egs_cons ?_
  | with_reducible refine egs_nil ?_
  | with_reducible refine tru_bl ?_
  | with_reducible refine tru_int ?_
  | with_reducible refine tru_non ?_
  | with_reducible refine iteT ?_
  | with_reducible refine iteF ?_
  | with_reducible refine ite_nt ?_
  | with_reducible refine ite_nf ?_
  | with_reducible refine ⟨_, rfl, ?_⟩)
local macro_rules | `(tactic| k_extra "s") => `(tactic| ((first | k_extra "x1" | ((with_reducible refine es_unf ?_); refine es_seq ?_)); (repeat k_extra "x1")))
local macro_rules | `(tactic| k_extra "x") => `(tactic| (repeat first | k_extra "x1" | ((with_reducible refine es_unf ?_); refine es_seq ?_)))
local macro_rules | `(tactic| k_extra "start") => `(tactic| dsimp only [L2.start, List.map_cons, List.map_nil, List.length_cons, List.length_nil, Nat.reduceAdd, Nat.reduceSub, List.replicate, List.cons_append, List.nil_append, Nat.zero_add])
local macro_rules | `(tactic| k_extra "e1") => `(tactic| first
  | with_reducible refine es_next ?_
  | ((with_reducible show Ee (tVar _) _ _ _); refine ee_var rfl ?_)
  | with_reducible refine ee_c ?_
  | with_reducible refine ee_op ?_
  | with_reducible refine ee_un ?_
  | with_reducible refine eu_neg ?_
  | with_reducible refine ee_cb ?_
  | with_reducible refine ee_call ?_
  | with_reducible refine ea_nil ?_
  | with_reducible refine ea_cons ?_
  | with_reducible refine ee_sl ?_
  | with_reducible refine eo_no ?_
  | with_reducible refine eo_part ?_
  | with_reducible refine ee_tup ?_
  | with_reducible refine ee_lst ?_
  | with_reducible refine et_test ?_
  | with_reducible refine et_tB ?_
  | with_reducible refine et_tru ?_
  | with_reducible refine et_and ?_
  | with_reducible refine et_or ?_
  | with_reducible refine et_not ?_
  | with_reducible refine ee_and ?_
  | with_reducible refine ee_or ?_
  | with_reducible refine ee_not ?_
  | with_reducible refine ee_if ?_
  | with_reducible refine ee_chain ?_
  | with_reducible refine er_addI ?_
  | with_reducible refine er_subI ?_
  | with_reducible refine er_eqI ?_
  | with_reducible refine er_neI ?_
  | with_reducible refine er_eqNI ?_
  | with_reducible refine er_eqS ?_
  | with_reducible refine er_neS ?_
  | with_reducible refine er_eqB ?_
  | with_reducible refine er_neB ?_
  | with_reducible refine er_lt ?_
  | with_reducible refine er_le ?_
  | with_reducible refine er_gt ?_
  | with_reducible refine er_ge ?_
  | with_reducible refine er_isN_non ?_
  | with_reducible refine er_isN_bl ?_
  | with_reducible refine er_isN_int ?_
  | with_reducible refine er_isN_str ?_
  | with_reducible refine er_isN_ref ?_
  | with_reducible refine er_notN_non ?_
  | with_reducible refine er_notN_bl ?_
  | with_reducible refine er_notN_int ?_
  | with_reducible refine er_notN_str ?_
  | with_reducible refine er_notN_ref ?_
  | with_reducible refine er_isN ?_
  | with_reducible refine er_notN ?_
  | with_reducible refine ec_int ?_
  | with_reducible refine ec_intB ?_
  | with_reducible refine ec_max2 ?_
  | with_reducible refine ec_min2 ?_
  | with_reducible refine ip_I ?_
  | ((with_reducible refine eg_name ?_); (try dsimp only [L2.wipe, List.set_cons_zero, List.set_cons_succ]))
  | with_reducible refine eg_sub ?_
  | with_reducible refine egs_cons ?_
  | with_reducible refine egs_nil ?_
  | with_reducible refine tru_bl ?_
  | with_reducible refine tru_int ?_
  | with_reducible refine tru_non ?_
  | with_reducible refine iteT ?_
  | with_reducible refine iteF ?_
  | with_reducible refine ite_nt ?_
  | with_reducible refine ite_nf ?_
  | with_reducible refine ex_bl ?_
  | with_reducible refine ex_int ?_
  | with_reducible refine ex_str ?_
  | with_reducible refine ex_strx ?_
  | with_reducible refine ex_ints1 ?_
  | with_reducible refine ex_ints2 ?_)
local macro_rules | `(tactic| k_extra "t1") => `(tactic| first
  | with_reducible refine es_asg ?_
  | with_reducible refine es_if ?_
  | with_reducible refine es_ret ?_
  | with_reducible refine es_drop ?_
  | with_reducible refine es_augS ?_
  | with_reducible refine es_fld ?_)
local macro_rules | `(tactic| k_extra "e") => `(tactic| first
  | ((with_reducible refine es_seq ?_); (try k_extra "t1"); (repeat k_extra "e1"))
  | (k_extra "t1"; (repeat k_extra "e1"))
  | (k_extra "e1"; (repeat k_extra "e1"))
  | ((with_reducible refine es_unf ?_); (refine es_seq ?_); (try k_extra "t1"); (repeat k_extra "e1")))
def KdQ (K : PySem.W.Frag) (k : Nat) (bs : List Int) (G : Hp) (Q : V → Hp → Prop) : Prop :=
  (rdK k bs = none → ∀ G', Ex G G' → Q .non G') ∧ (∀ th b, rdK k bs = some (th, b) → ∀ G' v, Ex G G' → Dp K G' v (.tuple [th.data, .int (b : Nat)]) → Q v G')
def S__law_own (K : PySem.W.Frag) (A : Ad) : Pm := fun vs G Q _ => ∃ (k : Nat) (pd : Addr) (bs : List Int), vs = [.int (k : Nat), .ref pd] ∧ Li G pd bs ∧ bs.length ≤ 1000000 ∧ NB bs ∧ KdQ K k bs G Q
/-! _law_own -/
def t__law_own_1 (K : PySem.W.Frag) (A : Ad) : TS := tSeq (tIfS (tTest (tOp (rEqU K) (tVar 0) (tC (.int 2)))) (tRet (tCall (up (S__law_read_deed K A)) [] E0 (tCons (tVar 1) (tCons (tC (.int 0)) tNil)))) tNext) (tRet (tIf (tTest (tOp (rEqU K) (tVar 0) (tC (.int 3)))) (tCall (up (S__law_read_triples K A)) [] E0 (tCons (tVar 1) (tCons (tC (.int 0)) tNil))) (tCall (up (S__law_read_packet K A)) [] E0 (tCons (tVar 1) (tCons (tC (.int 0)) tNil)))))
def t__law_own_2 (K : PySem.W.Frag) (A : Ad) : TS := tSeq (tIfS (tTest (tOp (rEqU K) (tVar 0) (tC (.int 1)))) (tRet (tCall (up (S__law_read_text K A)) [] E0 (tCons (tVar 1) (tCons (tC (.int 0)) tNil)))) tNext) (t__law_own_1 K A)
def t__law_own (K : PySem.W.Frag) (A : Ad) : TS := tSeq (tIfS (tTest (tOp (rEqU K) (tVar 0) (tC (.int 0)))) (tRet (tCall (up (S__law_read_number K A)) [] E0 (tCons (tVar 1) (tCons (tC (.int 0)) tNil)))) tNext) (t__law_own_2 K A)
theorem len__law_own {K : PySem.W.Frag} {A : Ad} : ∀ vs G Q E, S__law_own K A vs G Q E → vs.length = ["kind", "data"].length := by
  rintro vs G Q E ⟨k, pd, bs, rfl, _⟩; rfl
theorem rf_kd {α : Type} {K : PySem.W.Frag} {R : Hp → V → α → Prop} {f : Rdr α} {g : α → Th} {k : Nat} {bs : List Int} {G : Hp} {Q : V → Hp → Prop} (e : rdK k bs = (f bs 0).map fun x => (g x.1, x.2)) (hR : ∀ G v r, R G v r → Dp K G v (g r).data) (h : KdQ K k bs G Q) : RfQ K R f bs 0 G Q :=
  ⟨fun hn => h.1 (by rw [e, hn]; rfl), fun r b hs G' t v x ht hv => h.2 (g r) b (by rw [e, hs]; rfl) G' (.ref t) x (.tup ht (.cons (hR _ _ _ hv) (.cons (.int _) .nil)))⟩
theorem RTs_dp {K : PySem.W.Frag} : ∀ G v r, RTs K G v r → Dp K G v (Th.tris r).data := by
  rintro G v r ⟨l, xs, rfl, h1, h2⟩
  exact .lst (SqL.of h1) h2.dps
theorem ok__law_own {K : PySem.W.Frag} {A : Ad} : ∀ vs G Q E, S__law_own K A vs G Q E → Es (t__law_own K A) { nx := fun _ G' => Q .non G', rt := Q } (L2.start ["kind", "data"] vs) G := by
  rintro vs G Q E ⟨k, pd, bs, rfl, hd, hl, hnb, q⟩
  change Es _ _ (_ :: _ :: []) _
  k_extra "e"
  refine ifd (fun h => ?_) (fun h0 => ?_)
  · obtain rfl : k = 0 := by omega
    k_extra "e"
    exact ⟨pd, bs, 0, rfl, hd, hl, hnb, rf_kd (g := .num) rfl (fun _ _ _ h => by cases h; exact .int _) q⟩
  k_extra "e"
  k_extra "e"
  refine ifd (fun h => ?_) (fun h1 => ?_)
  · obtain rfl : k = 1 := by omega
    k_extra "e"
    exact ⟨pd, bs, 0, rfl, hd, hl, hnb, rf_kd (g := .txt) rfl (fun _ _ _ h => by cases h; exact .str _) q⟩
  k_extra "e"
  k_extra "e"
  refine ifd (fun h => ?_) (fun h2 => ?_)
  · obtain rfl : k = 2 := by omega
    k_extra "e"
    exact ⟨pd, bs, 0, rfl, hd, hl, hnb, rf_kd (g := .deed) rfl (fun _ _ _ h => h.dp) q⟩
  k_extra "e"
  k_extra "e"
  refine ifd (fun h => ?_) (fun h3 => ?_)
  · obtain rfl : k = 3 := by omega
    k_extra "e"
    exact ⟨pd, bs, 0, rfl, hd, hl, hnb, rf_kd (g := .tris) rfl RTs_dp q⟩
  · k_extra "e"
    refine ⟨pd, bs, 0, rfl, hd, hl, hnb, rf_kd (g := .tris) ?_ RTs_dp q⟩
    match k, h0, h1, h2, h3 with
    | 0, h, _, _, _ => exact absurd rfl h
    | 1, _, h, _, _ => exact absurd rfl h
    | 2, _, _, h, _ => exact absurd rfl h
    | 3, _, _, _, h => exact absurd rfl h
    | _ + 4, _, _, _, _ => rfl
end Lw

namespace Lw
open PySem PySem.Spec PyProof.Rows L2
local macro_rules | `(tactic| k_extra "x1") => `(tactic| first
  | with_reducible refine es_seq ?_
  | with_reducible refine es_asg ?_
  | with_reducible refine es_if ?_
  | with_reducible refine es_ret ?_
  | with_reducible refine es_drop ?_
  | with_reducible refine es_next ?_
  | with_reducible refine es_augS ?_
  | with_reducible refine es_fld ?_
  | ((with_reducible show Ee (tVar _) _ _ _); refine ee_var rfl ?_)
  | with_reducible refine ee_c ?_
  | with_reducible refine ee_op ?_
  | with_reducible refine ee_un ?_
  | with_reducible refine eu_neg ?_
  | with_reducible refine ee_cb ?_
  | with_reducible refine ee_call ?_
  | with_reducible refine ea_nil ?_
  | with_reducible refine ea_cons ?_
  | with_reducible refine ee_sl ?_
  | with_reducible refine eo_no ?_
  | with_reducible refine eo_part ?_
  | with_reducible refine ee_tup ?_
  | with_reducible refine ee_lst ?_
  | with_reducible refine et_test ?_
  | with_reducible refine et_tB ?_
  | with_reducible refine et_tru ?_
  | with_reducible refine et_and ?_
  | with_reducible refine et_or ?_
  | with_reducible refine et_not ?_
  | with_reducible refine ee_and ?_
  | with_reducible refine ee_or ?_
  | with_reducible refine ee_not ?_
  | with_reducible refine ee_if ?_
  | with_reducible refine ee_chain ?_
  | with_reducible refine er_addI ?_
  | with_reducible refine er_subI ?_
  | with_reducible refine er_eqI ?_
  | with_reducible refine er_neI ?_
  | with_reducible refine er_eqNI ?_
  | with_reducible refine er_eqS ?_
  | with_reducible refine er_neS ?_
  | with_reducible refine er_eqB ?_
  | with_reducible refine er_neB ?_
  | with_reducible refine er_lt ?_
  | with_reducible refine er_le ?_
  | with_reducible refine er_gt ?_
  | with_reducible refine er_ge ?_
  | with_reducible refine er_isN_non ?_
  | with_reducible refine er_isN_bl ?_
  | with_reducible refine er_isN_int ?_
  | with_reducible refine er_isN_str ?_
  | with_reducible refine er_isN_ref ?_
  | with_reducible refine er_notN_non ?_
  | with_reducible refine er_notN_bl ?_
  | with_reducible refine er_notN_int ?_
  | with_reducible refine er_notN_str ?_
  | with_reducible refine er_notN_ref ?_
  | with_reducible refine er_isN ?_
  | with_reducible refine er_notN ?_
  | with_reducible refine ec_int ?_
  | with_reducible refine ec_intB ?_
  | with_reducible refine ec_max2 ?_
  | with_reducible refine ec_min2 ?_
  | with_reducible refine ip_I ?_
  | ((with_reducible refine eg_name ?_); (try dsimp only [L2.wipe, List.set_cons_zero, List.set_cons_succ]))
  | with_reducible refine eg_sub ?_
  | with_reducible refine egs_cons ?_
  | with_reducible refine egs_nil ?_
  | with_reducible refine tru_bl ?_
  | with_reducible refine tru_int ?_
  | with_reducible refine tru_non ?_
  | with_reducible refine iteT ?_
  | with_reducible refine iteF ?_
  | with_reducible refine ite_nt ?_
  | with_reducible refine ite_nf ?_
  | with_reducible refine ⟨_, rfl, ?_⟩)
local macro_rules | `(tactic| k_extra "s") => `(tactic| ((first | k_extra "x1" | ((with_reducible refine es_unf ?_); refine es_seq ?_)); (repeat k_extra "x1")))
local macro_rules | `(tactic| k_extra "x") => `(tactic| (repeat first | k_extra "x1" | ((with_reducible refine es_unf ?_); refine es_seq ?_)))
local macro_rules | `(tactic| k_extra "start") => `(tactic| dsimp only [L2.start, List.map_cons, List.map_nil, List.length_cons, List.length_nil, Nat.reduceAdd, Nat.reduceSub, List.replicate, List.cons_append, List.nil_append, Nat.zero_add])
local macro_rules | `(tactic| k_extra "e1") => `(tactic| first
  | with_reducible refine es_next ?_
  | ((with_reducible show Ee (tVar _) _ _ _); refine ee_var rfl ?_)
  | with_reducible refine ee_c ?_
  | with_reducible refine ee_op ?_
  | with_reducible refine ee_un ?_
  | with_reducible refine eu_neg ?_
  | with_reducible refine ee_cb ?_
  | with_reducible refine ee_call ?_
  | with_reducible refine ea_nil ?_
  | with_reducible refine ea_cons ?_
  | with_reducible refine ee_sl ?_
  | with_reducible refine eo_no ?_
  | with_reducible refine eo_part ?_
  | with_reducible refine ee_tup ?_
  | with_reducible refine ee_lst ?_
  | with_reducible refine et_test ?_
  | with_reducible refine et_tB ?_
  | with_reducible refine et_tru ?_
  | with_reducible refine et_and ?_
  | with_reducible refine et_or ?_
  | with_reducible refine et_not ?_
  | with_reducible refine ee_and ?_
  | with_reducible refine ee_or ?_
  | with_reducible refine ee_not ?_
  | with_reducible refine ee_if ?_
  | with_reducible refine ee_chain ?_
  | with_reducible refine er_addI ?_
  | with_reducible refine er_subI ?_
  | with_reducible refine er_eqI ?_
  | with_reducible refine er_neI ?_
  | with_reducible refine er_eqNI ?_
  | with_reducible refine er_eqS ?_
  | with_reducible refine er_neS ?_
  | with_reducible refine er_eqB ?_
  | with_reducible refine er_neB ?_
  | with_reducible refine er_lt ?_
  | with_reducible refine er_le ?_
  | with_reducible refine er_gt ?_
  | with_reducible refine er_ge ?_
  | with_reducible refine er_isN_non ?_
  | with_reducible refine er_isN_bl ?_
  | with_reducible refine er_isN_int ?_
  | with_reducible refine er_isN_str ?_
  | with_reducible refine er_isN_ref ?_
  | with_reducible refine er_notN_non ?_
  | with_reducible refine er_notN_bl ?_
  | with_reducible refine er_notN_int ?_
  | with_reducible refine er_notN_str ?_
  | with_reducible refine er_notN_ref ?_
  | with_reducible refine er_isN ?_
  | with_reducible refine er_notN ?_
  | with_reducible refine ec_int ?_
  | with_reducible refine ec_intB ?_
  | with_reducible refine ec_max2 ?_
  | with_reducible refine ec_min2 ?_
  | with_reducible refine ip_I ?_
  | ((with_reducible refine eg_name ?_); (try dsimp only [L2.wipe, List.set_cons_zero, List.set_cons_succ]))
  | with_reducible refine eg_sub ?_
  | with_reducible refine egs_cons ?_
  | with_reducible refine egs_nil ?_
  | with_reducible refine tru_bl ?_
  | with_reducible refine tru_int ?_
  | with_reducible refine tru_non ?_
  | with_reducible refine iteT ?_
  | with_reducible refine iteF ?_
  | with_reducible refine ite_nt ?_
  | with_reducible refine ite_nf ?_
  | with_reducible refine ex_bl ?_
  | with_reducible refine ex_int ?_
  | with_reducible refine ex_str ?_
  | with_reducible refine ex_strx ?_
  | with_reducible refine ex_ints1 ?_
  | with_reducible refine ex_ints2 ?_)
local macro_rules | `(tactic| k_extra "t1") => `(tactic| first
  | with_reducible refine es_asg ?_
  | with_reducible refine es_if ?_
  | with_reducible refine es_ret ?_
  | with_reducible refine es_drop ?_
  | with_reducible refine es_augS ?_
  | with_reducible refine es_fld ?_)
local macro_rules | `(tactic| k_extra "e") => `(tactic| first
  | ((with_reducible refine es_seq ?_); (try k_extra "t1"); (repeat k_extra "e1"))
  | (k_extra "t1"; (repeat k_extra "e1"))
  | (k_extra "e1"; (repeat k_extra "e1"))
  | ((with_reducible refine es_unf ?_); (refine es_seq ?_); (try k_extra "t1"); (repeat k_extra "e1")))
def S__law_told (K : PySem.W.Frag) (A : Ad) : Pm := fun vs G Q _ => ∃ (k : Nat) (pd : Addr) (bs : List Int), vs = [.int (k : Nat), .ref pd] ∧ Li G pd bs ∧ bs.length ≤ 1000000 ∧ KdQ K k bs G Q
/-! _law_told -/
def t__law_told_1 (K : PySem.W.Frag) (A : Ad) : TS := tSeq (tTryO K A.cDamagedPacket (fun W => (tSeq (tDrop (tMethW A.cReader "end" (up (S_Reader_end K A)) (WE W) (tVar 2))) (tAsg (tC (.bl true)) (gName 5)))) (tAsg (tC (.bl false)) (gName 5))) (tRet (tIf (tTest (tOp (rEqU K) (tVar 5) (tOp (rEqU K) (tVar 4) (tCB (rLenU K) (tCons (tVar 1) tNil))))) (tTup (tCons (tVar 3) (tCons (tVar 4) tNil))) (tTup (tCons (tC (.str "wrong end")) (tCons (tVar 4) tNil)))))
def t__law_told_2 (K : PySem.W.Frag) (A : Ad) : TS := tSeq (tAsg (tFld K (tVar 2) "at") (gName 4)) (t__law_told_1 K A)
def t__law_told_3 (K : PySem.W.Frag) (A : Ad) : TS := tSeq (tTryO K A.cDamagedPacket (fun W => (tIfS (tTest (tOp (rEqU K) (tVar 0) (tC (.int 0)))) (tAsg (tMethW A.cReader "read_number" (up (S_Reader_read_number K A)) (WE W) (tVar 2)) (gName 3)) (tIfS (tTest (tOp (rEqU K) (tVar 0) (tC (.int 1)))) (tAsg (tMethW A.cReader "read_string" (up (S_Reader_read_string K A)) (WE W) (tVar 2)) (gName 3)) (tIfS (tTest (tOp (rEqU K) (tVar 0) (tC (.int 2)))) (tAsg (tMethW A.cReader "read_deed" (up (S_Reader_read_deed K A)) (WE W) (tVar 2)) (gName 3)) (tIfS (tTest (tOp (rEqU K) (tVar 0) (tC (.int 3)))) (tAsg (tMethW A.cReader "read_triples" (up (S_Reader_read_triples K A)) (WE W) (tVar 2)) (gName 3)) (tAsg (tMethW A.cReader "read_packet" (up (S_Reader_read_packet K A)) (WE W) (tVar 2)) (gName 3))))))) (tRet (tC .non))) (t__law_told_2 K A)
def t__law_told (K : PySem.W.Frag) (A : Ad) : TS := tSeq (tAsg (tMake A.cReader (up (S_Reader_init K A)) [] E0 (tCons (tCB (rListU K) (tCons (tVar 1) tNil)) tNil)) (gName 2)) (t__law_told_3 K A)
theorem len__law_told {K : PySem.W.Frag} {A : Ad} : ∀ vs G Q E, S__law_told K A vs G Q E → vs.length = ["kind", "data"].length := by
  rintro vs G Q E ⟨k, pd, bs, rfl, _⟩; rfl
section
variable {K : PySem.W.Frag} {A : Ad} {G G2 : Hp} {pd x dx p : Addr} {bs : List Int} {k b : Nat} {Q : V → Hp → Prop} {c4 c5 : Option V} {th : Th} {v : V}
theorem told_rest (C : Cf K A) (hd : Li G pd bs) (e : Ex G G2) (hr : Rs A G2 x dx p bs b) (hk : rdK k bs = some (th, b)) (hv : Dp K G2 v th.data) (q : KdQ K k bs G Q) :
    Es (t__law_told_2 K A) { nx := fun _ G' => Q .non G', rt := Q } [some (.int (k : Nat)), some (.ref pd), some (.ref x), some v, c4, c5] G2 := by
  have hle := rdK_le hk
  have fin : ∀ {c : Bool}, c = decide (b = bs.length) → Es (tRet (tIf (tTest (tOp (rEqU K) (tVar 5) (tOp (rEqU K) (tVar 4) (tCB (rLenU K) (tCons (tVar 1) tNil))))) (tTup (tCons (tVar 3) (tCons (tVar 4) tNil))) (tTup (tCons (tC (.str "wrong end")) (tCons (tVar 4) tNil))))) { nx := fun _ G' => Q .non G', rt := Q }
      [some (.int (k : Nat)), some (.ref pd), some (.ref x), some v, some (.int (b : Nat)), some (.bl c)] G2 := fun {c} hc => by
    k_extra "e"
    refine ec_lenL (SqL.of (hd.up e)) fun _ => ?_
    rw [List.length_map]
    k_extra "e"
    refine ift (decide_eq_true ?_) ?_
    · rw [hc]
      by_cases hb : b = bs.length
      · rw [decide_eq_true hb, decide_eq_true (by omega)]
      · rw [decide_eq_false hb, decide_eq_false (by omega)]
    k_extra "e"
    refine ⟨sz1000 (by simp), fun t ht => ?_⟩
    exact q.2 th b hk _ (.ref t) (e.trans (Ex.new ht)) (.tup (SqT.of upd_same) (.cons ((Ex.new ht).dp hv) (.cons (.int _) .nil)))
  k_extra "e"
  refine ee_fld ?_
  k_extra "e"
  refine ⟨x, _, dx, _, _, rfl, hr.g, C.cl, C.n2, rF_at _ _, ?_⟩
  k_extra "e"
  refine es_seq (es_try C.xc fun W hW => ?_)
  dsimp only
  k_extra "e"
  refine ee_methW ?_
  k_extra "e"
  refine ⟨x, dx, _, rfl, hr.g, rF_no (by decide +kernel) (by decide +kernel), x, dx, p, bs, b, rfl, hr, fun hl => ?_, fun hl => dn_we hW ?_⟩
  · k_extra "e"
    exact fin (decide_eq_true (by omega)).symm
  · k_extra "e"
    exact fin (decide_eq_false (by omega)).symm
end
theorem ok__law_told {K : PySem.W.Frag} {A : Ad} (C : Cf K A) : ∀ vs G Q E, S__law_told K A vs G Q E → Es (t__law_told K A) { nx := fun _ G' => Q .non G', rt := Q } (L2.start ["kind", "data", "reader", "found", "at", "ended"] vs) G := by
  rintro vs G Q E ⟨k, pd, bs, rfl, hd, hl, q⟩
  change Es _ _ (_ :: _ :: _ :: _ :: _ :: _ :: []) _
  k_extra "e"
  refine ee_make ?_
  k_extra "e"
  refine ec_list (.inl (SqL.of hd)) fun p0 hp0 => ?_
  k_extra "e"
  intro x dx hx hdx hn
  refine ⟨x, dx, p0, bs, rfl, upd_same, SqL.of (get_ne (get_ne upd_same (ne_new upd_same hdx)) (ne_new upd_same hx)), fun p hp => ⟨rfl, ?_⟩⟩
  have hxp : x ≠ p := ne_new upd_same hp
  have hxG : G x = none := nul_upd (by exact hx)
  have eG : Ex G (upd (upd (upd (upd (upd G p0 (.lst (bs.map V.int))) dx (.own x)) x (.ins A.cReader dx [])) p (.lst (bs.map V.int))) x (.ins A.cReader dx (rF p 0))) :=
    (((((Ex.new hp0).mut (nul_upd hdx)).mut hxG).mut (nul_upd (nul_upd (nul_upd hp)))).mut hxG)
  have hr : Rs A (upd (upd (upd (upd (upd G p0 (.lst (bs.map V.int))) dx (.own x)) x (.ins A.cReader dx [])) p (.lst (bs.map V.int))) x (.ins A.cReader dx (rF p 0))) x dx p bs 0 := ⟨upd_same, get_ne upd_same hxp.symm, hl⟩
  generalize upd (upd (upd (upd (upd G p0 (.lst (bs.map V.int))) dx (.own x)) x (.ins A.cReader dx [])) p (.lst (bs.map V.int))) x (.ins A.cReader dx (rF p 0)) = G1 at eG hr ⊢
  have eA : ∀ {b : Nat} {G' : Hp}, Ex (rAt A G1 x dx p b) G' → Ex G G' := fun e => (eG.mut hxG).trans e
  k_extra "e"
  refine es_seq (es_try C.xc fun W hW => ?_)
  dsimp only
  have fail : rdK k bs = none → ∀ {σ : L2.St} {G' : Hp}, Ex G G' → Es (tRet (tC .non)) { nx := fun σ' G' => Es (t__law_told_2 K A) { nx := fun _ G' => Q .non G', rt := Q } σ' G', rt := Q } σ G' := fun h σ G' e => by
    refine es_ret (ee_c ?_)
    exact q.1 h G' e
  k_extra "e"
  refine ifd (fun h => ?_) (fun h0 => ?_)
  · obtain rfl : k = 0 := by omega
    k_extra "e"
    refine ee_methW ?_
    k_extra "e"
    refine ⟨x, dx, _, rfl, hr.g, rF_no (by decide +kernel) (by decide +kernel), x, dx, p, bs, 0, rfl, hr, fun r b v G' h e hv => ?_, fun h b G' e => dn_we hW (fail (by rw [show rdK _ bs = (rdN bs 0).map (fun x => (Th.num x.1, x.2)) from rfl, h]; rfl) (eA e))⟩
    k_extra "e"
    exact told_rest (th := Th.num r) C hd (eA e) (hr.next e) (by rw [show rdK _ bs = (rdN bs 0).map (fun x => (Th.num x.1, x.2)) from rfl, h]; rfl) (by cases hv; exact .int _) q
  k_extra "e"
  refine ifd (fun h => ?_) (fun h1 => ?_)
  · obtain rfl : k = 1 := by omega
    k_extra "e"
    refine ee_methW ?_
    k_extra "e"
    refine ⟨x, dx, _, rfl, hr.g, rF_no (by decide +kernel) (by decide +kernel), x, dx, p, bs, 0, rfl, hr, fun r b v G' h e hv => ?_, fun h b G' e => dn_we hW (fail (by rw [show rdK _ bs = (rdS bs 0).map (fun x => (Th.txt x.1, x.2)) from rfl, h]; rfl) (eA e))⟩
    k_extra "e"
    exact told_rest (th := Th.txt r) C hd (eA e) (hr.next e) (by rw [show rdK _ bs = (rdS bs 0).map (fun x => (Th.txt x.1, x.2)) from rfl, h]; rfl) (by cases hv; exact .str _) q
  k_extra "e"
  refine ifd (fun h => ?_) (fun h2 => ?_)
  · obtain rfl : k = 2 := by omega
    k_extra "e"
    refine ee_methW ?_
    k_extra "e"
    refine ⟨x, dx, _, rfl, hr.g, rF_no (by decide +kernel) (by decide +kernel), x, dx, p, bs, 0, rfl, hr, fun r b v G' h e hv => ?_, fun h b G' e => dn_we hW (fail (by rw [show rdK _ bs = (rdD bs 0).map (fun x => (Th.deed x.1, x.2)) from rfl, h]; rfl) (eA e))⟩
    k_extra "e"
    exact told_rest (th := Th.deed r) C hd (eA e) (hr.next e) (by rw [show rdK _ bs = (rdD bs 0).map (fun x => (Th.deed x.1, x.2)) from rfl, h]; rfl) (Im.dp hv) q
  k_extra "e"
  refine ifd (fun h => ?_) (fun h3 => ?_)
  · obtain rfl : k = 3 := by omega
    k_extra "e"
    refine ee_methW ?_
    k_extra "e"
    refine ⟨x, dx, _, rfl, hr.g, rF_no (by decide +kernel) (by decide +kernel), x, dx, p, bs, 0, rfl, hr, fun r b v G' h e hv => ?_, fun h b G' e => dn_we hW (fail (by rw [show rdK _ bs = (rdTs bs 0).map (fun x => (Th.tris x.1, x.2)) from rfl, h]; rfl) (eA e))⟩
    k_extra "e"
    exact told_rest (th := Th.tris r) C hd (eA e) (hr.next e) (by rw [show rdK _ bs = (rdTs bs 0).map (fun x => (Th.tris x.1, x.2)) from rfl, h]; rfl) (RTs_dp _ _ _ hv) q
  · have e4 : rdK k bs = (rdP bs 0).map (fun x => (Th.tris x.1, x.2)) := by
      match k, h0, h1, h2, h3 with
      | 0, h, _, _, _ => exact absurd rfl h
      | 1, _, h, _, _ => exact absurd rfl h
      | 2, _, _, h, _ => exact absurd rfl h
      | 3, _, _, _, h => exact absurd rfl h
      | _ + 4, _, _, _, _ => rfl
    k_extra "e"
    refine ee_methW ?_
    k_extra "e"
    refine ⟨x, dx, _, rfl, hr.g, rF_no (by decide +kernel) (by decide +kernel), x, dx, p, bs, 0, rfl, hr, fun r b v G' h e hv => ?_, fun h b G' e => dn_we hW (fail (by rw [e4, h]; rfl) (eA e))⟩
    k_extra "e"
    exact told_rest (th := Th.tris r) C hd (eA e) (hr.next e) (by rw [e4, h]; rfl) (RTs_dp _ _ _ hv) q
end Lw

namespace Lw
open PySem PySem.Spec PyProof.Rows L2
local macro_rules | `(tactic| k_extra "x1") => `(tactic| first
  | with_reducible refine es_seq ?_
  | with_reducible refine es_asg ?_
  | with_reducible refine es_if ?_
  | with_reducible refine es_ret ?_
  | with_reducible refine es_drop ?_
  | with_reducible refine es_next ?_
  | with_reducible refine es_augS ?_
  | with_reducible refine es_fld ?_
  | ((with_reducible show Ee (tVar _) _ _ _); refine ee_var rfl ?_)
  | with_reducible refine ee_c ?_
  | with_reducible refine ee_op ?_
  | with_reducible refine ee_un ?_
  | with_reducible refine eu_neg ?_
  | with_reducible refine ee_cb ?_
  | with_reducible refine ee_call ?_
  | with_reducible refine ea_nil ?_
  | with_reducible refine ea_cons ?_
  | with_reducible refine ee_sl ?_
  | with_reducible refine eo_no ?_
  | with_reducible refine eo_part ?_
  | with_reducible refine ee_tup ?_
  | with_reducible refine ee_lst ?_
  | with_reducible refine et_test ?_
  | with_reducible refine et_tB ?_
  | with_reducible refine et_tru ?_
  | with_reducible refine et_and ?_
  | with_reducible refine et_or ?_
  | with_reducible refine et_not ?_
  | with_reducible refine ee_and ?_
  | with_reducible refine ee_or ?_
  | with_reducible refine ee_not ?_
  | with_reducible refine ee_if ?_
  | with_reducible refine ee_chain ?_
  | with_reducible refine er_addI ?_
  | with_reducible refine er_subI ?_
  | with_reducible refine er_eqI ?_
  | with_reducible refine er_neI ?_
  | with_reducible refine er_eqNI ?_
  | with_reducible refine er_eqS ?_
  | with_reducible refine er_neS ?_
  | with_reducible refine er_eqB ?_
  | with_reducible refine er_neB ?_
  | with_reducible refine er_lt ?_
  | with_reducible refine er_le ?_
  | with_reducible refine er_gt ?_
  | with_reducible refine er_ge ?_
  | with_reducible refine er_isN_non ?_
  | with_reducible refine er_isN_bl ?_
  | with_reducible refine er_isN_int ?_
  | with_reducible refine er_isN_str ?_
  | with_reducible refine er_isN_ref ?_
  | with_reducible refine er_notN_non ?_
  | with_reducible refine er_notN_bl ?_
  | with_reducible refine er_notN_int ?_
  | with_reducible refine er_notN_str ?_
  | with_reducible refine er_notN_ref ?_
  | with_reducible refine er_isN ?_
  | with_reducible refine er_notN ?_
  | with_reducible refine ec_int ?_
  | with_reducible refine ec_intB ?_
  | with_reducible refine ec_max2 ?_
  | with_reducible refine ec_min2 ?_
  | with_reducible refine ip_I ?_
  | ((with_reducible refine eg_name ?_); (try dsimp only [L2.wipe, List.set_cons_zero, List.set_cons_succ]))
  | with_reducible refine eg_sub ?_
  | with_reducible refine egs_cons ?_
  | with_reducible refine egs_nil ?_
  | with_reducible refine tru_bl ?_
  | with_reducible refine tru_int ?_
  | with_reducible refine tru_non ?_
  | with_reducible refine iteT ?_
  | with_reducible refine iteF ?_
  | with_reducible refine ite_nt ?_
  | with_reducible refine ite_nf ?_
  | with_reducible refine ⟨_, rfl, ?_⟩)
local macro_rules | `(tactic| k_extra "s") => `(tactic| ((first | k_extra "x1" | ((with_reducible refine es_unf ?_); refine es_seq ?_)); (repeat k_extra "x1")))
local macro_rules | `(tactic| k_extra "x") => `(tactic| (repeat first | k_extra "x1" | ((with_reducible refine es_unf ?_); refine es_seq ?_)))
local macro_rules | `(tactic| k_extra "start") => `(tactic| dsimp only [L2.start, List.map_cons, List.map_nil, List.length_cons, List.length_nil, Nat.reduceAdd, Nat.reduceSub, List.replicate, List.cons_append, List.nil_append, Nat.zero_add])
local macro_rules | `(tactic| k_extra "e1") => `(tactic| first
  | with_reducible refine es_next ?_
  | ((with_reducible show Ee (tVar _) _ _ _); refine ee_var rfl ?_)
  | with_reducible refine ee_c ?_
  | with_reducible refine ee_op ?_
  | with_reducible refine ee_un ?_
  | with_reducible refine eu_neg ?_
  | with_reducible refine ee_cb ?_
  | with_reducible refine ee_call ?_
  | with_reducible refine ea_nil ?_
  | with_reducible refine ea_cons ?_
  | with_reducible refine ee_sl ?_
  | with_reducible refine eo_no ?_
  | with_reducible refine eo_part ?_
  | with_reducible refine ee_tup ?_
  | with_reducible refine ee_lst ?_
  | with_reducible refine et_test ?_
  | with_reducible refine et_tB ?_
  | with_reducible refine et_tru ?_
  | with_reducible refine et_and ?_
  | with_reducible refine et_or ?_
  | with_reducible refine et_not ?_
  | with_reducible refine ee_and ?_
  | with_reducible refine ee_or ?_
  | with_reducible refine ee_not ?_
  | with_reducible refine ee_if ?_
  | with_reducible refine ee_chain ?_
  | with_reducible refine er_addI ?_
  | with_reducible refine er_subI ?_
  | with_reducible refine er_eqI ?_
  | with_reducible refine er_neI ?_
  | with_reducible refine er_eqNI ?_
  | with_reducible refine er_eqS ?_
  | with_reducible refine er_neS ?_
  | with_reducible refine er_eqB ?_
  | with_reducible refine er_neB ?_
  | with_reducible refine er_lt ?_
  | with_reducible refine er_le ?_
  | with_reducible refine er_gt ?_
  | with_reducible refine er_ge ?_
  | with_reducible refine er_isN_non ?_
  | with_reducible refine er_isN_bl ?_
  | with_reducible refine er_isN_int ?_
  | with_reducible refine er_isN_str ?_
  | with_reducible refine er_isN_ref ?_
  | with_reducible refine er_notN_non ?_
  | with_reducible refine er_notN_bl ?_
  | with_reducible refine er_notN_int ?_
  | with_reducible refine er_notN_str ?_
  | with_reducible refine er_notN_ref ?_
  | with_reducible refine er_isN ?_
  | with_reducible refine er_notN ?_
  | with_reducible refine ec_int ?_
  | with_reducible refine ec_intB ?_
  | with_reducible refine ec_max2 ?_
  | with_reducible refine ec_min2 ?_
  | with_reducible refine ip_I ?_
  | ((with_reducible refine eg_name ?_); (try dsimp only [L2.wipe, List.set_cons_zero, List.set_cons_succ]))
  | with_reducible refine eg_sub ?_
  | with_reducible refine egs_cons ?_
  | with_reducible refine egs_nil ?_
  | with_reducible refine tru_bl ?_
  | with_reducible refine tru_int ?_
  | with_reducible refine tru_non ?_
  | with_reducible refine iteT ?_
  | with_reducible refine iteF ?_
  | with_reducible refine ite_nt ?_
  | with_reducible refine ite_nf ?_
  | with_reducible refine ex_bl ?_
  | with_reducible refine ex_int ?_
  | with_reducible refine ex_str ?_
  | with_reducible refine ex_strx ?_
  | with_reducible refine ex_ints1 ?_
  | with_reducible refine ex_ints2 ?_)
local macro_rules | `(tactic| k_extra "t1") => `(tactic| first
  | with_reducible refine es_asg ?_
  | with_reducible refine es_if ?_
  | with_reducible refine es_ret ?_
  | with_reducible refine es_drop ?_
  | with_reducible refine es_augS ?_
  | with_reducible refine es_fld ?_)
local macro_rules | `(tactic| k_extra "e") => `(tactic| first
  | ((with_reducible refine es_seq ?_); (try k_extra "t1"); (repeat k_extra "e1"))
  | (k_extra "t1"; (repeat k_extra "e1"))
  | (k_extra "e1"; (repeat k_extra "e1"))
  | ((with_reducible refine es_unf ?_); (refine es_seq ?_); (try k_extra "t1"); (repeat k_extra "e1")))
/-- what is written of the five things, one after another -/
def wrTh (n : Int) (s : List Nat) (d : Dd) (ts : List Tri) : List (List Int) := [wrN n.toNat, wrS s, wrD d, wrTs ts, wrP ts]
def S__law_in_a_row (K : PySem.W.Frag) (A : Ad) : Pm := fun vs G Q _ => ∃ (pt pw : Addr) (us : List V) (n : Int) (s : List Nat) (d : Dd) (ts : List Tri), vs = [.ref pt, .ref pw] ∧ Dp K G (.ref pt) (.list [.int n, .str (mkS s), d.data, .list (ts.map triD), .list (ts.map triD)]) ∧
  G pw = some (.lst us) ∧ Els G us (wrTh n s d ts) ∧ Big n ∧ TxOk s ∧ DOk d ∧ (∀ t ∈ ts, TOk t) ∧ ((wrTh n s d ts).flatten).length ≤ 500000 ∧ ∀ G', Ex G G' → Q (.bl true) G'
def S__law_same (K : PySem.W.Frag) (A : Ad) : Pm := Sn__law_same K A 8
theorem same_call {K : PySem.W.Frag} {A : Ad} {G : Hp} {a e : V} {d : PyData} {Q : V → Hp → Prop} {E : XK} (h1 : Dp K G a d) (h2 : Dp K G e d) (hd : d.depth < 8) (q : Q (.bl true) G) : S__law_same K A [a, e] G Q E := ⟨a, e, d, rfl, h1, h2, hd, q⟩
/-! _law_in_a_row -/
def t__law_in_a_row_1 (K : PySem.W.Frag) (A : Ad) : TS := tSeq (tDrop (tMeth A.cReader "end" (up (S_Reader_end K A)) [] E0 (tVar 4) tNil)) (tRet (tCall (up (S__law_same K A)) [] E0 (tCons (tVar 5) (tCons (tVar 0) tNil))))
def t__law_in_a_row_2 (K : PySem.W.Frag) (A : Ad) : TS := tSeq (tAsg (tLst (tCons (tMeth A.cReader "read_number" (up (S_Reader_read_number K A)) [] E0 (tVar 4) tNil) (tCons (tMeth A.cReader "read_string" (up (S_Reader_read_string K A)) [] E0 (tVar 4) tNil) (tCons (tMeth A.cReader "read_deed" (up (S_Reader_read_deed K A)) [] E0 (tVar 4) tNil) (tCons (tMeth A.cReader "read_triples" (up (S_Reader_read_triples K A)) [] E0 (tVar 4) tNil) (tCons (tMeth A.cReader "read_packet" (up (S_Reader_read_packet K A)) [] E0 (tVar 4) tNil) tNil)))))) (gName 5)) (t__law_in_a_row_1 K A)
def t__law_in_a_row_3 (K : PySem.W.Frag) (A : Ad) : TS := tSeq (tIfS (tTest (tOp (rNeU K) (tFld K (tVar 4) "at") (tC (.int 0)))) (tRet (tC (.bl false))) tNext) (t__law_in_a_row_2 K A)
def t__law_in_a_row_4 (K : PySem.W.Frag) (A : Ad) : TS := tSeq (tDrop (tBM K "list" (rAppend) (tVar 2) (tCons (tC (.int 7)) tNil))) (t__law_in_a_row_3 K A)
def t__law_in_a_row_5 (K : PySem.W.Frag) (A : Ad) : TS := tSeq (tAsg (tMake A.cReader (up (S_Reader_init K A)) [] E0 (tCons (tVar 2) tNil)) (gName 4)) (t__law_in_a_row_4 K A)
def t__law_in_a_row_6 (K : PySem.W.Frag) (A : Ad) : TS := tSeq (tFor (iList K (tVar 1)) (gName 3) (tAsg (tOp (rAddU K) (tVar 2) (tVar 3)) (gName 2))) (t__law_in_a_row_5 K A)
def t__law_in_a_row (K : PySem.W.Frag) (A : Ad) : TS := tSeq (tAsg (tLst tNil) (gName 2)) (t__law_in_a_row_6 K A)
theorem len__law_in_a_row {K : PySem.W.Frag} {A : Ad} : ∀ vs G Q E, S__law_in_a_row K A vs G Q E → vs.length = ["things", "written"].length := by
  rintro vs G Q E ⟨pt, pw, us, n, s, d, ts, rfl, _⟩; rfl
theorem marks_dep : ∀ ms : List (Int × Int), PyData.depthAll (ms.map mkD) ≤ 1
  | [] => by simp [PyData.depthAll]
  | m :: r => by
    have := marks_dep r
    rw [List.map_cons]
    simp only [PyData.depthAll, PyData.depth, mkD]
    omega
theorem deed_dep (d : Dd) : d.data.depth ≤ 3 := by
  cases d with
  | back n => simp [Dd.data, PyData.depth, PyData.depthAll]
  | change m rm bh n t =>
    have := marks_dep rm
    have hb : (bhD bh).depth ≤ 1 := by cases bh <;> simp [bhD, mkD, PyData.depth, PyData.depthAll]
    simp only [Dd.data, PyData.depth, PyData.depthAll]
    omega
theorem tris_dep : ∀ ts : List Tri, PyData.depthAll (ts.map triD) ≤ 4
  | [] => by simp [PyData.depthAll]
  | t :: r => by
    have := tris_dep r
    have := deed_dep t.2.2
    rw [List.map_cons]
    simp only [PyData.depthAll, PyData.depth, triD]
    omega
theorem things_dep (n : Int) (s : List Nat) (d : Dd) (ts : List Tri) : (PyData.list [.int n, .str (mkS s), d.data, .list (ts.map triD), .list (ts.map triD)]).depth < 8 := by
  have := tris_dep ts
  have := deed_dep d
  simp only [PyData.depth, PyData.depthAll]
  omega
end Lw

namespace Lw
open PySem PySem.Spec PyProof.Rows L2
local macro_rules | `(tactic| k_extra "x1") => `(tactic| first
  | with_reducible refine es_seq ?_
  | with_reducible refine es_asg ?_
  | with_reducible refine es_if ?_
  | with_reducible refine es_ret ?_
  | with_reducible refine es_drop ?_
  | with_reducible refine es_next ?_
  | with_reducible refine es_augS ?_
  | with_reducible refine es_fld ?_
  | ((with_reducible show Ee (tVar _) _ _ _); refine ee_var rfl ?_)
  | with_reducible refine ee_c ?_
  | with_reducible refine ee_op ?_
  | with_reducible refine ee_un ?_
  | with_reducible refine eu_neg ?_
  | with_reducible refine ee_cb ?_
  | with_reducible refine ee_call ?_
  | with_reducible refine ea_nil ?_
  | with_reducible refine ea_cons ?_
  | with_reducible refine ee_sl ?_
  | with_reducible refine eo_no ?_
  | with_reducible refine eo_part ?_
  | with_reducible refine ee_tup ?_
  | with_reducible refine ee_lst ?_
  | with_reducible refine et_test ?_
  | with_reducible refine et_tB ?_
  | with_reducible refine et_tru ?_
  | with_reducible refine et_and ?_
  | with_reducible refine et_or ?_
  | with_reducible refine et_not ?_
  | with_reducible refine ee_and ?_
  | with_reducible refine ee_or ?_
  | with_reducible refine ee_not ?_
  | with_reducible refine ee_if ?_
  | with_reducible refine ee_chain ?_
  | with_reducible refine er_addI ?_
  | with_reducible refine er_subI ?_
  | with_reducible refine er_eqI ?_
  | with_reducible refine er_neI ?_
  | with_reducible refine er_eqNI ?_
  | with_reducible refine er_eqS ?_
  | with_reducible refine er_neS ?_
  | with_reducible refine er_eqB ?_
  | with_reducible refine er_neB ?_
  | with_reducible refine er_lt ?_
  | with_reducible refine er_le ?_
  | with_reducible refine er_gt ?_
  | with_reducible refine er_ge ?_
  | with_reducible refine er_isN_non ?_
  | with_reducible refine er_isN_bl ?_
  | with_reducible refine er_isN_int ?_
  | with_reducible refine er_isN_str ?_
  | with_reducible refine er_isN_ref ?_
  | with_reducible refine er_notN_non ?_
  | with_reducible refine er_notN_bl ?_
  | with_reducible refine er_notN_int ?_
  | with_reducible refine er_notN_str ?_
  | with_reducible refine er_notN_ref ?_
  | with_reducible refine er_isN ?_
  | with_reducible refine er_notN ?_
  | with_reducible refine ec_int ?_
  | with_reducible refine ec_intB ?_
  | with_reducible refine ec_max2 ?_
  | with_reducible refine ec_min2 ?_
  | with_reducible refine ip_I ?_
  | ((with_reducible refine eg_name ?_); (try dsimp only [L2.wipe, List.set_cons_zero, List.set_cons_succ]))
  | with_reducible refine eg_sub ?_
  | with_reducible refine egs_cons ?_
  | with_reducible refine egs_nil ?_
  | with_reducible refine tru_bl ?_
  | with_reducible refine tru_int ?_
  | with_reducible refine tru_non ?_
  | with_reducible refine iteT ?_
  | with_reducible refine iteF ?_
  | with_reducible refine ite_nt ?_
  | with_reducible refine ite_nf ?_
  | with_reducible refine ⟨_, rfl, ?_⟩)
local macro_rules | `(tactic| k_extra "s") => `(tactic| ((first | k_extra "x1" | ((with_reducible refine es_unf ?_); refine es_seq ?_)); (repeat k_extra "x1")))
local macro_rules | `(tactic| k_extra "x") => `(tactic| (repeat first | k_extra "x1" | ((with_reducible refine es_unf ?_); refine es_seq ?_)))
local macro_rules | `(tactic| k_extra "start") => `(tactic| dsimp only [L2.start, List.map_cons, List.map_nil, List.length_cons, List.length_nil, Nat.reduceAdd, Nat.reduceSub, List.replicate, List.cons_append, List.nil_append, Nat.zero_add])
local macro_rules | `(tactic| k_extra "e1") => `(tactic| first
  | with_reducible refine es_next ?_
  | ((with_reducible show Ee (tVar _) _ _ _); refine ee_var rfl ?_)
  | with_reducible refine ee_c ?_
  | with_reducible refine ee_op ?_
  | with_reducible refine ee_un ?_
  | with_reducible refine eu_neg ?_
  | with_reducible refine ee_cb ?_
  | with_reducible refine ee_call ?_
  | with_reducible refine ea_nil ?_
  | with_reducible refine ea_cons ?_
  | with_reducible refine ee_sl ?_
  | with_reducible refine eo_no ?_
  | with_reducible refine eo_part ?_
  | with_reducible refine ee_tup ?_
  | with_reducible refine ee_lst ?_
  | with_reducible refine et_test ?_
  | with_reducible refine et_tB ?_
  | with_reducible refine et_tru ?_
  | with_reducible refine et_and ?_
  | with_reducible refine et_or ?_
  | with_reducible refine et_not ?_
  | with_reducible refine ee_and ?_
  | with_reducible refine ee_or ?_
  | with_reducible refine ee_not ?_
  | with_reducible refine ee_if ?_
  | with_reducible refine ee_chain ?_
  | with_reducible refine er_addI ?_
  | with_reducible refine er_subI ?_
  | with_reducible refine er_eqI ?_
  | with_reducible refine er_neI ?_
  | with_reducible refine er_eqNI ?_
  | with_reducible refine er_eqS ?_
  | with_reducible refine er_neS ?_
  | with_reducible refine er_eqB ?_
  | with_reducible refine er_neB ?_
  | with_reducible refine er_lt ?_
  | with_reducible refine er_le ?_
  | with_reducible refine er_gt ?_
  | with_reducible refine er_ge ?_
  | with_reducible refine er_isN_non ?_
  | with_reducible refine er_isN_bl ?_
  | with_reducible refine er_isN_int ?_
  | with_reducible refine er_isN_str ?_
  | with_reducible refine er_isN_ref ?_
  | with_reducible refine er_notN_non ?_
  | with_reducible refine er_notN_bl ?_
  | with_reducible refine er_notN_int ?_
  | with_reducible refine er_notN_str ?_
  | with_reducible refine er_notN_ref ?_
  | with_reducible refine er_isN ?_
  | with_reducible refine er_notN ?_
  | with_reducible refine ec_int ?_
  | with_reducible refine ec_intB ?_
  | with_reducible refine ec_max2 ?_
  | with_reducible refine ec_min2 ?_
  | with_reducible refine ip_I ?_
  | ((with_reducible refine eg_name ?_); (try dsimp only [L2.wipe, List.set_cons_zero, List.set_cons_succ]))
  | with_reducible refine eg_sub ?_
  | with_reducible refine egs_cons ?_
  | with_reducible refine egs_nil ?_
  | with_reducible refine tru_bl ?_
  | with_reducible refine tru_int ?_
  | with_reducible refine tru_non ?_
  | with_reducible refine iteT ?_
  | with_reducible refine iteF ?_
  | with_reducible refine ite_nt ?_
  | with_reducible refine ite_nf ?_
  | with_reducible refine ex_bl ?_
  | with_reducible refine ex_int ?_
  | with_reducible refine ex_str ?_
  | with_reducible refine ex_strx ?_
  | with_reducible refine ex_ints1 ?_
  | with_reducible refine ex_ints2 ?_)
local macro_rules | `(tactic| k_extra "t1") => `(tactic| first
  | with_reducible refine es_asg ?_
  | with_reducible refine es_if ?_
  | with_reducible refine es_ret ?_
  | with_reducible refine es_drop ?_
  | with_reducible refine es_augS ?_
  | with_reducible refine es_fld ?_)
local macro_rules | `(tactic| k_extra "e") => `(tactic| first
  | ((with_reducible refine es_seq ?_); (try k_extra "t1"); (repeat k_extra "e1"))
  | (k_extra "t1"; (repeat k_extra "e1"))
  | (k_extra "e1"; (repeat k_extra "e1"))
  | ((with_reducible refine es_unf ?_); (refine es_seq ?_); (try k_extra "t1"); (repeat k_extra "e1")))
theorem ok__law_in_a_row {K : PySem.W.Frag} {A : Ad} (C : Cf K A) : ∀ vs G Q E, S__law_in_a_row K A vs G Q E → Es (t__law_in_a_row K A) { nx := fun _ G' => Q .non G', rt := Q } (L2.start ["things", "written", "data", "part", "reader", "told"] vs) G := by
  rintro vs G Q E ⟨pt, pw, us, n, s, d, ts, rfl, hT, hw, hE, hn, hs, hd, hts, hl, q⟩
  change Es _ _ (_ :: _ :: _ :: _ :: _ :: _ :: []) _
  k_extra "e"
  refine ⟨Nat.zero_le _, fun p0 hp0 => ?_⟩
  k_extra "e"
  refine es_seq (es_forL (K := K) ?_)
  k_extra "e"
  refine ⟨pw, us, rfl, SqL.of (get_new hw hp0), fun i σ G' => ∃ G2 p c, σ = [some (.ref pt), some (.ref pw), some (.ref p), c, none, none] ∧ Ex G G2 ∧ G2 p = none ∧ G' = upd G2 p (.lst (((wrTh n s d ts).take i).flatten.map V.int)), ⟨G, p0, _, rfl, Ex.refl _, hp0, rfl⟩, ?_, ?_, ?_⟩
  · rintro i σ G' ⟨G2, p, c, rfl, x1, x2, rfl⟩
    exact SqL.of (get_new (x1 _ _ hw) x2)
  · rintro i v σ G' hv ⟨G2, p, c, rfl, x1, x2, rfl⟩
    obtain ⟨r, w, rfl, hw2, hr⟩ := hE.get hv
    have hr2 := (x1.trans (Ex.new (o := .lst (((wrTh n s d ts).take i).flatten.map V.int)) x2)) _ _ hr
    have h1 := take_flat (ds := wrTh n s d ts) i
    have h2 := flat_item hw2
    k_extra "e"
    k_extra "e"
    refine er_li (li_new) hr2 (by omega) fun p2 hp2 => ?_
    k_extra "e"
    refine ⟨_, p2, _, rfl, x1.trans (Ex.new x2), hp2, ?_⟩
    rw [take_next hw2, List.flatten_append]
    simp
  rintro σ G' ⟨G2, p, c, rfl, x1, x2, rfl⟩
  rw [hE.len, List.take_length]
  generalize hbs : (wrTh n s d ts).flatten = bs at hl ⊢
  have hx : G p = none := x1.nul x2
  k_extra "e"
  refine ee_make ?_
  k_extra "e"
  intro x dx hx0 hdx hnx
  have gp : upd (upd (upd G2 p (.lst (bs.map V.int))) dx (.own x)) x (.ins A.cReader dx []) p = some (.lst (bs.map V.int)) := get_ne (get_ne upd_same (ne_new upd_same hdx)) (ne_new upd_same hx0)
  refine ⟨x, dx, p, bs, rfl, upd_same, SqL.of gp, fun p3 hp3 => ⟨rfl, ?_⟩⟩
  have hxp : x ≠ p3 := ne_new upd_same hp3
  have hpp : p ≠ p3 := ne_new gp hp3
  have hpx : p ≠ x := ne_new upd_same hx0
  have hxG : G x = none := x1.nul (nul_upd hx0)
  have eG : Ex G (upd (upd (upd (upd (upd G2 p (.lst (bs.map V.int))) dx (.own x)) x (.ins A.cReader dx [])) p3 (.lst (bs.map V.int))) x (.ins A.cReader dx (rF p3 0))) :=
    (((((x1.trans (Ex.new x2)).mut (x1.nul (nul_upd hdx))).mut hxG).mut (x1.nul (nul_upd (nul_upd (nul_upd hp3))))).mut hxG)
  have hr : Rs A (upd (upd (upd (upd (upd G2 p (.lst (bs.map V.int))) dx (.own x)) x (.ins A.cReader dx [])) p3 (.lst (bs.map V.int))) x (.ins A.cReader dx (rF p3 0))) x dx p3 bs 0 := ⟨upd_same, get_ne upd_same hxp.symm, by omega⟩
  have lp : Li (upd (upd (upd (upd (upd G2 p (.lst (bs.map V.int))) dx (.own x)) x (.ins A.cReader dx [])) p3 (.lst (bs.map V.int))) x (.ins A.cReader dx (rF p3 0))) p bs := get_ne (get_ne gp hpp) hpx
  generalize upd (upd (upd (upd (upd G2 p (.lst (bs.map V.int))) dx (.own x)) x (.ins A.cReader dx [])) p3 (.lst (bs.map V.int))) x (.ins A.cReader dx (rF p3 0)) = G3 at eG hr lp ⊢
  clear gp hp3 hx0 hdx
  k_extra "e"
  k_extra "e"
  refine ee_bm ?_
  k_extra "e"
  refine ⟨ty_lst lp, ?_⟩
  k_extra "e"
  refine em_append lp (by rw [List.length_map]; exact szlt (by omega)) ?_
  have hr4 : Rs A (upd G3 p (.lst (bs.map V.int ++ [.int 7]))) x dx p3 bs 0 := ⟨get_ne hr.g hpx.symm, get_ne hr.d hpp.symm, hr.hl⟩
  have e4 := eG.mut (o := .lst (bs.map V.int ++ [.int 7])) hx
  generalize upd G3 p (.lst (bs.map V.int ++ [.int 7])) = G4 at hr4 e4 ⊢
  -- what stands at each place
  have hA : At bs 0 (wrN n.toNat ++ (wrS s ++ (wrD d ++ (wrTs ts ++ wrP ts)))) := ⟨[], by rw [← hbs]; simp [wrTh]⟩
  have hlen : bs.length = (wrN n.toNat).length + ((wrS s).length + ((wrD d).length + ((wrTs ts).length + (wrP ts).length))) := by rw [← hbs]; simp [wrTh]
  obtain ⟨a1, hA⟩ := hA.app
  obtain ⟨a2, hA⟩ := hA.app
  obtain ⟨a3, hA⟩ := hA.app
  obtain ⟨a4, a5⟩ := hA.app
  have r1 := rdN_wrI a1 hn
  have r2 := rdS_wr hs hr4.hl a2
  have r3 := rdD_wr hd hr4.hl a3
  have r4 := rdTs_wr hts hr4.hl a4
  have r5 := rdP_wr hts hr4.hl a5
  k_extra "e"
  refine ee_fld ?_
  k_extra "e"
  refine ⟨x, _, dx, _, _, rfl, hr4.g, C.cl, C.n2, rF_at _ _, ?_⟩
  k_extra "e"
  refine iff_ (by simp) ?_
  k_extra "e"
  k_extra "e"
  refine ee_rd rfl hr4 (by decide +kernel) (by decide +kernel) (fun y1 b1 v1 G5 h1 e5 hv1 => ?_) (fun h _ _ _ => by rw [r1] at h; cases h)
  rw [r1] at h1; obtain ⟨rfl, rfl⟩ := Prod.mk.inj (Option.some.inj h1)
  have k5 := hr4.next e5
  have m5 := e4.mut (o := .ins A.cReader dx (rF p3 (0 + (wrN n.toNat).length))) hxG
  k_extra "e"
  refine ee_rd rfl k5 (by decide +kernel) (by decide +kernel) (fun y2 b2 v2 G6 h2 e6 hv2 => ?_) (fun h _ _ _ => by rw [r2] at h; cases h)
  rw [r2] at h2; obtain ⟨rfl, rfl⟩ := Prod.mk.inj (Option.some.inj h2)
  have k6 := k5.next e6
  k_extra "e"
  refine ee_rd rfl k6 (by decide +kernel) (by decide +kernel) (fun y3 b3 v3 G7 h3 e7 hv3 => ?_) (fun h _ _ _ => by rw [r3] at h; cases h)
  rw [r3] at h3; obtain ⟨rfl, rfl⟩ := Prod.mk.inj (Option.some.inj h3)
  have k7 := k6.next e7
  k_extra "e"
  refine ee_rd rfl k7 (by decide +kernel) (by decide +kernel) (fun y4 b4 v4 G8 h4 e8 hv4 => ?_) (fun h _ _ _ => by rw [r4] at h; cases h)
  rw [r4] at h4; obtain ⟨rfl, rfl⟩ := Prod.mk.inj (Option.some.inj h4)
  have k8 := k7.next e8
  k_extra "e"
  refine ee_rd rfl k8 (by decide +kernel) (by decide +kernel) (fun y5 b5 v5 G9 h5 e9 hv5 => ?_) (fun h _ _ _ => by rw [r5] at h; cases h)
  rw [r5] at h5; obtain ⟨rfl, rfl⟩ := Prod.mk.inj (Option.some.inj h5)
  have k9 := k8.next e9
  have y5 : Ex G G5 := (e4.mut hxG).trans e5
  have y6 : Ex G G6 := (y5.mut hxG).trans e6
  have y7 : Ex G G7 := (y6.mut hxG).trans e7
  have y8 : Ex G G8 := (y7.mut hxG).trans e8
  have y9 : Ex G G9 := (y8.mut hxG).trans e9
  cases hv1
  cases hv2
  obtain ⟨l4, xs4, rfl, q4, i4⟩ := hv4
  obtain ⟨l5, xs5, rfl, q5, i5⟩ := hv5
  have n4 : l4 ≠ x := fun z => by have := k8.g; rw [← z, q4] at this; cases this
  have q4' : G9 l4 = some (.lst xs4) := e9 _ _ (get_ne q4 n4)
  have t9 := tx_at k8 e9
  have t8 := (tx_at k7 e8).trans t9
  have d3' : Im K G9 v3 d.data := t8.im hv3
  k_extra "e"
  refine ⟨sz1000 (by simp), fun pl hpl => ?_⟩
  have e10 := Ex.new (o := .lst [.int n, .str (mkS s), v3, .ref l4, .ref l5]) hpl
  have hD : Dp K (upd G9 pl (.lst [.int n, .str (mkS s), v3, .ref l4, .ref l5])) (.ref pl) (.list [.int n, .str (mkS s), d.data, .list (ts.map triD), .list (ts.map triD)]) :=
    .lst (SqL.of upd_same) (.cons (.int _) (.cons (.str _) (.cons (e10.dp d3'.dp) (.cons (.lst (SqL.of (get_new q4' hpl)) (e10.dps ((t9.ims i4).dps))) (.cons (.lst (SqL.of (get_new q5 hpl)) (e10.dps i5.dps)) .nil)))))
  have k10 := k9.up e10
  have y10 := y9.trans e10
  generalize upd G9 pl (.lst [.int n, .str (mkS s), v3, .ref l4, .ref l5]) = G10 at hD k10 y10 ⊢
  k_extra "e"
  k_extra "e"
  refine ee_meth ?_
  k_extra "e"
  refine ⟨x, dx, _, rfl, k10.g, rF_no (by decide +kernel) (by decide +kernel), ?_⟩
  k_extra "e"
  refine ⟨x, dx, p3, bs, _, rfl, k10, fun _ => ?_, fun z => absurd z (by omega)⟩
  k_extra "e"
  exact same_call hD (y10.dp hT) (things_dep n s d ts) (q _ y10)
end Lw

namespace Lw
open PySem PySem.Spec PyProof.Rows L2
local macro_rules | `(tactic| k_extra "x1") => `(tactic| first
  | with_reducible refine es_seq ?_
  | with_reducible refine es_asg ?_
  | with_reducible refine es_if ?_
  | with_reducible refine es_ret ?_
  | with_reducible refine es_drop ?_
  | with_reducible refine es_next ?_
  | with_reducible refine es_augS ?_
  | with_reducible refine es_fld ?_
  | ((with_reducible show Ee (tVar _) _ _ _); refine ee_var rfl ?_)
  | with_reducible refine ee_c ?_
  | with_reducible refine ee_op ?_
  | with_reducible refine ee_un ?_
  | with_reducible refine eu_neg ?_
  | with_reducible refine ee_cb ?_
  | with_reducible refine ee_call ?_
  | with_reducible refine ea_nil ?_
  | with_reducible refine ea_cons ?_
  | with_reducible refine ee_sl ?_
  | with_reducible refine eo_no ?_
  | with_reducible refine eo_part ?_
  | with_reducible refine ee_tup ?_
  | with_reducible refine ee_lst ?_
  | with_reducible refine et_test ?_
  | with_reducible refine et_tB ?_
  | with_reducible refine et_tru ?_
  | with_reducible refine et_and ?_
  | with_reducible refine et_or ?_
  | with_reducible refine et_not ?_
  | with_reducible refine ee_and ?_
  | with_reducible refine ee_or ?_
  | with_reducible refine ee_not ?_
  | with_reducible refine ee_if ?_
  | with_reducible refine ee_chain ?_
  | with_reducible refine er_addI ?_
  | with_reducible refine er_subI ?_
  | with_reducible refine er_eqI ?_
  | with_reducible refine er_neI ?_
  | with_reducible refine er_eqNI ?_
  | with_reducible refine er_eqS ?_
  | with_reducible refine er_neS ?_
  | with_reducible refine er_eqB ?_
  | with_reducible refine er_neB ?_
  | with_reducible refine er_lt ?_
  | with_reducible refine er_le ?_
  | with_reducible refine er_gt ?_
  | with_reducible refine er_ge ?_
  | with_reducible refine er_isN_non ?_
  | with_reducible refine er_isN_bl ?_
  | with_reducible refine er_isN_int ?_
  | with_reducible refine er_isN_str ?_
  | with_reducible refine er_isN_ref ?_
  | with_reducible refine er_notN_non ?_
  | with_reducible refine er_notN_bl ?_
  | with_reducible refine er_notN_int ?_
  | with_reducible refine er_notN_str ?_
  | with_reducible refine er_notN_ref ?_
  | with_reducible refine er_isN ?_
  | with_reducible refine er_notN ?_
  | with_reducible refine ec_int ?_
  | with_reducible refine ec_intB ?_
  | with_reducible refine ec_max2 ?_
  | with_reducible refine ec_min2 ?_
  | with_reducible refine ip_I ?_
  | ((with_reducible refine eg_name ?_); (try dsimp only [L2.wipe, List.set_cons_zero, List.set_cons_succ]))
  | with_reducible refine eg_sub ?_
  | with_reducible refine egs_cons ?_
  | with_reducible refine egs_nil ?_
  | with_reducible refine tru_bl ?_
  | with_reducible refine tru_int ?_
  | with_reducible refine tru_non ?_
  | with_reducible refine iteT ?_
  | with_reducible refine iteF ?_
  | with_reducible refine ite_nt ?_
  | with_reducible refine ite_nf ?_
  | with_reducible refine ⟨_, rfl, ?_⟩)
local macro_rules | `(tactic| k_extra "s") => `(tactic| ((first | k_extra "x1" | ((with_reducible refine es_unf ?_); refine es_seq ?_)); (repeat k_extra "x1")))
local macro_rules | `(tactic| k_extra "x") => `(tactic| (repeat first | k_extra "x1" | ((with_reducible refine es_unf ?_); refine es_seq ?_)))
local macro_rules | `(tactic| k_extra "start") => `(tactic| dsimp only [L2.start, List.map_cons, List.map_nil, List.length_cons, List.length_nil, Nat.reduceAdd, Nat.reduceSub, List.replicate, List.cons_append, List.nil_append, Nat.zero_add])
local macro_rules | `(tactic| k_extra "e1") => `(tactic| first
  | with_reducible refine es_next ?_
  | ((with_reducible show Ee (tVar _) _ _ _); refine ee_var rfl ?_)
  | with_reducible refine ee_c ?_
  | with_reducible refine ee_op ?_
  | with_reducible refine ee_un ?_
  | with_reducible refine eu_neg ?_
  | with_reducible refine ee_cb ?_
  | with_reducible refine ee_call ?_
  | with_reducible refine ea_nil ?_
  | with_reducible refine ea_cons ?_
  | with_reducible refine ee_sl ?_
  | with_reducible refine eo_no ?_
  | with_reducible refine eo_part ?_
  | with_reducible refine ee_tup ?_
  | with_reducible refine ee_lst ?_
  | with_reducible refine et_test ?_
  | with_reducible refine et_tB ?_
  | with_reducible refine et_tru ?_
  | with_reducible refine et_and ?_
  | with_reducible refine et_or ?_
  | with_reducible refine et_not ?_
  | with_reducible refine ee_and ?_
  | with_reducible refine ee_or ?_
  | with_reducible refine ee_not ?_
  | with_reducible refine ee_if ?_
  | with_reducible refine ee_chain ?_
  | with_reducible refine er_addI ?_
  | with_reducible refine er_subI ?_
  | with_reducible refine er_eqI ?_
  | with_reducible refine er_neI ?_
  | with_reducible refine er_eqNI ?_
  | with_reducible refine er_eqS ?_
  | with_reducible refine er_neS ?_
  | with_reducible refine er_eqB ?_
  | with_reducible refine er_neB ?_
  | with_reducible refine er_lt ?_
  | with_reducible refine er_le ?_
  | with_reducible refine er_gt ?_
  | with_reducible refine er_ge ?_
  | with_reducible refine er_isN_non ?_
  | with_reducible refine er_isN_bl ?_
  | with_reducible refine er_isN_int ?_
  | with_reducible refine er_isN_str ?_
  | with_reducible refine er_isN_ref ?_
  | with_reducible refine er_notN_non ?_
  | with_reducible refine er_notN_bl ?_
  | with_reducible refine er_notN_int ?_
  | with_reducible refine er_notN_str ?_
  | with_reducible refine er_notN_ref ?_
  | with_reducible refine er_isN ?_
  | with_reducible refine er_notN ?_
  | with_reducible refine ec_int ?_
  | with_reducible refine ec_intB ?_
  | with_reducible refine ec_max2 ?_
  | with_reducible refine ec_min2 ?_
  | with_reducible refine ip_I ?_
  | ((with_reducible refine eg_name ?_); (try dsimp only [L2.wipe, List.set_cons_zero, List.set_cons_succ]))
  | with_reducible refine eg_sub ?_
  | with_reducible refine egs_cons ?_
  | with_reducible refine egs_nil ?_
  | with_reducible refine tru_bl ?_
  | with_reducible refine tru_int ?_
  | with_reducible refine tru_non ?_
  | with_reducible refine iteT ?_
  | with_reducible refine iteF ?_
  | with_reducible refine ite_nt ?_
  | with_reducible refine ite_nf ?_
  | with_reducible refine ex_bl ?_
  | with_reducible refine ex_int ?_
  | with_reducible refine ex_str ?_
  | with_reducible refine ex_strx ?_
  | with_reducible refine ex_ints1 ?_
  | with_reducible refine ex_ints2 ?_)
local macro_rules | `(tactic| k_extra "t1") => `(tactic| first
  | with_reducible refine es_asg ?_
  | with_reducible refine es_if ?_
  | with_reducible refine es_ret ?_
  | with_reducible refine es_drop ?_
  | with_reducible refine es_augS ?_
  | with_reducible refine es_fld ?_)
local macro_rules | `(tactic| k_extra "e") => `(tactic| first
  | ((with_reducible refine es_seq ?_); (try k_extra "t1"); (repeat k_extra "e1"))
  | (k_extra "t1"; (repeat k_extra "e1"))
  | (k_extra "e1"; (repeat k_extra "e1"))
  | ((with_reducible refine es_unf ?_); (refine es_seq ?_); (try k_extra "t1"); (repeat k_extra "e1")))
section
variable {K : PySem.W.Frag} {A : Ad} {a l : Addr} {ns : List Int} {L : List Hp} {G G' : Hp}
theorem Sd.grab (h : Sd K a l ns L G) (e : Ex G G') : Sd K a l ns (newp G G' :: L) G' := by
  obtain ⟨T, p, v, r, h1, h2⟩ := h; exact ⟨T, p, v, r, h1, h2.grab e⟩
end
/-! what is written are bytes -/
theorem byt_wrN : ∀ n : Nat, Byt (wrN n) := by
  intro n
  induction n using Nat.strongRecOn with
  | _ n ih =>
    by_cases h : n < 128
    · rw [wrN_lt h]; exact byt_one ⟨by omega, by omega⟩
    · rw [wrN_ge h]
      exact byt_app (x := [((n % 128 + 128 : Nat) : Int)]) (byt_one ⟨by omega, by omega⟩) (ih _ (by omega))
theorem byt_flat {α : Type} {wr : α → List Int} (h : ∀ x, Byt (wr x)) : ∀ xs : List α, Byt ((xs.map wr).flatten)
  | [] => fun b hb => by cases hb
  | x :: r => by rw [List.map_cons, List.flatten_cons]; exact byt_app (h x) (byt_flat h r)
theorem byt_wrL {α : Type} {wr : α → List Int} (h : ∀ x, Byt (wr x)) (xs : List α) : Byt (wrL (xs.map wr)) := byt_app (byt_wrN _) (byt_flat h xs)
theorem byt_wrS (s : List Nat) : Byt (wrS s) := byt_wrL byt_wrN s
theorem byt_wrM (m : Int × Int) : Byt (wrM m) := byt_app (byt_wrN _) (byt_wrN _)
theorem byt_wrBh : ∀ b, Byt (wrBh b)
  | none => byt_one (by decide)
  | some m => byt_app (byt_one (by decide)) (byt_wrM m)
theorem byt_wrD : ∀ d, Byt (wrD d)
  | .back n => byt_app (byt_one (by decide)) (byt_wrN _)
  | .change m rm bh n t => byt_app (byt_app (byt_app (byt_app (byt_app (byt_one (by decide)) (byt_wrS _)) (byt_wrL byt_wrM _)) (byt_wrBh _)) (byt_wrN _)) (byt_wrS _)
theorem byt_wrT (t : Tri) : Byt (wrT t) := byt_app (byt_app (byt_wrN _) (byt_wrN _)) (byt_wrD _)
theorem byt_wrTs (ts : List Tri) : Byt (wrTs ts) := byt_wrL byt_wrT ts
theorem byt_wrP (ts : List Tri) : Byt (wrP ts) := byt_app (byt_one (by decide)) (byt_wrTs ts)
/-- the five things and what is written of them -/
def thK (n : Int) (s : List Nat) (d : Dd) (ts : List Tri) : Nat → Th
  | 0 => .num n
  | 1 => .txt s
  | 2 => .deed d
  | _ => .tris ts
theorem at_all (w : List Int) : At w 0 w := ⟨[], by simp⟩
theorem rdK_wr {n : Int} {s : List Nat} {d : Dd} {ts : List Tri} (hn : Big n) (hs : TxOk s) (hd : DOk d) (hts : ∀ t ∈ ts, TOk t) {k : Nat} {w : List Int} (hw : (wrTh n s d ts)[k]? = some w) (hl : w.length ≤ 1000000) : rdK k w = some (thK n s d ts k, w.length) := by
  match k, hw with
  | 0, hw => obtain rfl := Option.some.inj hw; show (rdN _ 0).map _ = _; rw [rdN_wrI (at_all _) hn]; simp [thK]
  | 1, hw => obtain rfl := Option.some.inj hw; show (rdS _ 0).map _ = _; rw [rdS_wr hs hl (at_all _)]; simp [thK]
  | 2, hw => obtain rfl := Option.some.inj hw; show (rdD _ 0).map _ = _; rw [rdD_wr hd hl (at_all _)]; simp [thK]
  | 3, hw => obtain rfl := Option.some.inj hw; show (rdTs _ 0).map _ = _; rw [rdTs_wr hts hl (at_all _)]; simp [thK]
  | 4, hw => obtain rfl := Option.some.inj hw; show (rdP _ 0).map _ = _; rw [rdP_wr hts hl (at_all _)]; simp [thK]
  | k + 5, hw => simp [wrTh] at hw
end Lw

namespace Lw
open PySem PySem.Spec PyProof.Rows L2
local macro_rules | `(tactic| k_extra "x1") => `(tactic| first
  | with_reducible refine es_seq ?_
  | with_reducible refine es_asg ?_
  | with_reducible refine es_if ?_
  | with_reducible refine es_ret ?_
  | with_reducible refine es_drop ?_
  | with_reducible refine es_next ?_
  | with_reducible refine es_augS ?_
  | with_reducible refine es_fld ?_
  | ((with_reducible show Ee (tVar _) _ _ _); refine ee_var rfl ?_)
  | with_reducible refine ee_c ?_
  | with_reducible refine ee_op ?_
  | with_reducible refine ee_un ?_
  | with_reducible refine eu_neg ?_
  | with_reducible refine ee_cb ?_
  | with_reducible refine ee_call ?_
  | with_reducible refine ea_nil ?_
  | with_reducible refine ea_cons ?_
  | with_reducible refine ee_sl ?_
  | with_reducible refine eo_no ?_
  | with_reducible refine eo_part ?_
  | with_reducible refine ee_tup ?_
  | with_reducible refine ee_lst ?_
  | with_reducible refine et_test ?_
  | with_reducible refine et_tB ?_
  | with_reducible refine et_tru ?_
  | with_reducible refine et_and ?_
  | with_reducible refine et_or ?_
  | with_reducible refine et_not ?_
  | with_reducible refine ee_and ?_
  | with_reducible refine ee_or ?_
  | with_reducible refine ee_not ?_
  | with_reducible refine ee_if ?_
  | with_reducible refine ee_chain ?_
  | with_reducible refine er_addI ?_
  | with_reducible refine er_subI ?_
  | with_reducible refine er_eqI ?_
  | with_reducible refine er_neI ?_
  | with_reducible refine er_eqNI ?_
  | with_reducible refine er_eqS ?_
  | with_reducible refine er_neS ?_
  | with_reducible refine er_eqB ?_
  | with_reducible refine er_neB ?_
  | with_reducible refine er_lt ?_
  | with_reducible refine er_le ?_
  | with_reducible refine er_gt ?_
  | with_reducible refine er_ge ?_
  | with_reducible refine er_isN_non ?_
  | with_reducible refine er_isN_bl ?_
  | with_reducible refine er_isN_int ?_
  | with_reducible refine er_isN_str ?_
  | with_reducible refine er_isN_ref ?_
  | with_reducible refine er_notN_non ?_
  | with_reducible refine er_notN_bl ?_
  | with_reducible refine er_notN_int ?_
  | with_reducible refine er_notN_str ?_
  | with_reducible refine er_notN_ref ?_
  | with_reducible refine er_isN ?_
  | with_reducible refine er_notN ?_
  | with_reducible refine ec_int ?_
  | with_reducible refine ec_intB ?_
  | with_reducible refine ec_max2 ?_
  | with_reducible refine ec_min2 ?_
  | with_reducible refine ip_I ?_
  | ((with_reducible refine eg_name ?_); (try dsimp only [L2.wipe, List.set_cons_zero, List.set_cons_succ]))
  | with_reducible refine eg_sub ?_
  | with_reducible refine egs_cons ?_
  | with_reducible refine egs_nil ?_
  | with_reducible refine tru_bl ?_
  | with_reducible refine tru_int ?_
  | with_reducible refine tru_non ?_
  | with_reducible refine iteT ?_
  | with_reducible refine iteF ?_
  | with_reducible refine ite_nt ?_
  | with_reducible refine ite_nf ?_
  | with_reducible refine ⟨_, rfl, ?_⟩)
local macro_rules | `(tactic| k_extra "s") => `(tactic| ((first | k_extra "x1" | ((with_reducible refine es_unf ?_); refine es_seq ?_)); (repeat k_extra "x1")))
local macro_rules | `(tactic| k_extra "x") => `(tactic| (repeat first | k_extra "x1" | ((with_reducible refine es_unf ?_); refine es_seq ?_)))
local macro_rules | `(tactic| k_extra "start") => `(tactic| dsimp only [L2.start, List.map_cons, List.map_nil, List.length_cons, List.length_nil, Nat.reduceAdd, Nat.reduceSub, List.replicate, List.cons_append, List.nil_append, Nat.zero_add])
local macro_rules | `(tactic| k_extra "e1") => `(tactic| first
  | with_reducible refine es_next ?_
  | ((with_reducible show Ee (tVar _) _ _ _); refine ee_var rfl ?_)
  | with_reducible refine ee_c ?_
  | with_reducible refine ee_op ?_
  | with_reducible refine ee_un ?_
  | with_reducible refine eu_neg ?_
  | with_reducible refine ee_cb ?_
  | with_reducible refine ee_call ?_
  | with_reducible refine ea_nil ?_
  | with_reducible refine ea_cons ?_
  | with_reducible refine ee_sl ?_
  | with_reducible refine eo_no ?_
  | with_reducible refine eo_part ?_
  | with_reducible refine ee_tup ?_
  | with_reducible refine ee_lst ?_
  | with_reducible refine et_test ?_
  | with_reducible refine et_tB ?_
  | with_reducible refine et_tru ?_
  | with_reducible refine et_and ?_
  | with_reducible refine et_or ?_
  | with_reducible refine et_not ?_
  | with_reducible refine ee_and ?_
  | with_reducible refine ee_or ?_
  | with_reducible refine ee_not ?_
  | with_reducible refine ee_if ?_
  | with_reducible refine ee_chain ?_
  | with_reducible refine er_addI ?_
  | with_reducible refine er_subI ?_
  | with_reducible refine er_eqI ?_
  | with_reducible refine er_neI ?_
  | with_reducible refine er_eqNI ?_
  | with_reducible refine er_eqS ?_
  | with_reducible refine er_neS ?_
  | with_reducible refine er_eqB ?_
  | with_reducible refine er_neB ?_
  | with_reducible refine er_lt ?_
  | with_reducible refine er_le ?_
  | with_reducible refine er_gt ?_
  | with_reducible refine er_ge ?_
  | with_reducible refine er_isN_non ?_
  | with_reducible refine er_isN_bl ?_
  | with_reducible refine er_isN_int ?_
  | with_reducible refine er_isN_str ?_
  | with_reducible refine er_isN_ref ?_
  | with_reducible refine er_notN_non ?_
  | with_reducible refine er_notN_bl ?_
  | with_reducible refine er_notN_int ?_
  | with_reducible refine er_notN_str ?_
  | with_reducible refine er_notN_ref ?_
  | with_reducible refine er_isN ?_
  | with_reducible refine er_notN ?_
  | with_reducible refine ec_int ?_
  | with_reducible refine ec_intB ?_
  | with_reducible refine ec_max2 ?_
  | with_reducible refine ec_min2 ?_
  | with_reducible refine ip_I ?_
  | ((with_reducible refine eg_name ?_); (try dsimp only [L2.wipe, List.set_cons_zero, List.set_cons_succ]))
  | with_reducible refine eg_sub ?_
  | with_reducible refine egs_cons ?_
  | with_reducible refine egs_nil ?_
  | with_reducible refine tru_bl ?_
  | with_reducible refine tru_int ?_
  | with_reducible refine tru_non ?_
  | with_reducible refine iteT ?_
  | with_reducible refine iteF ?_
  | with_reducible refine ite_nt ?_
  | with_reducible refine ite_nf ?_
  | with_reducible refine ex_bl ?_
  | with_reducible refine ex_int ?_
  | with_reducible refine ex_str ?_
  | with_reducible refine ex_strx ?_
  | with_reducible refine ex_ints1 ?_
  | with_reducible refine ex_ints2 ?_)
local macro_rules | `(tactic| k_extra "t1") => `(tactic| first
  | with_reducible refine es_asg ?_
  | with_reducible refine es_if ?_
  | with_reducible refine es_ret ?_
  | with_reducible refine es_drop ?_
  | with_reducible refine es_augS ?_
  | with_reducible refine es_fld ?_)
local macro_rules | `(tactic| k_extra "e") => `(tactic| first
  | ((with_reducible refine es_seq ?_); (try k_extra "t1"); (repeat k_extra "e1"))
  | (k_extra "t1"; (repeat k_extra "e1"))
  | (k_extra "e1"; (repeat k_extra "e1"))
  | ((with_reducible refine es_unf ?_); (refine es_seq ?_); (try k_extra "t1"); (repeat k_extra "e1")))
def S_law (K : PySem.W.Frag) (A : Ad) : Pm := fun vs G Q _ => ∃ (a : Addr) (ns : List Int), vs = [.ref a] ∧ SqL K G a (ns.map V.int) ∧ ns.length ≤ 63 ∧ ∀ G', Q (.bl true) G'
/-! law -/
def t_law_1 (K : PySem.W.Frag) (A : Ad) : TS := tSeq (tAsg (tCall (up (S__law_spoilt K A)) [] E0 (tCons (tVar 1) (tCons (tCB (rListU K) (tCons (tOp (rIx K) (tVar 7) (tVar 11)) tNil)) tNil))) (gName 13)) (tIfS (tNot (tTru K (tCall (up (S__law_same K A)) [] E0 (tCons (tCall (up (S__law_told K A)) [] E0 (tCons (tVar 11) (tCons (tVar 13) tNil))) (tCons (tCall (up (S__law_own K A)) [] E0 (tCons (tVar 11) (tCons (tVar 13) tNil))) tNil))))) (tRet (tC (.bl false))) tNext)
def t_law_2 (K : PySem.W.Frag) (A : Ad) : TS := tSeq (tIfS (tNot (tTru K (tCall (up (S__law_same K A)) [] E0 (tCons (tCall (up (S__law_told K A)) [] E0 (tCons (tVar 11) (tCons (tOp (rIx K) (tVar 7) (tVar 11)) tNil))) (tCons (tTup (tCons (tOp (rIx K) (tVar 9) (tVar 11)) (tCons (tCB (rLenU K) (tCons (tOp (rIx K) (tVar 7) (tVar 11)) tNil)) tNil))) tNil))))) (tRet (tC (.bl false))) tNext) (tFor (iRng1 (tCons (tC (.int 4)) tNil)) (gName 12) (t_law_1 K A))
def t_law_3 (K : PySem.W.Frag) (A : Ad) : TS := tSeq (tIfS (tNot (tTru K (tCall (up (S__law_same K A)) [] E0 (tCons (tCall (up (S__law_told K A)) [] E0 (tCons (tC (.int 0)) (tCons (tVar 10) tNil))) (tCons (tCall (up (S__law_own K A)) [] E0 (tCons (tC (.int 0)) (tCons (tVar 10) tNil))) tNil))))) (tRet (tC (.bl false))) tNext) (tFor (iRng1 (tCons (tC (.int 5)) tNil)) (gName 11) (t_law_2 K A))
def t_law_4 (K : PySem.W.Frag) (A : Ad) : TS := tSeq (tAsg (tOp (rAddU K) (tLc (iRng1 (tCons (tCall (up (S__law_next K A)) [] E0 (tCons (tVar 1) (tCons (tC (.int 63)) tNil))) tNil)) (gName 12) tYes (tOp (rAddU K) (tC (.int 128)) (tCall (up (S__law_next K A)) [] E0 (tCons (tVar 1) (tCons (tC (.int 128)) tNil)))) [12]) (tLst (tCons (tCall (up (S__law_next K A)) [] E0 (tCons (tVar 1) (tCons (tC (.int 3)) tNil))) tNil))) (gName 10)) (t_law_3 K A)
def t_law_5 (K : PySem.W.Frag) (A : Ad) : TS := tSeq (tIfS (tNot (tTru K (tCall (up (S__law_in_a_row K A)) [] E0 (tCons (tVar 9) (tCons (tVar 7) tNil))))) (tRet (tC (.bl false))) tNext) (t_law_4 K A)
def t_law_6 (K : PySem.W.Frag) (A : Ad) : TS := tSeq (tAsg (tLst (tCons (tVar 3) (tCons (tVar 4) (tCons (tVar 5) (tCons (tVar 6) (tCons (tVar 6) tNil)))))) (gName 9)) (t_law_5 K A)
def t_law_7 (K : PySem.W.Frag) (A : Ad) : TS := tSeq (tIfS (tNot (tTru K (tCall (up (S__law_same K A)) [] E0 (tCons (tVar 7) (tCons (tLst (tCons (tCall (up (S__law_number K A)) [] E0 (tCons (tVar 3) tNil)) (tCons (tCall (up (S__law_text K A)) [] E0 (tCons (tVar 4) tNil)) (tCons (tCall (up (S__law_deed K A)) [] E0 (tCons (tVar 5) tNil)) (tCons (tVar 8) (tCons (tOp (rAddU K) (tLst (tCons (tC (.int 1)) tNil)) (tVar 8)) tNil)))))) tNil))))) (tRet (tC (.bl false))) tNext) (t_law_6 K A)
def t_law_8 (K : PySem.W.Frag) (A : Ad) : TS := tSeq (tAsg (tCall (up (S__law_triples K A)) [] E0 (tCons (tVar 6) tNil)) (gName 8)) (t_law_7 K A)
def t_law_9 (K : PySem.W.Frag) (A : Ad) : TS := tSeq (tAsg (tLst (tCons (tCall (up (S_write_number K A)) [] E0 (tCons (tVar 3) tNil)) (tCons (tCall (up (S_write_string K A)) [] E0 (tCons (tVar 4) tNil)) (tCons (tCall (up (S_write_deed K A)) [] E0 (tCons (tVar 5) tNil)) (tCons (tCall (up (S_write_triples K A)) [] E0 (tCons (tCB (rListU K) (tCons (tVar 6) tNil)) tNil)) (tCons (tCall (up (S_write_packet K A)) [] E0 (tCons (tCB (rListU K) (tCons (tVar 6) tNil)) tNil)) tNil)))))) (gName 7)) (t_law_8 K A)
def t_law_10 (K : PySem.W.Frag) (A : Ad) : TS := tSeq (tAsg (tLc (iRng1 (tCons (tCall (up (S__law_next K A)) [] E0 (tCons (tVar 1) (tCons (tC (.int 7)) tNil))) tNil)) (gName 12) tYes (tTup (tCons (tCall (up (S__law_next K A)) [] E0 (tCons (tVar 1) (tCons (tC (.int 9)) tNil))) (tCons (tCall (up (S__law_drawn_number K A)) [] E0 (tCons (tVar 1) tNil)) (tCons (tCall (up (S__law_drawn_deed K A)) [] E0 (tCons (tVar 1) tNil)) tNil)))) [12]) (gName 6)) (t_law_9 K A)
def t_law_11 (K : PySem.W.Frag) (A : Ad) : TS := tSeq (tAsg (tCall (up (S__law_drawn_deed K A)) [] E0 (tCons (tVar 1) tNil)) (gName 5)) (t_law_10 K A)
def t_law_12 (K : PySem.W.Frag) (A : Ad) : TS := tSeq (tAsg (tCall (up (S__law_drawn_text K A)) [] E0 (tCons (tVar 1) tNil)) (gName 4)) (t_law_11 K A)
def t_law_13 (K : PySem.W.Frag) (A : Ad) : TS := tSeq (tAsg (tCall (up (S__law_drawn_number K A)) [] E0 (tCons (tVar 1) tNil)) (gName 3)) (t_law_12 K A)
def t_law_14 (K : PySem.W.Frag) (A : Ad) : TS := tSeq (tFor (iRng1 (tCons (tC (.int 4)) tNil)) (gName 2) (t_law_13 K A)) (tRet (tC (.bl true)))
def t_law (K : PySem.W.Frag) (A : Ad) : TS := tSeq (tAsg (tLst (tCons (tCB (rListU K) (tCons (tVar 0) tNil)) (tCons (tC (.int 0)) (tCons (tC (.int 0)) (tCons (tC (.int 1)) tNil))))) (gName 1)) (t_law_14 K A)
theorem len_law {K : PySem.W.Frag} {A : Ad} : ∀ vs G Q E, S_law K A vs G Q E → vs.length = ["script"].length := by
  rintro vs G Q E ⟨a, ns, rfl, _⟩; rfl
theorem none_same {K : PySem.W.Frag} {A : Ad} {G : Hp} {Q : V → Hp → Prop} {E : XK} (q : Q (.bl true) G) : S__law_same K A [.non, .non] G Q E := same_call (d := .none) .non .non (by simp [PyData.depth]) q
theorem th_dep (t : Th) (b : Nat) : (PyData.tuple [t.data, .int (b : Nat)]).depth < 8 := by
  cases t with
  | num n => simp [Th.data, PyData.depth, PyData.depthAll]
  | txt s => simp [Th.data, PyData.depth, PyData.depthAll]
  | deed d => have := deed_dep d; simp only [Th.data, PyData.depth, PyData.depthAll]; omega
  | tris ts => have := tris_dep ts; simp only [Th.data, PyData.depth, PyData.depthAll]; omega
section
variable {K : PySem.W.Frag} {A : Ad} {G N : Hp} {a l pw : Addr} {ns : List Int} {L : List Hp} {us : List V} {ws : List (List Int)} {k : Nat} {w : List Int} {D : Ek} {c0 c2 c3 c4 c5 c6 c8 c9 c10 c12 c13 : Option V}
/-- a spoilt list is told of as the law's own reader reads it -/
theorem turn_spoilt (h : Sd K a l ns L G) (hN : N ∈ L) (hp : N pw = some (.lst us)) (hE : Els N us ws) (hw : ws[k]? = some w) (hb : Byt w) (hl : w.length ≤ 300000)
    (q : ∀ c13 G', Sd K a l ns L G' → Tx G G' → D.nx [c0, some (.ref a), c2, c3, c4, c5, c6, some (.ref pw), c8, c9, c10, some (.int (k : Nat)), c12, c13] G') :
    Es (t_law_1 K A) D [c0, some (.ref a), c2, c3, c4, c5, c6, some (.ref pw), c8, c9, c10, some (.int (k : Nat)), c12, c13] G := by
  have eN := h.ex hN
  obtain ⟨r, hr, hrw⟩ : ∃ r, us[k]? = some (.ref r) ∧ N r = some (.lst (w.map V.int)) := by
    have hk : k < us.length := by rw [hE.len]; exact (List.getElem?_eq_some_iff.mp hw).1
    obtain ⟨r, w', e1, e2, e3⟩ := hE.get (List.getElem?_eq_getElem hk)
    rw [hw] at e2; cases e2
    exact ⟨r, by rw [List.getElem?_eq_getElem hk, e1], e3⟩
  k_extra "e"
  refine er_ixL (SqL.of (eN _ _ hp)) (atI_nat hr) ?_
  k_extra "e"
  refine ec_list (.inl (SqL.of (eN _ _ hrw))) fun pd hpd => ?_
  k_extra "e"
  refine ⟨a, l, ns, L, pd, w, rfl, h.add hpd, hb, by omega, fun p d G2 hd hdl h2 t2 hp2 => ?_⟩
  k_extra "e"
  k_extra "e"
  refine ⟨k, p, d, rfl, hp2, by omega, fun hno G3 e3 => ?_, fun th b hsome G3 v e3 hv => ?_⟩
  · k_extra "e"
    refine ⟨k, p, d, rfl, hp2.up e3, by omega, byt_nb hd, fun _ G4 e4 => ?_, fun th b hsome => by rw [hno] at hsome; cases hsome⟩
    k_extra "e"
    refine none_same ?_
    k_extra "e"
    exact q _ _ (h2.junk (e3.trans e4)) (((Ex.new hpd).tx.trans t2).trans (e3.trans e4).tx)
  · k_extra "e"
    refine ⟨k, p, d, rfl, hp2.up e3, by omega, byt_nb hd, (fun hno => by rw [hno] at hsome; cases hsome), fun th' b' hsome' G4 v' e4 hv' => ?_⟩
    rw [hsome] at hsome'; cases hsome'
    k_extra "e"
    refine same_call (e4.dp hv) hv' (th_dep _ _) ?_
    k_extra "e"
    exact q _ _ (h2.junk (e3.trans e4)) (((Ex.new hpd).tx.trans t2).trans (e3.trans e4).tx)
/-- a kind of thing: told as it was written, and four spoilt ones -/
theorem turn_kind {N2 : Hp} {po : Addr} {tv : List V} {v : V} {th : Th} (h : Sd K a l ns L G) (hN : N ∈ L) (hp : N pw = some (.lst us)) (hE : Els N us ws) (hw : ws[k]? = some w) (hb : Byt w) (hl : w.length ≤ 300000)
    (hN2 : N2 ∈ L) (ho : N2 po = some (.lst tv)) (hv : tv[k]? = some v) (hD : ∀ G', Ex G G' → Dp K G' v th.data) (hk : rdK k w = some (th, w.length))
    (q : ∀ c12 c13 G', Sd K a l ns L G' → Tx G G' → D.nx [c0, some (.ref a), c2, c3, c4, c5, c6, some (.ref pw), c8, some (.ref po), c10, some (.int (k : Nat)), c12, c13] G') :
    Es (t_law_2 K A) D [c0, some (.ref a), c2, c3, c4, c5, c6, some (.ref pw), c8, some (.ref po), c10, some (.int (k : Nat)), c12, c13] G := by
  have eN := h.ex hN
  obtain ⟨r, hr, hrw⟩ : ∃ r, us[k]? = some (.ref r) ∧ N r = some (.lst (w.map V.int)) := by
    have hk : k < us.length := by rw [hE.len]; exact (List.getElem?_eq_some_iff.mp hw).1
    obtain ⟨r, w', e1, e2, e3⟩ := hE.get (List.getElem?_eq_getElem hk)
    rw [hw] at e2; cases e2
    exact ⟨r, by rw [List.getElem?_eq_getElem hk, e1], e3⟩
  have gw : Li G r w := eN _ _ hrw
  k_extra "e"
  refine er_ixL (SqL.of (eN _ _ hp)) (atI_nat hr) ?_
  k_extra "e"
  refine ⟨k, r, w, rfl, gw, by omega, (fun hno => by rw [hno] at hk; cases hk), fun th' b hsome G3 v3 e3 hv3 => ?_⟩
  rw [hk] at hsome; cases hsome
  k_extra "e"
  refine er_ixL (SqL.of (e3 _ _ (h.ex hN2 _ _ ho))) (atI_nat hv) ?_
  k_extra "e"
  refine er_ixL (SqL.of (e3 _ _ (eN _ _ hp))) (atI_nat hr) ?_
  k_extra "e"
  refine ec_lenL (SqL.of (gw.up e3)) fun _ => ?_
  rw [List.length_map]
  k_extra "e"
  refine ⟨sz1000 (by simp), fun t ht => ?_⟩
  have e4 := e3.trans (Ex.new (o := .tup [v, .int w.length]) ht)
  k_extra "e"
  refine same_call ((Ex.new ht).dp hv3) (.tup (SqT.of upd_same) (.cons (hD _ e4) (.cons (.int _) .nil))) (th_dep _ _) ?_
  have h4 := h.junk e4
  k_extra "e"
  refine es_forR1 ?_
  k_extra "e"
  refine ⟨by omega, fun i σ G' => ∃ c12 c13, σ = [c0, some (.ref a), c2, c3, c4, c5, c6, some (.ref pw), c8, some (.ref po), c10, some (.int (k : Nat)), c12, c13] ∧ Sd K a l ns L G' ∧ Tx G G', ⟨_, _, rfl, h4, e4.tx⟩, ?_, ?_⟩
  · rintro i σ G' hi ⟨c12, c13, rfl, h5, t5⟩
    exact turn_spoilt h5 hN hp hE hw hb hl fun c13 G' h6 t6 => ⟨_, _, rfl, h6, t5.trans t6⟩
  · rintro σ G' ⟨c12, c13, rfl, h5, t5⟩
    exact q _ _ _ h5 t5
end
end Lw

namespace Lw
open PySem PySem.Spec PyProof.Rows L2
local macro_rules | `(tactic| k_extra "x1") => `(tactic| first
  | with_reducible refine es_seq ?_
  | with_reducible refine es_asg ?_
  | with_reducible refine es_if ?_
  | with_reducible refine es_ret ?_
  | with_reducible refine es_drop ?_
  | with_reducible refine es_next ?_
  | with_reducible refine es_augS ?_
  | with_reducible refine es_fld ?_
  | ((with_reducible show Ee (tVar _) _ _ _); refine ee_var rfl ?_)
  | with_reducible refine ee_c ?_
  | with_reducible refine ee_op ?_
  | with_reducible refine ee_un ?_
  | with_reducible refine eu_neg ?_
  | with_reducible refine ee_cb ?_
  | with_reducible refine ee_call ?_
  | with_reducible refine ea_nil ?_
  | with_reducible refine ea_cons ?_
  | with_reducible refine ee_sl ?_
  | with_reducible refine eo_no ?_
  | with_reducible refine eo_part ?_
  | with_reducible refine ee_tup ?_
  | with_reducible refine ee_lst ?_
  | with_reducible refine et_test ?_
  | with_reducible refine et_tB ?_
  | with_reducible refine et_tru ?_
  | with_reducible refine et_and ?_
  | with_reducible refine et_or ?_
  | with_reducible refine et_not ?_
  | with_reducible refine ee_and ?_
  | with_reducible refine ee_or ?_
  | with_reducible refine ee_not ?_
  | with_reducible refine ee_if ?_
  | with_reducible refine ee_chain ?_
  | with_reducible refine er_addI ?_
  | with_reducible refine er_subI ?_
  | with_reducible refine er_eqI ?_
  | with_reducible refine er_neI ?_
  | with_reducible refine er_eqNI ?_
  | with_reducible refine er_eqS ?_
  | with_reducible refine er_neS ?_
  | with_reducible refine er_eqB ?_
  | with_reducible refine er_neB ?_
  | with_reducible refine er_lt ?_
  | with_reducible refine er_le ?_
  | with_reducible refine er_gt ?_
  | with_reducible refine er_ge ?_
  | with_reducible refine er_isN_non ?_
  | with_reducible refine er_isN_bl ?_
  | with_reducible refine er_isN_int ?_
  | with_reducible refine er_isN_str ?_
  | with_reducible refine er_isN_ref ?_
  | with_reducible refine er_notN_non ?_
  | with_reducible refine er_notN_bl ?_
  | with_reducible refine er_notN_int ?_
  | with_reducible refine er_notN_str ?_
  | with_reducible refine er_notN_ref ?_
  | with_reducible refine er_isN ?_
  | with_reducible refine er_notN ?_
  | with_reducible refine ec_int ?_
  | with_reducible refine ec_intB ?_
  | with_reducible refine ec_max2 ?_
  | with_reducible refine ec_min2 ?_
  | with_reducible refine ip_I ?_
  | ((with_reducible refine eg_name ?_); (try dsimp only [L2.wipe, List.set_cons_zero, List.set_cons_succ]))
  | with_reducible refine eg_sub ?_
  | with_reducible refine egs_cons ?_
  | with_reducible refine egs_nil ?_
  | with_reducible refine tru_bl ?_
  | with_reducible refine tru_int ?_
  | with_reducible refine tru_non ?_
  | with_reducible refine iteT ?_
  | with_reducible refine iteF ?_
  | with_reducible refine ite_nt ?_
  | with_reducible refine ite_nf ?_
  | with_reducible refine ⟨_, rfl, ?_⟩)
local macro_rules | `(tactic| k_extra "s") => `(tactic| ((first | k_extra "x1" | ((with_reducible refine es_unf ?_); refine es_seq ?_)); (repeat k_extra "x1")))
local macro_rules | `(tactic| k_extra "x") => `(tactic| (repeat first | k_extra "x1" | ((with_reducible refine es_unf ?_); refine es_seq ?_)))
local macro_rules | `(tactic| k_extra "start") => `(tactic| dsimp only [L2.start, List.map_cons, List.map_nil, List.length_cons, List.length_nil, Nat.reduceAdd, Nat.reduceSub, List.replicate, List.cons_append, List.nil_append, Nat.zero_add])
local macro_rules | `(tactic| k_extra "e1") => `(tactic| first
  | with_reducible refine es_next ?_
  | ((with_reducible show Ee (tVar _) _ _ _); refine ee_var rfl ?_)
  | with_reducible refine ee_c ?_
  | with_reducible refine ee_op ?_
  | with_reducible refine ee_un ?_
  | with_reducible refine eu_neg ?_
  | with_reducible refine ee_cb ?_
  | with_reducible refine ee_call ?_
  | with_reducible refine ea_nil ?_
  | with_reducible refine ea_cons ?_
  | with_reducible refine ee_sl ?_
  | with_reducible refine eo_no ?_
  | with_reducible refine eo_part ?_
  | with_reducible refine ee_tup ?_
  | with_reducible refine ee_lst ?_
  | with_reducible refine et_test ?_
  | with_reducible refine et_tB ?_
  | with_reducible refine et_tru ?_
  | with_reducible refine et_and ?_
  | with_reducible refine et_or ?_
  | with_reducible refine et_not ?_
  | with_reducible refine ee_and ?_
  | with_reducible refine ee_or ?_
  | with_reducible refine ee_not ?_
  | with_reducible refine ee_if ?_
  | with_reducible refine ee_chain ?_
  | with_reducible refine er_addI ?_
  | with_reducible refine er_subI ?_
  | with_reducible refine er_eqI ?_
  | with_reducible refine er_neI ?_
  | with_reducible refine er_eqNI ?_
  | with_reducible refine er_eqS ?_
  | with_reducible refine er_neS ?_
  | with_reducible refine er_eqB ?_
  | with_reducible refine er_neB ?_
  | with_reducible refine er_lt ?_
  | with_reducible refine er_le ?_
  | with_reducible refine er_gt ?_
  | with_reducible refine er_ge ?_
  | with_reducible refine er_isN_non ?_
  | with_reducible refine er_isN_bl ?_
  | with_reducible refine er_isN_int ?_
  | with_reducible refine er_isN_str ?_
  | with_reducible refine er_isN_ref ?_
  | with_reducible refine er_notN_non ?_
  | with_reducible refine er_notN_bl ?_
  | with_reducible refine er_notN_int ?_
  | with_reducible refine er_notN_str ?_
  | with_reducible refine er_notN_ref ?_
  | with_reducible refine er_isN ?_
  | with_reducible refine er_notN ?_
  | with_reducible refine ec_int ?_
  | with_reducible refine ec_intB ?_
  | with_reducible refine ec_max2 ?_
  | with_reducible refine ec_min2 ?_
  | with_reducible refine ip_I ?_
  | ((with_reducible refine eg_name ?_); (try dsimp only [L2.wipe, List.set_cons_zero, List.set_cons_succ]))
  | with_reducible refine eg_sub ?_
  | with_reducible refine egs_cons ?_
  | with_reducible refine egs_nil ?_
  | with_reducible refine tru_bl ?_
  | with_reducible refine tru_int ?_
  | with_reducible refine tru_non ?_
  | with_reducible refine iteT ?_
  | with_reducible refine iteF ?_
  | with_reducible refine ite_nt ?_
  | with_reducible refine ite_nf ?_
  | with_reducible refine ex_bl ?_
  | with_reducible refine ex_int ?_
  | with_reducible refine ex_str ?_
  | with_reducible refine ex_strx ?_
  | with_reducible refine ex_ints1 ?_
  | with_reducible refine ex_ints2 ?_)
local macro_rules | `(tactic| k_extra "t1") => `(tactic| first
  | with_reducible refine es_asg ?_
  | with_reducible refine es_if ?_
  | with_reducible refine es_ret ?_
  | with_reducible refine es_drop ?_
  | with_reducible refine es_augS ?_
  | with_reducible refine es_fld ?_)
local macro_rules | `(tactic| k_extra "e") => `(tactic| first
  | ((with_reducible refine es_seq ?_); (try k_extra "t1"); (repeat k_extra "e1"))
  | (k_extra "t1"; (repeat k_extra "e1"))
  | (k_extra "e1"; (repeat k_extra "e1"))
  | ((with_reducible refine es_unf ?_); (refine es_seq ?_); (try k_extra "t1"); (repeat k_extra "e1")))
section
variable {K : PySem.W.Frag} {A : Ad} {G N N2 : Hp} {a l pw po pl : Addr} {ns : List Int} {L : List Hp} {us tv : List V} {n : Int} {s : List Nat} {d : Dd} {ts : List Tri} {w : List Int} {D : Ek} {c0 c2 c3 c4 c5 c6 c8 c11 c12 c13 : Option V}
theorem turn_long (h : Sd K a l ns L G) (hN : N ∈ L) (hp : N pw = some (.lst us)) (hE : Els N us (wrTh n s d ts)) (hb : ∀ (k : Nat) (x : List Int), (wrTh n s d ts)[k]? = some x → Byt x ∧ x.length ≤ 300000)
    (hN2 : N2 ∈ L) (ho : N2 po = some (.lst tv)) (hv : ∀ k : Nat, k < 5 → ∃ v, tv[k]? = some v ∧ ∀ G', Sd K a l ns L G' → Tx G G' → Dp K G' v (thK n s d ts k).data)
    (hn : Big n) (hs : TxOk s) (hd : DOk d) (hts : ∀ t ∈ ts, TOk t) (hw : Li G pl w) (hbw : Byt w) (hlw : w.length ≤ 300000)
    (q : ∀ c11 c12 c13 G', Sd K a l ns L G' → Tx G G' → D.nx [c0, some (.ref a), c2, c3, c4, c5, c6, some (.ref pw), c8, some (.ref po), some (.ref pl), c11, c12, c13] G') :
    Es (t_law_3 K A) D [c0, some (.ref a), c2, c3, c4, c5, c6, some (.ref pw), c8, some (.ref po), some (.ref pl), c11, c12, c13] G := by
  have kinds : ∀ {G1 : Hp}, Ex G G1 → Es (tFor (iRng1 (tCons (tC (.int 5)) tNil)) (gName 11) (t_law_2 K A)) D [c0, some (.ref a), c2, c3, c4, c5, c6, some (.ref pw), c8, some (.ref po), some (.ref pl), c11, c12, c13] G1 := fun {G1} e1 => by
    refine es_forR1 ?_
    k_extra "e"
    refine ⟨by omega, fun i σ G' => ∃ c11 c12 c13, σ = [c0, some (.ref a), c2, c3, c4, c5, c6, some (.ref pw), c8, some (.ref po), some (.ref pl), c11, c12, c13] ∧ Sd K a l ns L G' ∧ Tx G G', ⟨_, _, _, rfl, h.junk e1, e1.tx⟩, ?_, ?_⟩
    · rintro i σ G' hi ⟨c11, c12, c13, rfl, h5, t5⟩
      have hi5 : i < 5 := by omega
      obtain ⟨v, hv1, hv2⟩ := hv i hi5
      obtain ⟨x, hx⟩ : ∃ x, (wrTh n s d ts)[i]? = some x := ⟨_, List.getElem?_eq_getElem (by simpa [wrTh] using hi5)⟩
      obtain ⟨b1, b2⟩ := hb i x hx
      exact turn_kind h5 hN hp hE hx b1 b2 hN2 ho hv1 (fun G' e => hv2 G' (h5.junk e) (t5.trans e.tx)) (rdK_wr hn hs hd hts hx (by omega)) fun c12 c13 G' h6 t6 => ⟨_, _, _, rfl, h6, t5.trans t6⟩
    · rintro σ G' ⟨c11, c12, c13, rfl, h5, t5⟩
      exact q _ _ _ _ h5 t5
  k_extra "e"
  refine ⟨0, pl, w, rfl, hw, by omega, fun hno G3 e3 => ?_, fun th b hsome G3 v e3 hv3 => ?_⟩
  · k_extra "e"
    refine ⟨0, pl, w, rfl, hw.up e3, by omega, byt_nb hbw, fun _ G4 e4 => ?_, fun th b hsome => by rw [hno] at hsome; cases hsome⟩
    k_extra "e"
    refine none_same ?_
    k_extra "e"
    exact kinds (e3.trans e4)
  · k_extra "e"
    refine ⟨0, pl, w, rfl, hw.up e3, by omega, byt_nb hbw, (fun hno => by rw [hno] at hsome; cases hsome), fun th' b' hsome' G4 v' e4 hv' => ?_⟩
    rw [hsome] at hsome'; cases hsome'
    k_extra "e"
    refine same_call (e4.dp hv3) hv' (th_dep _ _) ?_
    k_extra "e"
    exact kinds (e3.trans e4)
end
end Lw

namespace Lw
open PySem PySem.Spec PyProof.Rows L2
local macro_rules | `(tactic| k_extra "x1") => `(tactic| first
  | with_reducible refine es_seq ?_
  | with_reducible refine es_asg ?_
  | with_reducible refine es_if ?_
  | with_reducible refine es_ret ?_
  | with_reducible refine es_drop ?_
  | with_reducible refine es_next ?_
  | with_reducible refine es_augS ?_
  | with_reducible refine es_fld ?_
  | ((with_reducible show Ee (tVar _) _ _ _); refine ee_var rfl ?_)
  | with_reducible refine ee_c ?_
  | with_reducible refine ee_op ?_
  | with_reducible refine ee_un ?_
  | with_reducible refine eu_neg ?_
  | with_reducible refine ee_cb ?_
  | with_reducible refine ee_call ?_
  | with_reducible refine ea_nil ?_
  | with_reducible refine ea_cons ?_
  | with_reducible refine ee_sl ?_
  | with_reducible refine eo_no ?_
  | with_reducible refine eo_part ?_
  | with_reducible refine ee_tup ?_
  | with_reducible refine ee_lst ?_
  | with_reducible refine et_test ?_
  | with_reducible refine et_tB ?_
  | with_reducible refine et_tru ?_
  | with_reducible refine et_and ?_
  | with_reducible refine et_or ?_
  | with_reducible refine et_not ?_
  | with_reducible refine ee_and ?_
  | with_reducible refine ee_or ?_
  | with_reducible refine ee_not ?_
  | with_reducible refine ee_if ?_
  | with_reducible refine ee_chain ?_
  | with_reducible refine er_addI ?_
  | with_reducible refine er_subI ?_
  | with_reducible refine er_eqI ?_
  | with_reducible refine er_neI ?_
  | with_reducible refine er_eqNI ?_
  | with_reducible refine er_eqS ?_
  | with_reducible refine er_neS ?_
  | with_reducible refine er_eqB ?_
  | with_reducible refine er_neB ?_
  | with_reducible refine er_lt ?_
  | with_reducible refine er_le ?_
  | with_reducible refine er_gt ?_
  | with_reducible refine er_ge ?_
  | with_reducible refine er_isN_non ?_
  | with_reducible refine er_isN_bl ?_
  | with_reducible refine er_isN_int ?_
  | with_reducible refine er_isN_str ?_
  | with_reducible refine er_isN_ref ?_
  | with_reducible refine er_notN_non ?_
  | with_reducible refine er_notN_bl ?_
  | with_reducible refine er_notN_int ?_
  | with_reducible refine er_notN_str ?_
  | with_reducible refine er_notN_ref ?_
  | with_reducible refine er_isN ?_
  | with_reducible refine er_notN ?_
  | with_reducible refine ec_int ?_
  | with_reducible refine ec_intB ?_
  | with_reducible refine ec_max2 ?_
  | with_reducible refine ec_min2 ?_
  | with_reducible refine ip_I ?_
  | ((with_reducible refine eg_name ?_); (try dsimp only [L2.wipe, List.set_cons_zero, List.set_cons_succ]))
  | with_reducible refine eg_sub ?_
  | with_reducible refine egs_cons ?_
  | with_reducible refine egs_nil ?_
  | with_reducible refine tru_bl ?_
  | with_reducible refine tru_int ?_
  | with_reducible refine tru_non ?_
  | with_reducible refine iteT ?_
  | with_reducible refine iteF ?_
  | with_reducible refine ite_nt ?_
  | with_reducible refine ite_nf ?_
  | with_reducible refine ⟨_, rfl, ?_⟩)
local macro_rules | `(tactic| k_extra "s") => `(tactic| ((first | k_extra "x1" | ((with_reducible refine es_unf ?_); refine es_seq ?_)); (repeat k_extra "x1")))
local macro_rules | `(tactic| k_extra "x") => `(tactic| (repeat first | k_extra "x1" | ((with_reducible refine es_unf ?_); refine es_seq ?_)))
local macro_rules | `(tactic| k_extra "start") => `(tactic| dsimp only [L2.start, List.map_cons, List.map_nil, List.length_cons, List.length_nil, Nat.reduceAdd, Nat.reduceSub, List.replicate, List.cons_append, List.nil_append, Nat.zero_add])
local macro_rules | `(tactic| k_extra "e1") => `(tactic| first
  | with_reducible refine es_next ?_
  | ((with_reducible show Ee (tVar _) _ _ _); refine ee_var rfl ?_)
  | with_reducible refine ee_c ?_
  | with_reducible refine ee_op ?_
  | with_reducible refine ee_un ?_
  | with_reducible refine eu_neg ?_
  | with_reducible refine ee_cb ?_
  | with_reducible refine ee_call ?_
  | with_reducible refine ea_nil ?_
  | with_reducible refine ea_cons ?_
  | with_reducible refine ee_sl ?_
  | with_reducible refine eo_no ?_
  | with_reducible refine eo_part ?_
  | with_reducible refine ee_tup ?_
  | with_reducible refine ee_lst ?_
  | with_reducible refine et_test ?_
  | with_reducible refine et_tB ?_
  | with_reducible refine et_tru ?_
  | with_reducible refine et_and ?_
  | with_reducible refine et_or ?_
  | with_reducible refine et_not ?_
  | with_reducible refine ee_and ?_
  | with_reducible refine ee_or ?_
  | with_reducible refine ee_not ?_
  | with_reducible refine ee_if ?_
  | with_reducible refine ee_chain ?_
  | with_reducible refine er_addI ?_
  | with_reducible refine er_subI ?_
  | with_reducible refine er_eqI ?_
  | with_reducible refine er_neI ?_
  | with_reducible refine er_eqNI ?_
  | with_reducible refine er_eqS ?_
  | with_reducible refine er_neS ?_
  | with_reducible refine er_eqB ?_
  | with_reducible refine er_neB ?_
  | with_reducible refine er_lt ?_
  | with_reducible refine er_le ?_
  | with_reducible refine er_gt ?_
  | with_reducible refine er_ge ?_
  | with_reducible refine er_isN_non ?_
  | with_reducible refine er_isN_bl ?_
  | with_reducible refine er_isN_int ?_
  | with_reducible refine er_isN_str ?_
  | with_reducible refine er_isN_ref ?_
  | with_reducible refine er_notN_non ?_
  | with_reducible refine er_notN_bl ?_
  | with_reducible refine er_notN_int ?_
  | with_reducible refine er_notN_str ?_
  | with_reducible refine er_notN_ref ?_
  | with_reducible refine er_isN ?_
  | with_reducible refine er_notN ?_
  | with_reducible refine ec_int ?_
  | with_reducible refine ec_intB ?_
  | with_reducible refine ec_max2 ?_
  | with_reducible refine ec_min2 ?_
  | with_reducible refine ip_I ?_
  | ((with_reducible refine eg_name ?_); (try dsimp only [L2.wipe, List.set_cons_zero, List.set_cons_succ]))
  | with_reducible refine eg_sub ?_
  | with_reducible refine egs_cons ?_
  | with_reducible refine egs_nil ?_
  | with_reducible refine tru_bl ?_
  | with_reducible refine tru_int ?_
  | with_reducible refine tru_non ?_
  | with_reducible refine iteT ?_
  | with_reducible refine iteF ?_
  | with_reducible refine ite_nt ?_
  | with_reducible refine ite_nf ?_
  | with_reducible refine ex_bl ?_
  | with_reducible refine ex_int ?_
  | with_reducible refine ex_str ?_
  | with_reducible refine ex_strx ?_
  | with_reducible refine ex_ints1 ?_
  | with_reducible refine ex_ints2 ?_)
local macro_rules | `(tactic| k_extra "t1") => `(tactic| first
  | with_reducible refine es_asg ?_
  | with_reducible refine es_if ?_
  | with_reducible refine es_ret ?_
  | with_reducible refine es_drop ?_
  | with_reducible refine es_augS ?_
  | with_reducible refine es_fld ?_)
local macro_rules | `(tactic| k_extra "e") => `(tactic| first
  | ((with_reducible refine es_seq ?_); (try k_extra "t1"); (repeat k_extra "e1"))
  | (k_extra "t1"; (repeat k_extra "e1"))
  | (k_extra "e1"; (repeat k_extra "e1"))
  | ((with_reducible refine es_unf ?_); (refine es_seq ?_); (try k_extra "t1"); (repeat k_extra "e1")))
section
variable {K : PySem.W.Frag} {A : Ad} {G : Hp} {a l : Addr} {ns : List Int} {n : Int} {s : List Nat} {d : Dd} {ts : List Tri} {D : Ek} {c0 c2 c7 c8 c9 c10 c11 c12 c13 : Option V} {v5 : V} {acc : List V} {pt : Addr}
/-- a drawn triple -/
def TrN (t : Tri) : Prop := TOk t ∧ (wrT t).length ≤ 700
theorem TrN.mk {r n : Int} {d : Dd} (h0 : 0 ≤ r) (h1 : r < 9) (hn : Num n) (hd : DOk d) (hl : (wrD d).length ≤ 600) : TrN (r, n, d) := by
  refine ⟨⟨⟨h0, Int.lt_of_lt_of_le h1 (by decide)⟩, hn.big, hd⟩, ?_⟩
  rw [wrT_len]
  have := wrN_le 1 r.toNat (by decide) (by omega)
  have := hn.len
  show (wrN r.toNat).length + (wrN n.toNat).length + (wrD d).length ≤ 700
  omega
theorem trs_len : ∀ ts : List Tri, (∀ t ∈ ts, TrN t) → ((ts.map wrT).flatten).length ≤ 700 * ts.length
  | [], _ => Nat.le_refl _
  | t :: r, h => by
    rw [List.map_cons, List.flatten_cons, List.length_append, List.length_cons]
    have := (h t List.mem_cons_self).2
    have := trs_len r fun x hx => h x (List.mem_cons_of_mem _ hx)
    omega
/-- the long number, then the kinds -/
theorem turn_row {N : Hp} {pw po : Addr} {us tv : List V} {L : List Hp} {c3 c4 c5 c6 : Option V} (h : Sd K a l ns L G) (hN : N ∈ L) (hp : N pw = some (.lst us)) (hE : Els N us (wrTh n s d ts)) (hb : ∀ (k : Nat) (x : List Int), (wrTh n s d ts)[k]? = some x → Byt x ∧ x.length ≤ 300000)
    (ho : N po = some (.lst tv)) (hv : ∀ k : Nat, k < 5 → ∃ v, tv[k]? = some v ∧ ∀ G', Sd K a l ns L G' → Tx G G' → Dp K G' v (thK n s d ts k).data)
    (hn : Big n) (hs : TxOk s) (hd : DOk d) (hts : ∀ t ∈ ts, TOk t)
    (q : ∀ c10 c11 c12 c13 G', Sd K a l ns L G' → D.nx [c0, some (.ref a), c2, c3, c4, c5, c6, some (.ref pw), c8, some (.ref po), c10, c11, c12, c13] G') :
    Es (t_law_4 K A) D [c0, some (.ref a), c2, c3, c4, c5, c6, some (.ref pw), c8, some (.ref po), c10, c11, c12, c13] G := by
  k_extra "e"
  refine ee_lcR1 ?_
  k_extra "e"
  refine nxS h (log2_ok (by decide) (by decide)) fun x G1 x0 x1 h1 t1 => ?_
  k_extra "e"
  refine ⟨by omega, fun pl hpl => ⟨fun i acc G' => ∃ w : List Int, Sd K a l ns L G' ∧ G' pl = none ∧ acc = w.map V.int ∧ w.length = i ∧ Byt w ∧ Tx G G' ∧ i ≤ 63, ⟨[], h1, hpl, rfl, rfl, (fun c hc => by cases hc), t1, by decide⟩, ?_, ?_, ?_⟩⟩
  · rintro i acc G' ⟨w, z1, z2, rfl, z4, z5, z6, z7⟩
    exact ⟨z2, by rw [List.length_map]; exact szlt (by omega)⟩
  · rintro i acc G' hi ⟨w, z1, z2, rfl, z4, z5, z6, z7⟩
    refine ⟨rfl, et_yes ?_⟩
    refine iteT ?_
    dsimp only [L2.wipe, List.set_cons_zero, List.set_cons_succ]
    k_extra "e"
    refine nxS (z1.add (o := .lst (w.map V.int)) z2) (log2_ok (by decide) (by decide)) fun y G9 y0 y1 s2 u2 => ?_
    k_extra "e"
    obtain ⟨d1, d2, d3⟩ := s2.del
    exact ⟨d2, Lw.del _ pl, del_ex d2, w ++ [128 + y], d1, del_at, by simp, by rw [List.length_append, z4]; rfl, byt_app z5 (byt_one ⟨by omega, by omega⟩), z6.trans (((Ex.new z2).tx.trans u2).trans d3), by omega⟩
  rintro acc G2 ⟨w, z1, z2, rfl, z4, z5, z6, z7⟩
  have h2 := z1.add (o := .lst (w.map V.int)) z2
  k_extra "e"
  refine nxS h2 (log2_ok (by decide) (by decide)) fun y G3 y0 y1 h3 t3 => ?_
  have g3 : Li G3 pl w := h3.ex (X := one pl (.lst (w.map V.int))) List.mem_cons_self _ _ one_at
  k_extra "e"
  refine ⟨sz1000 (by simp), fun p1 hp1 => ?_⟩
  refine er_li (y := [y]) (get_new g3 hp1) upd_same (by simp; omega) fun p2 hp2 => ?_
  have e4 := (Ex.new (o := .lst (([y] : List Int).map V.int)) hp1).trans (Ex.new (o := .lst ((w ++ [y]).map V.int)) hp2)
  have t4 := (z6.trans ((Ex.new (o := .lst (w.map V.int)) z2).tx.trans t3)).trans e4.tx
  k_extra "e"
  exact turn_long (h3.drop.junk e4) hN hp hE hb hN ho (fun k hk => by
    obtain ⟨v, hv1, hv2⟩ := hv k hk
    exact ⟨v, hv1, fun G' h' t' => hv2 G' h' (t4.trans t')⟩) hn hs hd hts li_new (byt_app z5 (byt_one ⟨y0, by omega⟩)) (by simp; omega) fun c11 c12 c13 G' h' _ => q _ _ _ _ _ h'
end
end Lw

namespace Lw
open PySem PySem.Spec PyProof.Rows L2
local macro_rules | `(tactic| k_extra "x1") => `(tactic| first
  | with_reducible refine es_seq ?_
  | with_reducible refine es_asg ?_
  | with_reducible refine es_if ?_
  | with_reducible refine es_ret ?_
  | with_reducible refine es_drop ?_
  | with_reducible refine es_next ?_
  | with_reducible refine es_augS ?_
  | with_reducible refine es_fld ?_
  | ((with_reducible show Ee (tVar _) _ _ _); refine ee_var rfl ?_)
  | with_reducible refine ee_c ?_
  | with_reducible refine ee_op ?_
  | with_reducible refine ee_un ?_
  | with_reducible refine eu_neg ?_
  | with_reducible refine ee_cb ?_
  | with_reducible refine ee_call ?_
  | with_reducible refine ea_nil ?_
  | with_reducible refine ea_cons ?_
  | with_reducible refine ee_sl ?_
  | with_reducible refine eo_no ?_
  | with_reducible refine eo_part ?_
  | with_reducible refine ee_tup ?_
  | with_reducible refine ee_lst ?_
  | with_reducible refine et_test ?_
  | with_reducible refine et_tB ?_
  | with_reducible refine et_tru ?_
  | with_reducible refine et_and ?_
  | with_reducible refine et_or ?_
  | with_reducible refine et_not ?_
  | with_reducible refine ee_and ?_
  | with_reducible refine ee_or ?_
  | with_reducible refine ee_not ?_
  | with_reducible refine ee_if ?_
  | with_reducible refine ee_chain ?_
  | with_reducible refine er_addI ?_
  | with_reducible refine er_subI ?_
  | with_reducible refine er_eqI ?_
  | with_reducible refine er_neI ?_
  | with_reducible refine er_eqNI ?_
  | with_reducible refine er_eqS ?_
  | with_reducible refine er_neS ?_
  | with_reducible refine er_eqB ?_
  | with_reducible refine er_neB ?_
  | with_reducible refine er_lt ?_
  | with_reducible refine er_le ?_
  | with_reducible refine er_gt ?_
  | with_reducible refine er_ge ?_
  | with_reducible refine er_isN_non ?_
  | with_reducible refine er_isN_bl ?_
  | with_reducible refine er_isN_int ?_
  | with_reducible refine er_isN_str ?_
  | with_reducible refine er_isN_ref ?_
  | with_reducible refine er_notN_non ?_
  | with_reducible refine er_notN_bl ?_
  | with_reducible refine er_notN_int ?_
  | with_reducible refine er_notN_str ?_
  | with_reducible refine er_notN_ref ?_
  | with_reducible refine er_isN ?_
  | with_reducible refine er_notN ?_
  | with_reducible refine ec_int ?_
  | with_reducible refine ec_intB ?_
  | with_reducible refine ec_max2 ?_
  | with_reducible refine ec_min2 ?_
  | with_reducible refine ip_I ?_
  | ((with_reducible refine eg_name ?_); (try dsimp only [L2.wipe, List.set_cons_zero, List.set_cons_succ]))
  | with_reducible refine eg_sub ?_
  | with_reducible refine egs_cons ?_
  | with_reducible refine egs_nil ?_
  | with_reducible refine tru_bl ?_
  | with_reducible refine tru_int ?_
  | with_reducible refine tru_non ?_
  | with_reducible refine iteT ?_
  | with_reducible refine iteF ?_
  | with_reducible refine ite_nt ?_
  | with_reducible refine ite_nf ?_
  | with_reducible refine ⟨_, rfl, ?_⟩)
local macro_rules | `(tactic| k_extra "s") => `(tactic| ((first | k_extra "x1" | ((with_reducible refine es_unf ?_); refine es_seq ?_)); (repeat k_extra "x1")))
local macro_rules | `(tactic| k_extra "x") => `(tactic| (repeat first | k_extra "x1" | ((with_reducible refine es_unf ?_); refine es_seq ?_)))
local macro_rules | `(tactic| k_extra "start") => `(tactic| dsimp only [L2.start, List.map_cons, List.map_nil, List.length_cons, List.length_nil, Nat.reduceAdd, Nat.reduceSub, List.replicate, List.cons_append, List.nil_append, Nat.zero_add])
local macro_rules | `(tactic| k_extra "e1") => `(tactic| first
  | with_reducible refine es_next ?_
  | ((with_reducible show Ee (tVar _) _ _ _); refine ee_var rfl ?_)
  | with_reducible refine ee_c ?_
  | with_reducible refine ee_op ?_
  | with_reducible refine ee_un ?_
  | with_reducible refine eu_neg ?_
  | with_reducible refine ee_cb ?_
  | with_reducible refine ee_call ?_
  | with_reducible refine ea_nil ?_
  | with_reducible refine ea_cons ?_
  | with_reducible refine ee_sl ?_
  | with_reducible refine eo_no ?_
  | with_reducible refine eo_part ?_
  | with_reducible refine ee_tup ?_
  | with_reducible refine ee_lst ?_
  | with_reducible refine et_test ?_
  | with_reducible refine et_tB ?_
  | with_reducible refine et_tru ?_
  | with_reducible refine et_and ?_
  | with_reducible refine et_or ?_
  | with_reducible refine et_not ?_
  | with_reducible refine ee_and ?_
  | with_reducible refine ee_or ?_
  | with_reducible refine ee_not ?_
  | with_reducible refine ee_if ?_
  | with_reducible refine ee_chain ?_
  | with_reducible refine er_addI ?_
  | with_reducible refine er_subI ?_
  | with_reducible refine er_eqI ?_
  | with_reducible refine er_neI ?_
  | with_reducible refine er_eqNI ?_
  | with_reducible refine er_eqS ?_
  | with_reducible refine er_neS ?_
  | with_reducible refine er_eqB ?_
  | with_reducible refine er_neB ?_
  | with_reducible refine er_lt ?_
  | with_reducible refine er_le ?_
  | with_reducible refine er_gt ?_
  | with_reducible refine er_ge ?_
  | with_reducible refine er_isN_non ?_
  | with_reducible refine er_isN_bl ?_
  | with_reducible refine er_isN_int ?_
  | with_reducible refine er_isN_str ?_
  | with_reducible refine er_isN_ref ?_
  | with_reducible refine er_notN_non ?_
  | with_reducible refine er_notN_bl ?_
  | with_reducible refine er_notN_int ?_
  | with_reducible refine er_notN_str ?_
  | with_reducible refine er_notN_ref ?_
  | with_reducible refine er_isN ?_
  | with_reducible refine er_notN ?_
  | with_reducible refine ec_int ?_
  | with_reducible refine ec_intB ?_
  | with_reducible refine ec_max2 ?_
  | with_reducible refine ec_min2 ?_
  | with_reducible refine ip_I ?_
  | ((with_reducible refine eg_name ?_); (try dsimp only [L2.wipe, List.set_cons_zero, List.set_cons_succ]))
  | with_reducible refine eg_sub ?_
  | with_reducible refine egs_cons ?_
  | with_reducible refine egs_nil ?_
  | with_reducible refine tru_bl ?_
  | with_reducible refine tru_int ?_
  | with_reducible refine tru_non ?_
  | with_reducible refine iteT ?_
  | with_reducible refine iteF ?_
  | with_reducible refine ite_nt ?_
  | with_reducible refine ite_nf ?_
  | with_reducible refine ex_bl ?_
  | with_reducible refine ex_int ?_
  | with_reducible refine ex_str ?_
  | with_reducible refine ex_strx ?_
  | with_reducible refine ex_ints1 ?_
  | with_reducible refine ex_ints2 ?_)
local macro_rules | `(tactic| k_extra "t1") => `(tactic| first
  | with_reducible refine es_asg ?_
  | with_reducible refine es_if ?_
  | with_reducible refine es_ret ?_
  | with_reducible refine es_drop ?_
  | with_reducible refine es_augS ?_
  | with_reducible refine es_fld ?_)
local macro_rules | `(tactic| k_extra "e") => `(tactic| first
  | ((with_reducible refine es_seq ?_); (try k_extra "t1"); (repeat k_extra "e1"))
  | (k_extra "t1"; (repeat k_extra "e1"))
  | (k_extra "e1"; (repeat k_extra "e1"))
  | ((with_reducible refine es_unf ?_); (refine es_seq ?_); (try k_extra "t1"); (repeat k_extra "e1")))
section
variable {K : PySem.W.Frag} {A : Ad} {G : Hp} {a l pl : Addr} {ns : List Int} {n : Int} {s : List Nat} {d : Dd} {ts : List Tri} {D : Ek} {c0 c2 c3 c4 c5 c6 c7 c8 c9 c10 c11 c12 c13 : Option V} {v5 : V} {acc : List V}
theorem ints_dp {G : Hp} {p : Addr} {w : List Int} (h : Li G p w) : Dp K G (.ref p) (.list (w.map PyData.int)) := .lst (SqL.of h) (dps_ints w)
theorem wr_dep (ws : List (List Int)) : (PyData.list (ws.map fun w => PyData.list (w.map PyData.int))).depth < 8 := by
  have := dep_il ws
  simp only [PyData.depth]; omega
/-- what is written, and what is made of it -/
theorem turn_write (h : Sd K a l ns [one pl (.lst acc)] G) (hn : Num n) (hs : TxOk s) (hsl : s.length ≤ 139) (hd : DOk d) (hdl : (wrD d).length ≤ 600) (hI : Im K G v5 d.data) (hT : Ims K G acc (ts.map triD)) (hts : ∀ t ∈ ts, TrN t) (htl : ts.length ≤ 6)
    (q : ∀ c7 c8 c9 c10 c11 c12 c13 G', Sd K a l ns [one pl (.lst acc)] G' → D.nx [c0, some (.ref a), c2, some (.int n), some (.str (mkS s)), some v5, some (.ref pl), c7, c8, c9, c10, c11, c12, c13] G') :
    Es (t_law_9 K A) D [c0, some (.ref a), c2, some (.int n), some (.str (mkS s)), some v5, some (.ref pl), c7, c8, c9, c10, c11, c12, c13] G := by
  have gl : G pl = some (.lst acc) := h.ex (X := one pl (.lst acc)) List.mem_cons_self _ _ one_at
  have hnl := hn.len
  have hsl2 := tx_len hs hsl
  have htr := trs_len ts hts
  have htw : (wrTs ts).length ≤ 4211 := by
    have h1 : (wrTs ts).length = _ := wrL_len (ts.map wrT)
    rw [List.length_map] at h1
    have := wrN_le 1 ts.length (by decide) (by omega)
    omega
  have htp : (wrP ts).length = 1 + (wrTs ts).length := by simp [wrP, Nat.add_comm]
  have hts2 : ∀ t ∈ ts, TOk t := fun t ht => (hts t ht).1
  k_extra "e"
  refine ⟨n.toNat, by rw [← nat_of hn.1]; rfl, by omega, fun G1 p1 e1 hp1 => ?_⟩
  have x1 := e1.trans (Ex.new (o := .lst ((wrN n.toNat).map V.int)) hp1)
  k_extra "e"
  refine ⟨s, rfl, by omega, fun G2 p2 e2 hp2 => ?_⟩
  have y2 := e2.trans (Ex.new (o := .lst ((wrS s).map V.int)) hp2)
  have x2 := x1.trans y2
  k_extra "e"
  refine ⟨v5, d, rfl, x2.tx.im hI, hd, by omega, fun G3 p3 e3 hp3 => ?_⟩
  have y3 := e3.trans (Ex.new (o := .lst ((wrD d).map V.int)) hp3)
  have x3 := x2.trans y3
  k_extra "e"
  refine ec_list (.inl (SqL.of (x3 _ _ gl))) fun q4 hq4 => ?_
  have z4 := Ex.new (o := .lst acc) hq4
  k_extra "e"
  refine ⟨q4, acc, ts, rfl, upd_same, (x3.trans z4).tx.ims hT, hts2, by omega, fun G4 p4 e4 hp4 => ?_⟩
  have y4 := (z4.trans e4).trans (Ex.new (o := .lst ((wrTs ts).map V.int)) hp4)
  have x4 := x3.trans y4
  k_extra "e"
  refine ec_list (.inl (SqL.of (x4 _ _ gl))) fun q5 hq5 => ?_
  have z5 := Ex.new (o := .lst acc) hq5
  k_extra "e"
  refine ⟨q5, acc, ts, rfl, upd_same, (x4.trans z5).tx.ims hT, hts2, by omega, fun G5 p5 e5 hp5 => ?_⟩
  have y5 := (z5.trans e5).trans (Ex.new (o := .lst ((wrP ts).map V.int)) hp5)
  have x5 := x4.trans y5
  k_extra "e"
  refine ⟨sz1000 (by simp), fun pw hpw => ?_⟩
  have z6 := Ex.new (o := .lst [.ref p1, .ref p2, .ref p3, .ref p4, .ref p5]) hpw
  have g1 : Li (upd (upd G5 p5 (.lst ((wrP ts).map V.int))) pw (.lst [.ref p1, .ref p2, .ref p3, .ref p4, .ref p5])) p1 (wrN n.toNat) := ((((y2.trans y3).trans y4).trans y5).trans z6) _ _ upd_same
  have g2 : Li (upd (upd G5 p5 (.lst ((wrP ts).map V.int))) pw (.lst [.ref p1, .ref p2, .ref p3, .ref p4, .ref p5])) p2 (wrS s) := (((y3.trans y4).trans y5).trans z6) _ _ upd_same
  have g3 : Li (upd (upd G5 p5 (.lst ((wrP ts).map V.int))) pw (.lst [.ref p1, .ref p2, .ref p3, .ref p4, .ref p5])) p3 (wrD d) := ((y4.trans y5).trans z6) _ _ upd_same
  have g4 : Li (upd (upd G5 p5 (.lst ((wrP ts).map V.int))) pw (.lst [.ref p1, .ref p2, .ref p3, .ref p4, .ref p5])) p4 (wrTs ts) := (y5.trans z6) _ _ upd_same
  have g5 : Li (upd (upd G5 p5 (.lst ((wrP ts).map V.int))) pw (.lst [.ref p1, .ref p2, .ref p3, .ref p4, .ref p5])) p5 (wrP ts) := z6 _ _ upd_same
  have gw : upd (upd G5 p5 (.lst ((wrP ts).map V.int))) pw (.lst [.ref p1, .ref p2, .ref p3, .ref p4, .ref p5]) pw = some (.lst [.ref p1, .ref p2, .ref p3, .ref p4, .ref p5]) := upd_same
  have x6 := x5.trans z6
  have f1 : G p1 = none := e1.nul hp1
  have f2 : G p2 = none := (x1.trans e2).nul hp2
  have f3 : G p3 = none := (x2.trans e3).nul hp3
  have f4 : G p4 = none := ((x3.trans z4).trans e4).nul hp4
  have f5 : G p5 = none := ((x4.trans z5).trans e5).nul hp5
  have fw : G pw = none := x5.nul hpw
  generalize upd (upd G5 p5 (.lst ((wrP ts).map V.int))) pw (.lst [.ref p1, .ref p2, .ref p3, .ref p4, .ref p5]) = G6 at g1 g2 g3 g4 g5 gw x6 ⊢
  clear x5 y5 z5 x4 y4 z4 x3 y3 x2 y2 x1 z6
  k_extra "e"
  k_extra "e"
  refine ⟨pl, acc, ts, rfl, x6 _ _ gl, x6.tx.ims hT, hts2, by omega, fun G7 p7 e7 hp7 => ?_⟩
  have y7 := e7.trans (Ex.new (o := .lst ((wrTs ts).map V.int)) hp7)
  have g7 : Li (upd G7 p7 (.lst ((wrTs ts).map V.int))) p7 (wrTs ts) := li_new
  generalize upd G7 p7 (.lst ((wrTs ts).map V.int)) = G8 at y7 g7 ⊢
  k_extra "e"
  k_extra "e"
  refine ⟨n.toNat, by rw [← nat_of hn.1]; rfl, by omega, fun H1 r1 a1 hr1 => ?_⟩
  have b1 := a1.trans (Ex.new (o := .lst ((wrN n.toNat).map V.int)) hr1)
  k_extra "e"
  refine ⟨s, rfl, by omega, fun H2 r2 a2 hr2 => ?_⟩
  have b2 := a2.trans (Ex.new (o := .lst ((wrS s).map V.int)) hr2)
  k_extra "e"
  refine ⟨v5, d, rfl, (x6.trans (y7.trans (b1.trans b2))).tx.im hI, hd, by omega, fun H3 r3 a3 hr3 => ?_⟩
  have b3 := a3.trans (Ex.new (o := .lst ((wrD d).map V.int)) hr3)
  k_extra "e"
  refine ⟨sz1000 (by simp), fun r4 hr4 => ?_⟩
  have b4 := Ex.new (o := .lst (([1] : List Int).map V.int)) hr4
  k_extra "e"
  refine er_li (x := [1]) upd_same (g7.up (((b1.trans b2).trans b3).trans b4)) (by simp; omega) fun r5 hr5 => ?_
  have b5 := Ex.new (o := .lst (([1] ++ wrTs ts).map V.int)) hr5
  k_extra "e"
  refine ⟨sz1000 (by simp), fun r6 hr6 => ?_⟩
  have b6 := Ex.new (o := .lst [.ref r1, .ref r2, .ref r3, .ref p7, .ref r5]) hr6
  have b45 := b4.trans (b5.trans b6)
  have k1 := ((b2.trans b3).trans b45) r1 _ upd_same
  have k2 := (b3.trans b45) r2 _ upd_same
  have k3 := b45 r3 _ upd_same
  have k4 := g7.up (((b1.trans b2).trans b3).trans b45)
  have k5 := b6 r5 _ upd_same
  have kk : upd (upd (upd (upd H3 r3 (.lst ((wrD d).map V.int))) r4 (.lst [.int 1])) r5 (.lst (([1] ++ wrTs ts).map V.int))) r6 (.lst [.ref r1, .ref r2, .ref r3, .ref p7, .ref r5]) r6 = some (.lst [.ref r1, .ref r2, .ref r3, .ref p7, .ref r5]) := upd_same
  have x8 := y7.trans (((b1.trans b2).trans b3).trans b45)
  generalize upd (upd (upd (upd H3 r3 (.lst ((wrD d).map V.int))) r4 (.lst [.int 1])) r5 (.lst (([1] ++ wrTs ts).map V.int))) r6 (.lst [.ref r1, .ref r2, .ref r3, .ref p7, .ref r5]) = H6 at k1 k2 k3 k4 k5 kk x8 ⊢
  clear b1 b2 b3 b4 b5 b6 b45
  k_extra "e"
  refine same_call (d := .list ((wrTh n s d ts).map fun w => .list (w.map PyData.int))) (.lst (SqL.of (x8 _ _ gw)) (.cons (ints_dp (g1.up x8)) (.cons (ints_dp (g2.up x8)) (.cons (ints_dp (g3.up x8)) (.cons (ints_dp (g4.up x8)) (.cons (ints_dp (g5.up x8)) .nil))))))
    (.lst (SqL.of kk) (.cons (ints_dp k1) (.cons (ints_dp k2) (.cons (ints_dp k3) (.cons (ints_dp k4) (.cons (ints_dp k5) .nil)))))) (wr_dep _) ?_
  k_extra "e"
  k_extra "e"
  refine ⟨sz1000 (by simp), fun po hpo => ?_⟩
  have z9 := Ex.new (o := .lst [.int n, .str (mkS s), v5, .ref pl, .ref pl]) hpo
  have go : upd H6 po (.lst [.int n, .str (mkS s), v5, .ref pl, .ref pl]) po = some (.lst [.int n, .str (mkS s), v5, .ref pl, .ref pl]) := upd_same
  have x9 := x8.trans z9
  have x69 := x6.trans x9
  have fo : G po = none := (x6.trans x8).nul hpo
  generalize upd H6 po (.lst [.int n, .str (mkS s), v5, .ref pl, .ref pl]) = G9 at go x9 x69 ⊢
  have hEls : Els G9 [.ref p1, .ref p2, .ref p3, .ref p4, .ref p5] (wrTh n s d ts) := .cons (g1.up x9) (.cons (g2.up x9) (.cons (g3.up x9) (.cons (g4.up x9) (.cons (g5.up x9) .nil))))
  have lst_dp : ∀ {G' : Hp}, G' pl = some (.lst acc) → Ims K G' acc (ts.map triD) → Dp K G' (.ref pl) (.list (ts.map triD)) := fun h1 h2 => .lst (SqL.of h1) h2.dps
  k_extra "e"
  k_extra "e"
  refine ⟨po, pw, _, n, s, d, ts, rfl, .lst (SqL.of go) (.cons (.int _) (.cons (.str _) (.cons (x69.tx.im hI).dp (.cons (lst_dp (x69 _ _ gl) (x69.tx.ims hT)) (.cons (lst_dp (x69 _ _ gl) (x69.tx.ims hT)) .nil))))), x9 _ _ gw, hEls, hn.big, hs, hd, hts2, ?_, fun G10 e10 => ?_⟩
  · simp only [wrTh, List.flatten_cons, List.flatten_nil, List.append_nil, List.length_append]; omega
  k_extra "e"
  have hN := h.grab (x69.trans e10)
  refine turn_row (N := newp G G10) hN List.mem_cons_self (newp_get fw (e10 _ _ (x9 _ _ gw)))
    (.cons (newp_get f1 (e10 _ _ (g1.up x9))) (.cons (newp_get f2 (e10 _ _ (g2.up x9))) (.cons (newp_get f3 (e10 _ _ (g3.up x9))) (.cons (newp_get f4 (e10 _ _ (g4.up x9))) (.cons (newp_get f5 (e10 _ _ (g5.up x9))) .nil))))) (fun k x hx => ?_) (newp_get fo (e10 _ _ go)) (fun k hk => ?_) hn.big hs hd hts2 fun c10 c11 c12 c13 G' h' => q _ _ _ _ _ _ _ _ h'.drop
  · match k, hx with
    | 0, hx => obtain rfl := Option.some.inj hx; exact ⟨byt_wrN _, by omega⟩
    | 1, hx => obtain rfl := Option.some.inj hx; exact ⟨byt_wrS _, by omega⟩
    | 2, hx => obtain rfl := Option.some.inj hx; exact ⟨byt_wrD _, by omega⟩
    | 3, hx => obtain rfl := Option.some.inj hx; exact ⟨byt_wrTs _, by omega⟩
    | 4, hx => obtain rfl := Option.some.inj hx; exact ⟨byt_wrP _, by omega⟩
    | k + 5, hx => simp [wrTh] at hx
  · have t10 := (x69.trans e10).tx
    have lp : ∀ {G' : Hp}, Sd K a l ns (newp G G10 :: [one pl (.lst acc)]) G' → Tx G10 G' → Dp K G' (.ref pl) (.list (ts.map triD)) := fun h' t' => lst_dp (h'.ex (X := one pl (.lst acc)) (by simp) _ _ one_at) ((t10.trans t').ims hT)
    match k, hk with
    | 0, _ => exact ⟨_, rfl, fun G' _ _ => .int _⟩
    | 1, _ => exact ⟨_, rfl, fun G' _ _ => .str _⟩
    | 2, _ => exact ⟨_, rfl, fun G' _ t' => ((t10.trans t').im hI).dp⟩
    | 3, _ => exact ⟨_, rfl, fun G' h' t' => lp h' t'⟩
    | 4, _ => exact ⟨_, rfl, fun G' h' t' => lp h' t'⟩
    | k + 5, hk => omega
end
end Lw

namespace Lw
open PySem PySem.Spec PyProof.Rows L2
local macro_rules | `(tactic| k_extra "x1") => `(tactic| first
  | with_reducible refine es_seq ?_
  | with_reducible refine es_asg ?_
  | with_reducible refine es_if ?_
  | with_reducible refine es_ret ?_
  | with_reducible refine es_drop ?_
  | with_reducible refine es_next ?_
  | with_reducible refine es_augS ?_
  | with_reducible refine es_fld ?_
  | ((with_reducible show Ee (tVar _) _ _ _); refine ee_var rfl ?_)
  | with_reducible refine ee_c ?_
  | with_reducible refine ee_op ?_
  | with_reducible refine ee_un ?_
  | with_reducible refine eu_neg ?_
  | with_reducible refine ee_cb ?_
  | with_reducible refine ee_call ?_
  | with_reducible refine ea_nil ?_
  | with_reducible refine ea_cons ?_
  | with_reducible refine ee_sl ?_
  | with_reducible refine eo_no ?_
  | with_reducible refine eo_part ?_
  | with_reducible refine ee_tup ?_
  | with_reducible refine ee_lst ?_
  | with_reducible refine et_test ?_
  | with_reducible refine et_tB ?_
  | with_reducible refine et_tru ?_
  | with_reducible refine et_and ?_
  | with_reducible refine et_or ?_
  | with_reducible refine et_not ?_
  | with_reducible refine ee_and ?_
  | with_reducible refine ee_or ?_
  | with_reducible refine ee_not ?_
  | with_reducible refine ee_if ?_
  | with_reducible refine ee_chain ?_
  | with_reducible refine er_addI ?_
  | with_reducible refine er_subI ?_
  | with_reducible refine er_eqI ?_
  | with_reducible refine er_neI ?_
  | with_reducible refine er_eqNI ?_
  | with_reducible refine er_eqS ?_
  | with_reducible refine er_neS ?_
  | with_reducible refine er_eqB ?_
  | with_reducible refine er_neB ?_
  | with_reducible refine er_lt ?_
  | with_reducible refine er_le ?_
  | with_reducible refine er_gt ?_
  | with_reducible refine er_ge ?_
  | with_reducible refine er_isN_non ?_
  | with_reducible refine er_isN_bl ?_
  | with_reducible refine er_isN_int ?_
  | with_reducible refine er_isN_str ?_
  | with_reducible refine er_isN_ref ?_
  | with_reducible refine er_notN_non ?_
  | with_reducible refine er_notN_bl ?_
  | with_reducible refine er_notN_int ?_
  | with_reducible refine er_notN_str ?_
  | with_reducible refine er_notN_ref ?_
  | with_reducible refine er_isN ?_
  | with_reducible refine er_notN ?_
  | with_reducible refine ec_int ?_
  | with_reducible refine ec_intB ?_
  | with_reducible refine ec_max2 ?_
  | with_reducible refine ec_min2 ?_
  | with_reducible refine ip_I ?_
  | ((with_reducible refine eg_name ?_); (try dsimp only [L2.wipe, List.set_cons_zero, List.set_cons_succ]))
  | with_reducible refine eg_sub ?_
  | with_reducible refine egs_cons ?_
  | with_reducible refine egs_nil ?_
  | with_reducible refine tru_bl ?_
  | with_reducible refine tru_int ?_
  | with_reducible refine tru_non ?_
  | with_reducible refine iteT ?_
  | with_reducible refine iteF ?_
  | with_reducible refine ite_nt ?_
  | with_reducible refine ite_nf ?_
  | with_reducible refine ⟨_, rfl, ?_⟩)
local macro_rules | `(tactic| k_extra "s") => `(tactic| ((first | k_extra "x1" | ((with_reducible refine es_unf ?_); refine es_seq ?_)); (repeat k_extra "x1")))
local macro_rules | `(tactic| k_extra "x") => `(tactic| (repeat first | k_extra "x1" | ((with_reducible refine es_unf ?_); refine es_seq ?_)))
local macro_rules | `(tactic| k_extra "start") => `(tactic| dsimp only [L2.start, List.map_cons, List.map_nil, List.length_cons, List.length_nil, Nat.reduceAdd, Nat.reduceSub, List.replicate, List.cons_append, List.nil_append, Nat.zero_add])
local macro_rules | `(tactic| k_extra "e1") => `(tactic| first
  | with_reducible refine es_next ?_
  | ((with_reducible show Ee (tVar _) _ _ _); refine ee_var rfl ?_)
  | with_reducible refine ee_c ?_
  | with_reducible refine ee_op ?_
  | with_reducible refine ee_un ?_
  | with_reducible refine eu_neg ?_
  | with_reducible refine ee_cb ?_
  | with_reducible refine ee_call ?_
  | with_reducible refine ea_nil ?_
  | with_reducible refine ea_cons ?_
  | with_reducible refine ee_sl ?_
  | with_reducible refine eo_no ?_
  | with_reducible refine eo_part ?_
  | with_reducible refine ee_tup ?_
  | with_reducible refine ee_lst ?_
  | with_reducible refine et_test ?_
  | with_reducible refine et_tB ?_
  | with_reducible refine et_tru ?_
  | with_reducible refine et_and ?_
  | with_reducible refine et_or ?_
  | with_reducible refine et_not ?_
  | with_reducible refine ee_and ?_
  | with_reducible refine ee_or ?_
  | with_reducible refine ee_not ?_
  | with_reducible refine ee_if ?_
  | with_reducible refine ee_chain ?_
  | with_reducible refine er_addI ?_
  | with_reducible refine er_subI ?_
  | with_reducible refine er_eqI ?_
  | with_reducible refine er_neI ?_
  | with_reducible refine er_eqNI ?_
  | with_reducible refine er_eqS ?_
  | with_reducible refine er_neS ?_
  | with_reducible refine er_eqB ?_
  | with_reducible refine er_neB ?_
  | with_reducible refine er_lt ?_
  | with_reducible refine er_le ?_
  | with_reducible refine er_gt ?_
  | with_reducible refine er_ge ?_
  | with_reducible refine er_isN_non ?_
  | with_reducible refine er_isN_bl ?_
  | with_reducible refine er_isN_int ?_
  | with_reducible refine er_isN_str ?_
  | with_reducible refine er_isN_ref ?_
  | with_reducible refine er_notN_non ?_
  | with_reducible refine er_notN_bl ?_
  | with_reducible refine er_notN_int ?_
  | with_reducible refine er_notN_str ?_
  | with_reducible refine er_notN_ref ?_
  | with_reducible refine er_isN ?_
  | with_reducible refine er_notN ?_
  | with_reducible refine ec_int ?_
  | with_reducible refine ec_intB ?_
  | with_reducible refine ec_max2 ?_
  | with_reducible refine ec_min2 ?_
  | with_reducible refine ip_I ?_
  | ((with_reducible refine eg_name ?_); (try dsimp only [L2.wipe, List.set_cons_zero, List.set_cons_succ]))
  | with_reducible refine eg_sub ?_
  | with_reducible refine egs_cons ?_
  | with_reducible refine egs_nil ?_
  | with_reducible refine tru_bl ?_
  | with_reducible refine tru_int ?_
  | with_reducible refine tru_non ?_
  | with_reducible refine iteT ?_
  | with_reducible refine iteF ?_
  | with_reducible refine ite_nt ?_
  | with_reducible refine ite_nf ?_
  | with_reducible refine ex_bl ?_
  | with_reducible refine ex_int ?_
  | with_reducible refine ex_str ?_
  | with_reducible refine ex_strx ?_
  | with_reducible refine ex_ints1 ?_
  | with_reducible refine ex_ints2 ?_)
local macro_rules | `(tactic| k_extra "t1") => `(tactic| first
  | with_reducible refine es_asg ?_
  | with_reducible refine es_if ?_
  | with_reducible refine es_ret ?_
  | with_reducible refine es_drop ?_
  | with_reducible refine es_augS ?_
  | with_reducible refine es_fld ?_)
local macro_rules | `(tactic| k_extra "e") => `(tactic| first
  | ((with_reducible refine es_seq ?_); (try k_extra "t1"); (repeat k_extra "e1"))
  | (k_extra "t1"; (repeat k_extra "e1"))
  | (k_extra "e1"; (repeat k_extra "e1"))
  | ((with_reducible refine es_unf ?_); (refine es_seq ?_); (try k_extra "t1"); (repeat k_extra "e1")))
theorem ok_law {K : PySem.W.Frag} {A : Ad} : ∀ vs G Q E, S_law K A vs G Q E → Es (t_law K A) { nx := fun _ G' => Q .non G', rt := Q } (L2.start ["script", "state", "k", "number", "text", "deed", "triples", "written", "own", "things", "long", "kind", "j", "data"] vs) G := by
  rintro vs G Q E ⟨a0, ns, rfl, hS, hn, q⟩
  change Es _ _ (_ :: _ :: _ :: _ :: _ :: _ :: _ :: _ :: _ :: _ :: _ :: _ :: _ :: _ :: []) _
  k_extra "e"
  refine ec_list (.inl hS) fun l hl => ?_
  k_extra "e"
  refine ⟨sz1000 (by simp), fun a ha => ?_⟩
  have hla : l ≠ a := ne_new upd_same ha
  have hs : StP K (upd (upd (fun _ => none) l (.lst (ns.map V.int))) a (StG l 0 0 1)) a l ns 0 0 1 := ⟨upd_same, get_ne upd_same hla, hla, by omega, by omega, by omega, by omega, by omega, by omega⟩
  have h0 : Sd K a l ns [] (upd (upd G l (.lst (ns.map V.int))) a (StG l 0 0 1)) := ⟨_, 0, 0, 1, hs, ⟨fun F hF => by
      rw [List.mem_singleton] at hF; subst hF
      exact (show Ex (fun _ => none) G from fun _ _ z => by cases z).put.put, List.pairwise_singleton _ _⟩⟩
  have e0 : (HO.lst [V.ref l, .int 0, .int 0, .int 1]) = StG l 0 0 1 := rfl
  rw [e0]
  generalize upd (upd G l (.lst (ns.map V.int))) a (StG l 0 0 1) = G1 at h0 ⊢
  clear hs
  k_extra "e"
  k_extra "e"
  refine es_forR1 ?_
  k_extra "e"
  refine ⟨by omega, fun i σ G' => ∃ c2 c3 c4 c5 c6 c7 c8 c9 c10 c11 c12 c13, σ = [some (.ref a0), some (.ref a), c2, c3, c4, c5, c6, c7, c8, c9, c10, c11, c12, c13] ∧ Sd K a l ns [] G', ⟨_, _, _, _, _, _, _, _, _, _, _, _, rfl, h0⟩, ?_, ?_⟩
  · rintro i σ G' hi ⟨c2, c3, c4, c5, c6, c7, c8, c9, c10, c11, c12, c13, rfl, h1⟩
    k_extra "e"
    refine ⟨a, l, ns, [], rfl, h1, fun n G2 hn2 h2 t2 => ?_⟩
    k_extra "e"
    k_extra "e"
    refine ⟨a, l, ns, [], rfl, h2, fun s G3 hs3 hsl h3 t3 => ?_⟩
    k_extra "e"
    k_extra "e"
    refine ⟨a, l, ns, [], rfl, h3, fun v5 d G4 hd4 hdl h4 t4 hI4 => ?_⟩
    k_extra "e"
    k_extra "e"
    refine ee_lcR1 ?_
    k_extra "e"
    refine nxS h4 (log2_ok (by decide) (by decide)) fun x G5 x0 x1 h5 t5 => ?_
    k_extra "e"
    refine ⟨by omega, fun pl hpl => ⟨fun i acc G' => ∃ ts : List Tri, Sd K a l ns [] G' ∧ G' pl = none ∧ Ims K G' acc (ts.map triD) ∧ ts.length = i ∧ (∀ t ∈ ts, TrN t) ∧ Tx G4 G' ∧ i ≤ 6, ⟨[], h5, hpl, .nil, rfl, (fun c hc => by cases hc), t5, by decide⟩, ?_, ?_, ?_⟩⟩
    · rintro i acc G' ⟨ts, k1, k2, k3, k4, k5, k6, k7⟩
      have := ims_len k3
      rw [List.length_map] at this
      exact ⟨k2, szlt (by omega)⟩
    · rintro i acc G' hi ⟨ts, k1, k2, k3, k4, k5, k6, k7⟩
      refine ⟨rfl, et_yes ?_⟩
      refine iteT ?_
      dsimp only [L2.wipe, List.set_cons_zero, List.set_cons_succ]
      k_extra "e"
      refine nxS (k1.add (o := .lst acc) k2) (log2_ok (by decide) (by decide)) fun r G6 r0 r1 h6 t6 => ?_
      k_extra "e"
      refine ⟨a, l, ns, _, rfl, h6, fun m G7 hm h7 t7 => ?_⟩
      k_extra "e"
      refine ⟨a, l, ns, _, rfl, h7, fun v d' G8 hd' hdl' h8 t8 hI8 => ?_⟩
      k_extra "e"
      refine ⟨sz1000 (by simp), fun t ht => ?_⟩
      have e9 := Ex.new (o := .tup [.int r, .int m, v]) ht
      obtain ⟨d1, d2, d3⟩ := (h8.junk e9).del
      have tt := ((Ex.new (o := .lst acc) k2).tx.trans ((t6.trans (t7.trans t8)).trans e9.tx)).trans d3
      refine ⟨d2, Lw.del _ pl, del_ex d2, ts ++ [(r, m, d')], d1, del_at, ?_, by rw [List.length_append, k4]; rfl, ?_, k6.trans tt, by omega⟩
      · rw [List.map_append]
        exact ims_app (tt.ims k3) (.cons (d3.im (.tup (SqT.of upd_same) (.cons (.int _) (.cons (.int _) (.cons (e9.tx.im hI8) .nil))))) .nil)
      · intro t' ht'
        rcases List.mem_append.mp ht' with ht' | ht'
        · exact k5 t' ht'
        · rw [List.mem_singleton] at ht'; subst ht'; exact TrN.mk r0 r1 hm hd' hdl'
    rintro acc G6 ⟨ts, k1, k2, k3, k4, k5, k6, k7⟩
    have e7 := Ex.new (o := .lst acc) k2
    k_extra "e"
    refine turn_write (k1.add k2) hn2 hs3 hsl hd4 hdl ((k6.trans e7.tx).im hI4) (e7.tx.ims k3) k5 (by omega) fun c7 c8 c9 c10 c11 c12 c13 G' h' => ?_
    exact ⟨_, _, _, _, _, _, _, _, _, _, _, _, rfl, h'.drop⟩
  · rintro σ G' ⟨c2, c3, c4, c5, c6, c7, c8, c9, c10, c11, c12, c13, rfl, h1⟩
    k_extra "e"
    exact q _
end Lw

namespace Lw
open PySem PySem.Spec PyProof.Rows L2
local macro_rules | `(tactic| k_extra "x1") => `(tactic| first
  | with_reducible refine es_seq ?_
  | with_reducible refine es_asg ?_
  | with_reducible refine es_if ?_
  | with_reducible refine es_ret ?_
  | with_reducible refine es_drop ?_
  | with_reducible refine es_next ?_
  | with_reducible refine es_augS ?_
  | with_reducible refine es_fld ?_
  | ((with_reducible show Ee (tVar _) _ _ _); refine ee_var rfl ?_)
  | with_reducible refine ee_c ?_
  | with_reducible refine ee_op ?_
  | with_reducible refine ee_un ?_
  | with_reducible refine eu_neg ?_
  | with_reducible refine ee_cb ?_
  | with_reducible refine ee_call ?_
  | with_reducible refine ea_nil ?_
  | with_reducible refine ea_cons ?_
  | with_reducible refine ee_sl ?_
  | with_reducible refine eo_no ?_
  | with_reducible refine eo_part ?_
  | with_reducible refine ee_tup ?_
  | with_reducible refine ee_lst ?_
  | with_reducible refine et_test ?_
  | with_reducible refine et_tB ?_
  | with_reducible refine et_tru ?_
  | with_reducible refine et_and ?_
  | with_reducible refine et_or ?_
  | with_reducible refine et_not ?_
  | with_reducible refine ee_and ?_
  | with_reducible refine ee_or ?_
  | with_reducible refine ee_not ?_
  | with_reducible refine ee_if ?_
  | with_reducible refine ee_chain ?_
  | with_reducible refine er_addI ?_
  | with_reducible refine er_subI ?_
  | with_reducible refine er_eqI ?_
  | with_reducible refine er_neI ?_
  | with_reducible refine er_eqNI ?_
  | with_reducible refine er_eqS ?_
  | with_reducible refine er_neS ?_
  | with_reducible refine er_eqB ?_
  | with_reducible refine er_neB ?_
  | with_reducible refine er_lt ?_
  | with_reducible refine er_le ?_
  | with_reducible refine er_gt ?_
  | with_reducible refine er_ge ?_
  | with_reducible refine er_isN_non ?_
  | with_reducible refine er_isN_bl ?_
  | with_reducible refine er_isN_int ?_
  | with_reducible refine er_isN_str ?_
  | with_reducible refine er_isN_ref ?_
  | with_reducible refine er_notN_non ?_
  | with_reducible refine er_notN_bl ?_
  | with_reducible refine er_notN_int ?_
  | with_reducible refine er_notN_str ?_
  | with_reducible refine er_notN_ref ?_
  | with_reducible refine er_isN ?_
  | with_reducible refine er_notN ?_
  | with_reducible refine ec_int ?_
  | with_reducible refine ec_intB ?_
  | with_reducible refine ec_max2 ?_
  | with_reducible refine ec_min2 ?_
  | with_reducible refine ip_I ?_
  | ((with_reducible refine eg_name ?_); (try dsimp only [L2.wipe, List.set_cons_zero, List.set_cons_succ]))
  | with_reducible refine eg_sub ?_
  | with_reducible refine egs_cons ?_
  | with_reducible refine egs_nil ?_
  | with_reducible refine tru_bl ?_
  | with_reducible refine tru_int ?_
  | with_reducible refine tru_non ?_
  | with_reducible refine iteT ?_
  | with_reducible refine iteF ?_
  | with_reducible refine ite_nt ?_
  | with_reducible refine ite_nf ?_
  | with_reducible refine ⟨_, rfl, ?_⟩)
local macro_rules | `(tactic| k_extra "s") => `(tactic| ((first | k_extra "x1" | ((with_reducible refine es_unf ?_); refine es_seq ?_)); (repeat k_extra "x1")))
local macro_rules | `(tactic| k_extra "x") => `(tactic| (repeat first | k_extra "x1" | ((with_reducible refine es_unf ?_); refine es_seq ?_)))
local macro_rules | `(tactic| k_extra "start") => `(tactic| dsimp only [L2.start, List.map_cons, List.map_nil, List.length_cons, List.length_nil, Nat.reduceAdd, Nat.reduceSub, List.replicate, List.cons_append, List.nil_append, Nat.zero_add])
local macro_rules | `(tactic| k_extra "e1") => `(tactic| first
  | with_reducible refine es_next ?_
  | ((with_reducible show Ee (tVar _) _ _ _); refine ee_var rfl ?_)
  | with_reducible refine ee_c ?_
  | with_reducible refine ee_op ?_
  | with_reducible refine ee_un ?_
  | with_reducible refine eu_neg ?_
  | with_reducible refine ee_cb ?_
  | with_reducible refine ee_call ?_
  | with_reducible refine ea_nil ?_
  | with_reducible refine ea_cons ?_
  | with_reducible refine ee_sl ?_
  | with_reducible refine eo_no ?_
  | with_reducible refine eo_part ?_
  | with_reducible refine ee_tup ?_
  | with_reducible refine ee_lst ?_
  | with_reducible refine et_test ?_
  | with_reducible refine et_tB ?_
  | with_reducible refine et_tru ?_
  | with_reducible refine et_and ?_
  | with_reducible refine et_or ?_
  | with_reducible refine et_not ?_
  | with_reducible refine ee_and ?_
  | with_reducible refine ee_or ?_
  | with_reducible refine ee_not ?_
  | with_reducible refine ee_if ?_
  | with_reducible refine ee_chain ?_
  | with_reducible refine er_addI ?_
  | with_reducible refine er_subI ?_
  | with_reducible refine er_eqI ?_
  | with_reducible refine er_neI ?_
  | with_reducible refine er_eqNI ?_
  | with_reducible refine er_eqS ?_
  | with_reducible refine er_neS ?_
  | with_reducible refine er_eqB ?_
  | with_reducible refine er_neB ?_
  | with_reducible refine er_lt ?_
  | with_reducible refine er_le ?_
  | with_reducible refine er_gt ?_
  | with_reducible refine er_ge ?_
  | with_reducible refine er_isN_non ?_
  | with_reducible refine er_isN_bl ?_
  | with_reducible refine er_isN_int ?_
  | with_reducible refine er_isN_str ?_
  | with_reducible refine er_isN_ref ?_
  | with_reducible refine er_notN_non ?_
  | with_reducible refine er_notN_bl ?_
  | with_reducible refine er_notN_int ?_
  | with_reducible refine er_notN_str ?_
  | with_reducible refine er_notN_ref ?_
  | with_reducible refine er_isN ?_
  | with_reducible refine er_notN ?_
  | with_reducible refine ec_int ?_
  | with_reducible refine ec_intB ?_
  | with_reducible refine ec_max2 ?_
  | with_reducible refine ec_min2 ?_
  | with_reducible refine ip_I ?_
  | ((with_reducible refine eg_name ?_); (try dsimp only [L2.wipe, List.set_cons_zero, List.set_cons_succ]))
  | with_reducible refine eg_sub ?_
  | with_reducible refine egs_cons ?_
  | with_reducible refine egs_nil ?_
  | with_reducible refine tru_bl ?_
  | with_reducible refine tru_int ?_
  | with_reducible refine tru_non ?_
  | with_reducible refine iteT ?_
  | with_reducible refine iteF ?_
  | with_reducible refine ite_nt ?_
  | with_reducible refine ite_nf ?_
  | with_reducible refine ex_bl ?_
  | with_reducible refine ex_int ?_
  | with_reducible refine ex_str ?_
  | with_reducible refine ex_strx ?_
  | with_reducible refine ex_ints1 ?_
  | with_reducible refine ex_ints2 ?_)
local macro_rules | `(tactic| k_extra "t1") => `(tactic| first
  | with_reducible refine es_asg ?_
  | with_reducible refine es_if ?_
  | with_reducible refine es_ret ?_
  | with_reducible refine es_drop ?_
  | with_reducible refine es_augS ?_
  | with_reducible refine es_fld ?_)
local macro_rules | `(tactic| k_extra "e") => `(tactic| first
  | ((with_reducible refine es_seq ?_); (try k_extra "t1"); (repeat k_extra "e1"))
  | (k_extra "t1"; (repeat k_extra "e1"))
  | (k_extra "e1"; (repeat k_extra "e1"))
  | ((with_reducible refine es_unf ?_); (refine es_seq ?_); (try k_extra "t1"); (repeat k_extra "e1")))
def topS (i : Nat) : Stmt := PySem.Challenge.pw_samemeant_k12_bytes_written_and_read.main.body.getD i (.Pass ⟨0, 0, 0, 0⟩)
abbrev s_Reader_init : Stmt := inClass (topS 8) 0
theorem sc_Reader_init : FnScope ["self", "data"] ["self", "data"] (defScope s_Reader_init) := ⟨rfl, rfl, rfl, by decide +kernel, rfl, by decide +kernel, by decide +kernel⟩
abbrev s_Reader_read_byte : Stmt := inClass (topS 8) 1
theorem sc_Reader_read_byte : FnScope ["self"] ["self"] (defScope s_Reader_read_byte) := ⟨rfl, rfl, rfl, by decide +kernel, rfl, by decide +kernel, by decide +kernel⟩
abbrev s_Reader_read_choice : Stmt := inClass (topS 8) 2
theorem sc_Reader_read_choice : FnScope ["self", "count", "byte"] ["self", "count"] (defScope s_Reader_read_choice) := ⟨rfl, rfl, rfl, by decide +kernel, rfl, by decide +kernel, by decide +kernel⟩
abbrev s_Reader_end : Stmt := inClass (topS 8) 3
theorem sc_Reader_end : FnScope ["self"] ["self"] (defScope s_Reader_end) := ⟨rfl, rfl, rfl, by decide +kernel, rfl, by decide +kernel, by decide +kernel⟩
abbrev s_Reader_read_number : Stmt := inClass (topS 8) 4
theorem sc_Reader_read_number : FnScope ["self", "total", "factor", "index", "byte"] ["self"] (defScope s_Reader_read_number) := ⟨rfl, rfl, rfl, by decide +kernel, rfl, by decide +kernel, by decide +kernel⟩
abbrev s_Reader_read_count : Stmt := inClass (topS 8) 5
theorem sc_Reader_read_count : FnScope ["self", "count"] ["self"] (defScope s_Reader_read_count) := ⟨rfl, rfl, rfl, by decide +kernel, rfl, by decide +kernel, by decide +kernel⟩
abbrev s_Reader_read_character : Stmt := inClass (topS 8) 6
theorem sc_Reader_read_character : FnScope ["self", "code"] ["self"] (defScope s_Reader_read_character) := ⟨rfl, rfl, rfl, by decide +kernel, rfl, by decide +kernel, by decide +kernel⟩
abbrev s_Reader_read_string : Stmt := inClass (topS 8) 7
theorem sc_Reader_read_string : FnScope ["self", "_"] ["self"] (defScope s_Reader_read_string) := ⟨rfl, rfl, rfl, by decide +kernel, rfl, by decide +kernel, by decide +kernel⟩
abbrev s_Reader_read_mark : Stmt := inClass (topS 8) 8
theorem sc_Reader_read_mark : FnScope ["self", "number"] ["self"] (defScope s_Reader_read_mark) := ⟨rfl, rfl, rfl, by decide +kernel, rfl, by decide +kernel, by decide +kernel⟩
abbrev s_Reader_read_deed : Stmt := inClass (topS 8) 9
theorem sc_Reader_read_deed : FnScope ["self", "module", "removed", "behind", "number", "_"] ["self"] (defScope s_Reader_read_deed) := ⟨rfl, rfl, rfl, by decide +kernel, rfl, by decide +kernel, by decide +kernel⟩
abbrev s_Reader_read_triple : Stmt := inClass (topS 8) 11
theorem sc_Reader_read_triple : FnScope ["self", "replica", "place"] ["self"] (defScope s_Reader_read_triple) := ⟨rfl, rfl, rfl, by decide +kernel, rfl, by decide +kernel, by decide +kernel⟩
abbrev s_Reader_read_triples : Stmt := inClass (topS 8) 12
theorem sc_Reader_read_triples : FnScope ["self", "_"] ["self"] (defScope s_Reader_read_triples) := ⟨rfl, rfl, rfl, by decide +kernel, rfl, by decide +kernel, by decide +kernel⟩
abbrev s_Reader_read_packet : Stmt := inClass (topS 8) 13
theorem sc_Reader_read_packet : FnScope ["self"] ["self"] (defScope s_Reader_read_packet) := ⟨rfl, rfl, rfl, by decide +kernel, rfl, by decide +kernel, by decide +kernel⟩
abbrev s_write_number : Stmt := topS 10
theorem sc_write_number : FnScope ["number", "data"] ["number"] (defScope s_write_number) := ⟨rfl, rfl, rfl, by decide +kernel, rfl, by decide +kernel, by decide +kernel⟩
abbrev s_write_list : Stmt := topS 11
theorem sc_write_list : FnScope ["items", "data", "item"] ["items"] (defScope s_write_list) := ⟨rfl, rfl, rfl, by decide +kernel, rfl, by decide +kernel, by decide +kernel⟩
abbrev s_write_string : Stmt := topS 12
theorem sc_write_string : FnScope ["text", "character"] ["text"] (defScope s_write_string) := ⟨rfl, rfl, rfl, by decide +kernel, rfl, by decide +kernel, by decide +kernel⟩
abbrev s_write_mark : Stmt := topS 13
theorem sc_write_mark : FnScope ["mark"] ["mark"] (defScope s_write_mark) := ⟨rfl, rfl, rfl, by decide +kernel, rfl, by decide +kernel, by decide +kernel⟩
abbrev s_write_deed : Stmt := topS 14
theorem sc_write_deed : FnScope ["deed", "_", "module", "removed", "behind", "number", "text", "data", "mark"] ["deed"] (defScope s_write_deed) := ⟨rfl, rfl, rfl, by decide +kernel, rfl, by decide +kernel, by decide +kernel⟩
abbrev s_write_triples : Stmt := topS 15
theorem sc_write_triples : FnScope ["triples", "written", "replica", "place", "deed"] ["triples"] (defScope s_write_triples) := ⟨rfl, rfl, rfl, by decide +kernel, rfl, by decide +kernel, by decide +kernel⟩
abbrev s_write_packet : Stmt := topS 16
theorem sc_write_packet : FnScope ["packet"] ["packet"] (defScope s_write_packet) := ⟨rfl, rfl, rfl, by decide +kernel, rfl, by decide +kernel, by decide +kernel⟩
abbrev s__law_next : Stmt := topS 18
theorem sc__law_next : FnScope ["state", "limit", "cell", "value"] ["state", "limit"] (defScope s__law_next) := ⟨rfl, rfl, rfl, by decide +kernel, rfl, by decide +kernel, by decide +kernel⟩
abbrev s__law_same : Stmt := topS 19
theorem sc__law_same : FnScope ["actual", "expected", "k"] ["actual", "expected"] (defScope s__law_same) := ⟨rfl, rfl, rfl, by decide +kernel, rfl, by decide +kernel, by decide +kernel⟩
abbrev s__law_number : Stmt := topS 20
theorem sc__law_number : FnScope ["number", "data"] ["number"] (defScope s__law_number) := ⟨rfl, rfl, rfl, by decide +kernel, rfl, by decide +kernel, by decide +kernel⟩
abbrev s__law_text : Stmt := topS 21
theorem sc__law_text : FnScope ["text", "data", "character"] ["text"] (defScope s__law_text) := ⟨rfl, rfl, rfl, by decide +kernel, rfl, by decide +kernel, by decide +kernel⟩
abbrev s__law_mark : Stmt := topS 22
theorem sc__law_mark : FnScope ["mark"] ["mark"] (defScope s__law_mark) := ⟨rfl, rfl, rfl, by decide +kernel, rfl, by decide +kernel, by decide +kernel⟩
abbrev s__law_deed : Stmt := topS 23
theorem sc__law_deed : FnScope ["deed", "data", "mark"] ["deed"] (defScope s__law_deed) := ⟨rfl, rfl, rfl, by decide +kernel, rfl, by decide +kernel, by decide +kernel⟩
abbrev s__law_triples : Stmt := topS 24
theorem sc__law_triples : FnScope ["triples", "data", "replica", "place", "deed"] ["triples"] (defScope s__law_triples) := ⟨rfl, rfl, rfl, by decide +kernel, rfl, by decide +kernel, by decide +kernel⟩
abbrev s__law_read_number : Stmt := topS 25
theorem sc__law_read_number : FnScope ["data", "at", "total", "factor", "k"] ["data", "at"] (defScope s__law_read_number) := ⟨rfl, rfl, rfl, by decide +kernel, rfl, by decide +kernel, by decide +kernel⟩
abbrev s__law_sign : Stmt := topS 26
theorem sc__law_sign : FnScope ["code", "first", "rest"] ["code"] (defScope s__law_sign) := ⟨rfl, rfl, rfl, by decide +kernel, rfl, by decide +kernel, by decide +kernel⟩
abbrev s__law_read_text : Stmt := topS 27
theorem sc__law_read_text : FnScope ["data", "at", "found", "count", "text", "k"] ["data", "at"] (defScope s__law_read_text) := ⟨rfl, rfl, rfl, by decide +kernel, rfl, by decide +kernel, by decide +kernel⟩
abbrev s__law_read_mark : Stmt := topS 28
theorem sc__law_read_mark : FnScope ["data", "at", "first", "second"] ["data", "at"] (defScope s__law_read_mark) := ⟨rfl, rfl, rfl, by decide +kernel, rfl, by decide +kernel, by decide +kernel⟩
abbrev s__law_read_deed : Stmt := topS 29
theorem sc__law_read_deed : FnScope ["data", "at", "found", "module", "count", "marks", "k", "behind", "number", "text"] ["data", "at"] (defScope s__law_read_deed) := ⟨rfl, rfl, rfl, by decide +kernel, rfl, by decide +kernel, by decide +kernel⟩
abbrev s__law_read_triples : Stmt := topS 30
theorem sc__law_read_triples : FnScope ["data", "at", "count", "triples", "k", "pair", "deed"] ["data", "at"] (defScope s__law_read_triples) := ⟨rfl, rfl, rfl, by decide +kernel, rfl, by decide +kernel, by decide +kernel⟩
abbrev s__law_read_packet : Stmt := topS 31
theorem sc__law_read_packet : FnScope ["data", "at"] ["data", "at"] (defScope s__law_read_packet) := ⟨rfl, rfl, rfl, by decide +kernel, rfl, by decide +kernel, by decide +kernel⟩
abbrev s__law_drawn_number : Stmt := topS 32
theorem sc__law_drawn_number : FnScope ["state"] ["state"] (defScope s__law_drawn_number) := ⟨rfl, rfl, rfl, by decide +kernel, rfl, by decide +kernel, by decide +kernel⟩
abbrev s__law_drawn_text : Stmt := topS 33
theorem sc__law_drawn_text : FnScope ["state", "letters", "k"] ["state"] (defScope s__law_drawn_text) := ⟨rfl, rfl, rfl, by decide +kernel, rfl, by decide +kernel, by decide +kernel⟩
abbrev s__law_drawn_deed : Stmt := topS 34
theorem sc__law_drawn_deed : FnScope ["state", "marks", "behind", "k"] ["state"] (defScope s__law_drawn_deed) := ⟨rfl, rfl, rfl, by decide +kernel, rfl, by decide +kernel, by decide +kernel⟩
abbrev s__law_spoilt : Stmt := topS 35
theorem sc__law_spoilt : FnScope ["state", "data", "place", "byte", "pick", "k"] ["state", "data"] (defScope s__law_spoilt) := ⟨rfl, rfl, rfl, by decide +kernel, rfl, by decide +kernel, by decide +kernel⟩
abbrev s__law_told : Stmt := topS 36
theorem sc__law_told : FnScope ["kind", "data", "reader", "found", "at", "ended"] ["kind", "data"] (defScope s__law_told) := ⟨rfl, rfl, rfl, by decide +kernel, rfl, by decide +kernel, by decide +kernel⟩
abbrev s__law_own : Stmt := topS 37
theorem sc__law_own : FnScope ["kind", "data"] ["kind", "data"] (defScope s__law_own) := ⟨rfl, rfl, rfl, by decide +kernel, rfl, by decide +kernel, by decide +kernel⟩
abbrev s__law_in_a_row : Stmt := topS 38
theorem sc__law_in_a_row : FnScope ["things", "written", "data", "part", "reader", "told"] ["things", "written"] (defScope s__law_in_a_row) := ⟨rfl, rfl, rfl, by decide +kernel, rfl, by decide +kernel, by decide +kernel⟩
abbrev s_law : Stmt := topS 39
theorem sc_law : FnScope ["script", "state", "k", "number", "text", "deed", "triples", "written", "own", "things", "long", "kind", "j", "data"] ["script"] (defScope s_law) := ⟨rfl, rfl, rfl, by decide +kernel, rfl, by decide +kernel, by decide +kernel⟩
structure Facts (K : PySem.W.Frag) (mg : Str → Option Value) (A : Ad) : Prop where
  cf : Cf K A
  f_Reader_init : FndI K A.cReader "Reader.__init__" s_Reader_init
  f_Reader_read_byte : FndM K A.cReader "read_byte" "Reader.read_byte" s_Reader_read_byte
  f_Reader_read_choice : FndM K A.cReader "read_choice" "Reader.read_choice" s_Reader_read_choice
  f_Reader_end : FndM K A.cReader "end" "Reader.end" s_Reader_end
  f_Reader_read_number : FndM K A.cReader "read_number" "Reader.read_number" s_Reader_read_number
  f_Reader_read_count : FndM K A.cReader "read_count" "Reader.read_count" s_Reader_read_count
  f_Reader_read_character : FndM K A.cReader "read_character" "Reader.read_character" s_Reader_read_character
  f_Reader_read_string : FndM K A.cReader "read_string" "Reader.read_string" s_Reader_read_string
  f_Reader_read_mark : FndM K A.cReader "read_mark" "Reader.read_mark" s_Reader_read_mark
  f_Reader_read_deed : FndM K A.cReader "read_deed" "Reader.read_deed" s_Reader_read_deed
  f_Reader_read_triple : FndM K A.cReader "read_triple" "Reader.read_triple" s_Reader_read_triple
  f_Reader_read_triples : FndM K A.cReader "read_triples" "Reader.read_triples" s_Reader_read_triples
  f_Reader_read_packet : FndM K A.cReader "read_packet" "Reader.read_packet" s_Reader_read_packet
  f_write_number : Fnd K mg "write_number" s_write_number
  f_write_list : Fnd K mg "write_list" s_write_list
  f_write_string : Fnd K mg "write_string" s_write_string
  f_write_mark : Fnd K mg "write_mark" s_write_mark
  f_write_deed : Fnd K mg "write_deed" s_write_deed
  f_write_triples : Fnd K mg "write_triples" s_write_triples
  f_write_packet : Fnd K mg "write_packet" s_write_packet
  f__law_next : Fnd K mg "_law_next" s__law_next
  f__law_same : Fnd K mg "_law_same" s__law_same
  f__law_number : Fnd K mg "_law_number" s__law_number
  f__law_text : Fnd K mg "_law_text" s__law_text
  f__law_mark : Fnd K mg "_law_mark" s__law_mark
  f__law_deed : Fnd K mg "_law_deed" s__law_deed
  f__law_triples : Fnd K mg "_law_triples" s__law_triples
  f__law_read_number : Fnd K mg "_law_read_number" s__law_read_number
  f__law_sign : Fnd K mg "_law_sign" s__law_sign
  f__law_read_text : Fnd K mg "_law_read_text" s__law_read_text
  f__law_read_mark : Fnd K mg "_law_read_mark" s__law_read_mark
  f__law_read_deed : Fnd K mg "_law_read_deed" s__law_read_deed
  f__law_read_triples : Fnd K mg "_law_read_triples" s__law_read_triples
  f__law_read_packet : Fnd K mg "_law_read_packet" s__law_read_packet
  f__law_drawn_number : Fnd K mg "_law_drawn_number" s__law_drawn_number
  f__law_drawn_text : Fnd K mg "_law_drawn_text" s__law_drawn_text
  f__law_drawn_deed : Fnd K mg "_law_drawn_deed" s__law_drawn_deed
  f__law_spoilt : Fnd K mg "_law_spoilt" s__law_spoilt
  f__law_told : Fnd K mg "_law_told" s__law_told
  f__law_own : Fnd K mg "_law_own" s__law_own
  f__law_in_a_row : Fnd K mg "_law_in_a_row" s__law_in_a_row
  f_law : Fnd K mg "law" s_law
  b_bool : mg "bool" = none
  b_int : mg "int" = none
  b_isinstance : mg "isinstance" = none
  b_len : mg "len" = none
  b_list : mg "list" = none
  b_ord : mg "ord" = none
  b_range : mg "range" = none
  b_str : mg "str" = none
  b_tuple : mg "tuple" = none
  c_AFTER_PERCENT : ∃ u, RelV (.str "&'()*+,-./0123456789:;<=>?@ABCDEFGHIJKLMNOPQRSTUVWXYZ[\\]^_`abcdefghijklmnopqrstuvwxyz{|}~") u ∧ mg "AFTER_PERCENT" = some u
  c_BEFORE_PERCENT : ∃ u, RelV (.str " !\"#$") u ∧ mg "BEFORE_PERCENT" = some u
  c_NUMBER_BYTES : ∃ u, RelV (.int 60) u ∧ mg "NUMBER_BYTES" = some u
  g_Reader : mg "Reader" = some (.ref A.cReader)
  g_DamagedPacket : mg "DamagedPacket" = some (.ref A.cDamagedPacket)
section
variable {P : Program} {w : World} {K : PySem.W.Frag} {mg : Str → Option Value} {base : Heap} {A : Ad}
theorem has_Reader_init (Z : Facts K mg A) : HasI P w K mg base CX0 1 A.cReader ["self", "data"] (up (S_Reader_init K A)) :=
  HasI.mk0 (t := t_Reader_init K A) Z.f_Reader_init sc_Reader_init (fun _ _ _ _ _ _ us hl => match us, hl with | [_, _], _ => rfl) len_Reader_init
    (fun f cdv A0 outer s H E hr => (pss_cons (ps_fld (pv 0) (pe_callTy call_listU (by rfl) Z.b_list (by decide +kernel) (pa_cons (pv 1) pa_nil)) rfl) (pss_one (ps_fld (pv 0) pe_int rfl))))
    (ok_Reader_init Z.cf)
theorem has_Reader_read_byte (Z : Facts K mg A) : HasM P w K mg base (L2.CX P w) 1 A.cReader "read_byte" ["self"] (up (S_Reader_read_byte K A)) :=
  HasM.mkX (t := t_Reader_read_byte K A) Z.f_Reader_read_byte sc_Reader_read_byte (fun _ _ _ _ _ _ us hl => match us, hl with | [_], _ => rfl) len_Reader_read_byte
    (fun f cdv A0 outer s H E hr => (pss_cons (ps_if (pt_cmpR op_geU (pe_fld (pv 0) rfl) (pe_callB call_lenU (by rfl) Z.b_len (by decide +kernel) (pa_cons (pe_fld (pv 0) rfl) pa_nil)) (nomark _)) (pss_one (ps_rz rfl Z.cf.xc Z.g_DamagedPacket (takes_of rfl rfl rfl rfl) (by rfl))) pss_nil) (pss_cons (ps_fldaug (pv 0) pe_int ip_add) (pss_one (ps_ret (pe_ix ix_seq (pe_fld (pv 0) rfl) (pe_op op_subI (pe_fld (pv 0) rfl) pe_int) (fun _ _ => rfl)))))))
    (ok_Reader_read_byte Z.cf) mon_Reader_read_byte
theorem has_Reader_read_choice (Z : Facts K mg A) : HasM P w K mg base (L2.CX P w) 2 A.cReader "read_choice" ["self", "count"] (up (S_Reader_read_choice K A)) :=
  HasM.mkX (t := t_Reader_read_choice K A) Z.f_Reader_read_choice sc_Reader_read_choice (fun _ _ _ _ _ _ us hl => match us, hl with | [_, _], _ => rfl) len_Reader_read_choice
    (fun f cdv A0 outer s H E hr => (pss_cons (ps_set (i := 2) sc_Reader_read_choice.nd rfl (by first | exact Or.inl rfl | exact Or.inr rfl) (pe_methH0 (pv 0) Z.cf.cl (has_Reader_read_byte Z) (hr.mono (by decide)) (pass_own (takes_of rfl rfl rfl rfl)))) (pss_cons (ps_if (pt_cmpR op_geU (pv 2) (pv 1) (nomark _)) (pss_one (ps_rz rfl Z.cf.xc Z.g_DamagedPacket (takes_of rfl rfl rfl rfl) (by rfl))) pss_nil) (pss_one (ps_ret (pv 2))))))
    (ok_Reader_read_choice Z.cf) mon_Reader_read_choice
theorem has_Reader_end (Z : Facts K mg A) : HasM P w K mg base (L2.CX P w) 1 A.cReader "end" ["self"] (up (S_Reader_end K A)) :=
  HasM.mkX (t := t_Reader_end K A) Z.f_Reader_end sc_Reader_end (fun _ _ _ _ _ _ us hl => match us, hl with | [_], _ => rfl) len_Reader_end
    (fun f cdv A0 outer s H E hr => (pss_one (ps_if (pt_cmpR (op_ltU (rm0 hr)) (pe_fld (pv 0) rfl) (pe_callB call_lenU (by rfl) Z.b_len (by decide +kernel) (pa_cons (pe_fld (pv 0) rfl) pa_nil)) (nomark _)) (pss_one (ps_rz rfl Z.cf.xc Z.g_DamagedPacket (takes_of rfl rfl rfl rfl) (by rfl))) pss_nil)))
    (ok_Reader_end Z.cf) mon_Reader_end
theorem has_Reader_read_number (Z : Facts K mg A) : HasM P w K mg base (L2.CX P w) 2 A.cReader "read_number" ["self"] (up (S_Reader_read_number K A)) :=
  HasM.mkX (t := t_Reader_read_number K A) Z.f_Reader_read_number sc_Reader_read_number (fun _ _ _ _ _ _ us hl => match us, hl with | [_], _ => rfl) len_Reader_read_number
    (fun f cdv A0 outer s H E hr => (pss_cons (ps_set (i := 1) sc_Reader_read_number.nd rfl (by first | exact Or.inl rfl | exact Or.inr rfl) pe_int) (pss_cons (ps_set (i := 2) sc_Reader_read_number.nd rfl (by first | exact Or.inl rfl | exact Or.inr rfl) pe_int) (pss_cons (ps_for (passes_of rfl) rfl (pi_range1 (by rfl) Z.b_range (pa_cons (pe_globE rfl Z.c_NUMBER_BYTES) pa_nil)) (pg_name (i := 3) sc_Reader_read_number.nd rfl (by first | exact Or.inl rfl | exact Or.inr rfl)) (pss_cons (ps_set (i := 4) sc_Reader_read_number.nd rfl (by first | exact Or.inl rfl | exact Or.inr rfl) (pe_methH0 (pv 0) Z.cf.cl (has_Reader_read_byte Z) (hr.mono (by decide)) (pass_own (takes_of rfl rfl rfl rfl)))) (pss_cons (ps_aug (i := 1) sc_Reader_read_number.nd rfl (by first | exact Or.inl rfl | exact Or.inr rfl) (pe_op op_mulU (pe_op op_modU (pv 4) pe_int) (pv 2)) ip_add) (pss_cons (ps_if (pt_cmpR (op_ltU (rm0 hr)) (pv 4) pe_int (nomark _)) (pss_cons (ps_if (PW.pt (pw_and (pt_cmpR (op_eqU (rm64 hr)) (pv 4) pe_int (nomark _)) (pw_and1 (pt_cmpR op_gtU (pv 3) pe_int (nomark _))))) (pss_one (ps_rz rfl Z.cf.xc Z.g_DamagedPacket (takes_of rfl rfl rfl rfl) (by rfl))) pss_nil) (pss_one (ps_ret (pv 1)))) pss_nil) (pss_one (ps_set (i := 2) sc_Reader_read_number.nd rfl (by first | exact Or.inl rfl | exact Or.inr rfl) (pe_op op_mulU (pv 2) pe_int))))))) (pss_one (ps_rz rfl Z.cf.xc Z.g_DamagedPacket (takes_of rfl rfl rfl rfl) (by rfl)))))))
    (ok_Reader_read_number Z.cf) mon_Reader_read_number
theorem has_Reader_read_count (Z : Facts K mg A) : HasM P w K mg base (L2.CX P w) 3 A.cReader "read_count" ["self"] (up (S_Reader_read_count K A)) :=
  HasM.mkX (t := t_Reader_read_count K A) Z.f_Reader_read_count sc_Reader_read_count (fun _ _ _ _ _ _ us hl => match us, hl with | [_], _ => rfl) len_Reader_read_count
    (fun f cdv A0 outer s H E hr => (pss_cons (ps_set (i := 1) sc_Reader_read_count.nd rfl (by first | exact Or.inl rfl | exact Or.inr rfl) (pe_methH0 (pv 0) Z.cf.cl (has_Reader_read_number Z) (hr.mono (by decide)) (pass_own (takes_of rfl rfl rfl rfl)))) (pss_cons (ps_if (pt_cmpR op_gtU (pv 1) (pe_op op_subI (pe_callB call_lenU (by rfl) Z.b_len (by decide +kernel) (pa_cons (pe_fld (pv 0) rfl) pa_nil)) (pe_fld (pv 0) rfl)) (nomark _)) (pss_one (ps_rz rfl Z.cf.xc Z.g_DamagedPacket (takes_of rfl rfl rfl rfl) (by rfl))) pss_nil) (pss_one (ps_ret (pv 1))))))
    (ok_Reader_read_count Z.cf) mon_Reader_read_count
theorem has_Reader_read_character (Z : Facts K mg A) : HasM P w K mg base (L2.CX P w) 3 A.cReader "read_character" ["self"] (up (S_Reader_read_character K A)) :=
  HasM.mkX (t := t_Reader_read_character K A) Z.f_Reader_read_character sc_Reader_read_character (fun _ _ _ _ _ _ us hl => match us, hl with | [_], _ => rfl) len_Reader_read_character
    (fun f cdv A0 outer s H E hr => (pss_cons (ps_set (i := 1) sc_Reader_read_character.nd rfl (by first | exact Or.inl rfl | exact Or.inr rfl) (pe_methH0 (pv 0) Z.cf.cl (has_Reader_read_number Z) (hr.mono (by decide)) (pass_own (takes_of rfl rfl rfl rfl)))) (pss_cons (ps_if (pt_cmpR (op_eqU (rm64 hr)) (pv 1) pe_int (nomark _)) (pss_one (ps_ret pe_str)) pss_nil) (pss_cons (ps_if (pt_chain op_leU (op_ltU (rm0 hr)) pe_int (pv 1) pe_int) (pss_one (ps_ret (pe_ix ix_seq (pe_globE rfl Z.c_BEFORE_PERCENT) (pe_op op_subI (pv 1) pe_int) (fun _ _ => rfl)))) pss_nil) (pss_cons (ps_if (pt_chain op_leU (op_ltU (rm0 hr)) pe_int (pv 1) pe_int) (pss_one (ps_ret (pe_ix ix_seq (pe_globE rfl Z.c_AFTER_PERCENT) (pe_op op_subI (pv 1) pe_int) (fun _ _ => rfl)))) pss_nil) (pss_one (ps_rz rfl Z.cf.xc Z.g_DamagedPacket (takes_of rfl rfl rfl rfl) (by rfl))))))))
    (ok_Reader_read_character Z.cf) mon_Reader_read_character
theorem has_Reader_read_string (Z : Facts K mg A) : HasM P w K mg base (L2.CX P w) 4 A.cReader "read_string" ["self"] (up (S_Reader_read_string K A)) :=
  HasM.mkX (t := t_Reader_read_string K A) Z.f_Reader_read_string sc_Reader_read_string (fun _ _ _ _ _ _ us hl => match us, hl with | [_], _ => rfl) len_Reader_read_string
    (fun f cdv A0 outer s H E hr => (pss_one (ps_ret (pe_m1 PySem.F.slot_str_join PySem.F.type_str_join mt_joinU pe_str (pe_lcX (own := [("_", 1)]) (g := (gName 1)) (by rfl) (by rfl) (by rfl) (takes_of rfl rfl rfl rfl) sc_Reader_read_string.nd (pi_range1 (by rfl) Z.b_range (pa_cons (pe_methH0 (pv 0) Z.cf.cl (has_Reader_read_count Z) (hr.mono (by decide)) (pass_own (takes_of rfl rfl rfl rfl))) pa_nil)) (blkOk_by (own := [("_", 1)]) (N := ["self", "_"]) (sc := defScope s_Reader_read_string) (by decide +kernel)) (fun _ _ _ _ _ => (pg_name (i := 1) sc_Reader_read_string.nd rfl (by first | exact Or.inl rfl | exact Or.inr rfl))) (fun _ _ _ _ _ => pts_nil) (fun _ _ _ _ _ xe px => (pe_methH0 (pv 0) Z.cf.cl (has_Reader_read_character Z) (hr.mono (by decide)) px)))))))
    (ok_Reader_read_string Z.cf) mon_Reader_read_string
theorem has_Reader_read_mark (Z : Facts K mg A) : HasM P w K mg base (L2.CX P w) 3 A.cReader "read_mark" ["self"] (up (S_Reader_read_mark K A)) :=
  HasM.mkX (t := t_Reader_read_mark K A) Z.f_Reader_read_mark sc_Reader_read_mark (fun _ _ _ _ _ _ us hl => match us, hl with | [_], _ => rfl) len_Reader_read_mark
    (fun f cdv A0 outer s H E hr => (pss_cons (ps_set (i := 1) sc_Reader_read_mark.nd rfl (by first | exact Or.inl rfl | exact Or.inr rfl) (pe_methH0 (pv 0) Z.cf.cl (has_Reader_read_number Z) (hr.mono (by decide)) (pass_own (takes_of rfl rfl rfl rfl)))) (pss_one (ps_ret (pe_tup (pa_cons (pv 1) (pa_cons (pe_methH0 (pv 0) Z.cf.cl (has_Reader_read_number Z) (hr.mono (by decide)) (pass_own (takes_of rfl rfl rfl rfl))) pa_nil)))))))
    (ok_Reader_read_mark Z.cf) mon_Reader_read_mark
theorem has_Reader_read_deed (Z : Facts K mg A) : HasM P w K mg base (L2.CX P w) 5 A.cReader "read_deed" ["self"] (up (S_Reader_read_deed K A)) :=
  HasM.mkX (t := t_Reader_read_deed K A) Z.f_Reader_read_deed sc_Reader_read_deed (fun _ _ _ _ _ _ us hl => match us, hl with | [_], _ => rfl) len_Reader_read_deed
    (fun f cdv A0 outer s H E hr => (pss_cons (ps_if (pt_cmpR (op_eqU (rm64 hr)) (pe_methH (pv 0) Z.cf.cl (has_Reader_read_choice Z) (hr.mono (by decide)) (pass_own (takes_of rfl rfl rfl rfl)) (pa_cons pe_int pa_nil)) pe_int (nomark _)) (pss_one (ps_ret (pe_tup (pa_cons pe_str (pa_cons (pe_methH0 (pv 0) Z.cf.cl (has_Reader_read_number Z) (hr.mono (by decide)) (pass_own (takes_of rfl rfl rfl rfl))) pa_nil))))) pss_nil) (pss_cons (ps_set (i := 1) sc_Reader_read_deed.nd rfl (by first | exact Or.inl rfl | exact Or.inr rfl) (pe_methH0 (pv 0) Z.cf.cl (has_Reader_read_string Z) (hr.mono (by decide)) (pass_own (takes_of rfl rfl rfl rfl)))) (pss_cons (ps_set (i := 2) sc_Reader_read_deed.nd rfl (by first | exact Or.inl rfl | exact Or.inr rfl) (pe_callTy call_tupU (by rfl) Z.b_tuple (by decide +kernel) (pa_cons (pe_lcX (own := [("_", 5)]) (g := (gName 5)) (by rfl) (by rfl) (by rfl) (takes_of rfl rfl rfl rfl) sc_Reader_read_deed.nd (pi_range1 (by rfl) Z.b_range (pa_cons (pe_methH0 (pv 0) Z.cf.cl (has_Reader_read_count Z) (hr.mono (by decide)) (pass_own (takes_of rfl rfl rfl rfl))) pa_nil)) (blkOk_by (own := [("_", 5)]) (N := ["self", "module", "removed", "behind", "number", "_"]) (sc := defScope s_Reader_read_deed) (by decide +kernel)) (fun _ _ _ _ _ => (pg_name (i := 5) sc_Reader_read_deed.nd rfl (by first | exact Or.inl rfl | exact Or.inr rfl))) (fun _ _ _ _ _ => pts_nil) (fun _ _ _ _ _ xe px => (pe_methH0 (pv 0) Z.cf.cl (has_Reader_read_mark Z) (hr.mono (by decide)) px))) pa_nil))) (pss_cons (ps_set (i := 3) sc_Reader_read_deed.nd rfl (by first | exact Or.inl rfl | exact Or.inr rfl) pe_non) (pss_cons (ps_if (pt_cmpR (op_eqU (rm64 hr)) (pe_methH (pv 0) Z.cf.cl (has_Reader_read_choice Z) (hr.mono (by decide)) (pass_own (takes_of rfl rfl rfl rfl)) (pa_cons pe_int pa_nil)) pe_int (nomark _)) (pss_one (ps_set (i := 3) sc_Reader_read_deed.nd rfl (by first | exact Or.inl rfl | exact Or.inr rfl) (pe_methH0 (pv 0) Z.cf.cl (has_Reader_read_mark Z) (hr.mono (by decide)) (pass_own (takes_of rfl rfl rfl rfl))))) pss_nil) (pss_cons (ps_set (i := 4) sc_Reader_read_deed.nd rfl (by first | exact Or.inl rfl | exact Or.inr rfl) (pe_methH0 (pv 0) Z.cf.cl (has_Reader_read_number Z) (hr.mono (by decide)) (pass_own (takes_of rfl rfl rfl rfl)))) (pss_one (ps_ret (pe_tup (pa_cons pe_str (pa_cons (pv 1) (pa_cons (pv 2) (pa_cons (pv 3) (pa_cons (pv 4) (pa_cons (pe_methH0 (pv 0) Z.cf.cl (has_Reader_read_string Z) (hr.mono (by decide)) (pass_own (takes_of rfl rfl rfl rfl))) pa_nil))))))))))))))))
    (ok_Reader_read_deed Z.cf) mon_Reader_read_deed
theorem has_Reader_read_triple (Z : Facts K mg A) : HasM P w K mg base (L2.CX P w) 6 A.cReader "read_triple" ["self"] (up (S_Reader_read_triple K A)) :=
  HasM.mkX (t := t_Reader_read_triple K A) Z.f_Reader_read_triple sc_Reader_read_triple (fun _ _ _ _ _ _ us hl => match us, hl with | [_], _ => rfl) len_Reader_read_triple
    (fun f cdv A0 outer s H E hr => (pss_cons (ps_set (i := 1) sc_Reader_read_triple.nd rfl (by first | exact Or.inl rfl | exact Or.inr rfl) (pe_methH0 (pv 0) Z.cf.cl (has_Reader_read_number Z) (hr.mono (by decide)) (pass_own (takes_of rfl rfl rfl rfl)))) (pss_cons (ps_set (i := 2) sc_Reader_read_triple.nd rfl (by first | exact Or.inl rfl | exact Or.inr rfl) (pe_methH0 (pv 0) Z.cf.cl (has_Reader_read_number Z) (hr.mono (by decide)) (pass_own (takes_of rfl rfl rfl rfl)))) (pss_one (ps_ret (pe_tup (pa_cons (pv 1) (pa_cons (pv 2) (pa_cons (pe_methH0 (pv 0) Z.cf.cl (has_Reader_read_deed Z) (hr.mono (by decide)) (pass_own (takes_of rfl rfl rfl rfl))) pa_nil)))))))))
    (ok_Reader_read_triple Z.cf) mon_Reader_read_triple
theorem has_Reader_read_triples (Z : Facts K mg A) : HasM P w K mg base (L2.CX P w) 7 A.cReader "read_triples" ["self"] (up (S_Reader_read_triples K A)) :=
  HasM.mkX (t := t_Reader_read_triples K A) Z.f_Reader_read_triples sc_Reader_read_triples (fun _ _ _ _ _ _ us hl => match us, hl with | [_], _ => rfl) len_Reader_read_triples
    (fun f cdv A0 outer s H E hr => (pss_one (ps_ret (pe_lcX (own := [("_", 1)]) (g := (gName 1)) (by rfl) (by rfl) (by rfl) (takes_of rfl rfl rfl rfl) sc_Reader_read_triples.nd (pi_range1 (by rfl) Z.b_range (pa_cons (pe_methH0 (pv 0) Z.cf.cl (has_Reader_read_count Z) (hr.mono (by decide)) (pass_own (takes_of rfl rfl rfl rfl))) pa_nil)) (blkOk_by (own := [("_", 1)]) (N := ["self", "_"]) (sc := defScope s_Reader_read_triples) (by decide +kernel)) (fun _ _ _ _ _ => (pg_name (i := 1) sc_Reader_read_triples.nd rfl (by first | exact Or.inl rfl | exact Or.inr rfl))) (fun _ _ _ _ _ => pts_nil) (fun _ _ _ _ _ xe px => (pe_methH0 (pv 0) Z.cf.cl (has_Reader_read_triple Z) (hr.mono (by decide)) px))))))
    (ok_Reader_read_triples Z.cf) mon_Reader_read_triples
theorem has_Reader_read_packet (Z : Facts K mg A) : HasM P w K mg base (L2.CX P w) 8 A.cReader "read_packet" ["self"] (up (S_Reader_read_packet K A)) :=
  HasM.mkX (t := t_Reader_read_packet K A) Z.f_Reader_read_packet sc_Reader_read_packet (fun _ _ _ _ _ _ us hl => match us, hl with | [_], _ => rfl) len_Reader_read_packet
    (fun f cdv A0 outer s H E hr => (pss_cons (ps_if (pt_cmpR (op_neU (rm64 hr)) (pe_methH0 (pv 0) Z.cf.cl (has_Reader_read_byte Z) (hr.mono (by decide)) (pass_own (takes_of rfl rfl rfl rfl))) pe_int (nomark _)) (pss_one (ps_rz rfl Z.cf.xc Z.g_DamagedPacket (takes_of rfl rfl rfl rfl) (by rfl))) pss_nil) (pss_one (ps_ret (pe_methH0 (pv 0) Z.cf.cl (has_Reader_read_triples Z) (hr.mono (by decide)) (pass_own (takes_of rfl rfl rfl rfl)))))))
    (ok_Reader_read_packet Z.cf) mon_Reader_read_packet
theorem has_write_number (Z : Facts K mg A) : Has P w K mg base CX0 1 "write_number" ["number"] (up (S_write_number K A)) :=
  Has.mk0 (t := t_write_number K A) Z.f_write_number sc_write_number (fun _ _ _ _ _ _ us hl => match us, hl with | [_], _ => rfl) len_write_number
    (fun f cdv A0 outer s H E hr => (pss_cons (ps_set (i := 1) sc_write_number.nd rfl (by first | exact Or.inl rfl | exact Or.inr rfl) (pe_lst pa_nil)) (pss_cons (ps_while PassesOwn.never (pt_cmpR op_geU (pv 0) pe_int (nomark _)) (pss_cons (ps_expr (pe_bm PySem.F.plainAttrs_list PySem.F.slot_list_append PySem.F.type_list_append mt_append (pv 1) (pa_cons (pe_op op_addU (pe_op op_modU (pv 0) pe_int) pe_int) pa_nil))) (pss_one (ps_set (i := 0) sc_write_number.nd rfl (by first | exact Or.inl rfl | exact Or.inr rfl) (pe_op op_divU (pv 0) pe_int))))) (pss_one (ps_ret (pe_op op_addU (pv 1) (pe_lst (pa_cons (pv 0) pa_nil))))))))
    ok_write_number
theorem has_write_list (Z : Facts K mg A) : Has P w K mg base CX0 2 "write_list" ["items"] (up (S_write_list K A)) :=
  Has.mk0 (t := t_write_list K A) Z.f_write_list sc_write_list (fun _ _ _ _ _ _ us hl => match us, hl with | [_], _ => rfl) len_write_list
    (fun f cdv A0 outer s H E hr => (pss_cons (ps_set (i := 1) sc_write_list.nd rfl (by first | exact Or.inl rfl | exact Or.inr rfl) (pe_callH (has_write_number Z) (hr.mono (by decide)) (by rfl) pass0 (pa_cons (pe_callB call_lenU (by rfl) Z.b_len (by decide +kernel) (pa_cons (pv 0) pa_nil)) pa_nil))) (pss_cons (ps_for PassesOwn.never rfl (pi_list (pv 0)) (pg_name (i := 2) sc_write_list.nd rfl (by first | exact Or.inl rfl | exact Or.inr rfl)) (pss_one (ps_expr (pe_bm PySem.F.plainAttrs_list PySem.F.slot_list_extend PySem.F.type_list_extend mt_extend (pv 1) (pa_cons (pv 2) pa_nil))))) (pss_one (ps_ret (pv 1))))))
    ok_write_list
theorem has_write_string (Z : Facts K mg A) : Has P w K mg base CX0 3 "write_string" ["text"] (up (S_write_string K A)) :=
  Has.mk0 (t := t_write_string K A) Z.f_write_string sc_write_string (fun _ _ _ _ _ _ us hl => match us, hl with | [_], _ => rfl) len_write_string
    (fun f cdv A0 outer s H E hr => (pss_one (ps_ret (pe_callH (has_write_list Z) (hr.mono (by decide)) (by rfl) pass0 (pa_cons (pe_lc (own := [("character", 1)]) (g := (gName 1)) (by rfl) sc_write_string.nd (pi_str (pv 0)) (blkOk_by (own := [("character", 1)]) (N := ["text", "character"]) (sc := defScope s_write_string) (by decide +kernel)) (fun _ _ _ _ _ => (pg_name (i := 1) sc_write_string.nd rfl (by first | exact Or.inl rfl | exact Or.inr rfl))) (fun _ _ _ _ _ => pts_nil) (fun _ _ _ _ _ => (pe_callH (has_write_number Z) (hr.mono (by decide)) (by rfl) pass0 (pa_cons (pe_callB call_ordU (by rfl) Z.b_ord (by decide +kernel) (pa_cons (pv 1) pa_nil)) pa_nil)))) pa_nil)))))
    ok_write_string
theorem has_write_mark (Z : Facts K mg A) : Has P w K mg base CX0 2 "write_mark" ["mark"] (up (S_write_mark K A)) :=
  Has.mk0 (t := t_write_mark K A) Z.f_write_mark sc_write_mark (fun _ _ _ _ _ _ us hl => match us, hl with | [_], _ => rfl) len_write_mark
    (fun f cdv A0 outer s H E hr => (pss_one (ps_ret (pe_op op_addU (pe_callH (has_write_number Z) (hr.mono (by decide)) (by rfl) pass0 (pa_cons (pe_ix ix_seq (pv 0) pe_int (fun _ _ => rfl)) pa_nil)) (pe_callH (has_write_number Z) (hr.mono (by decide)) (by rfl) pass0 (pa_cons (pe_ix ix_seq (pv 0) pe_int (fun _ _ => rfl)) pa_nil))))))
    ok_write_mark
theorem has_write_deed (Z : Facts K mg A) : Has P w K mg base CX0 4 "write_deed" ["deed"] (up (S_write_deed K A)) :=
  Has.mk0 (t := t_write_deed K A) Z.f_write_deed sc_write_deed (fun _ _ _ _ _ _ us hl => match us, hl with | [_], _ => rfl) len_write_deed
    (fun f cdv A0 outer s H E hr => (pss_cons (ps_if (pt_cmpR (op_eqU (rm64 hr)) (pe_ix ix_seq (pv 0) pe_int (fun _ _ => rfl)) pe_str (nomark _)) (pss_one (ps_ret (pe_op op_addU (pe_lst (pa_cons pe_int pa_nil)) (pe_callH (has_write_number Z) (hr.mono (by decide)) (by rfl) pass0 (pa_cons (pe_ix ix_seq (pv 0) pe_int (fun _ _ => rfl)) pa_nil))))) pss_nil) (pss_cons (ps_asg (pv 0) (pg_tup rfl (pgs_cons (pg_name (i := 1) sc_write_deed.nd rfl (by first | exact Or.inl rfl | exact Or.inr rfl)) (pgs_cons (pg_name (i := 2) sc_write_deed.nd rfl (by first | exact Or.inl rfl | exact Or.inr rfl)) (pgs_cons (pg_name (i := 3) sc_write_deed.nd rfl (by first | exact Or.inl rfl | exact Or.inr rfl)) (pgs_cons (pg_name (i := 4) sc_write_deed.nd rfl (by first | exact Or.inl rfl | exact Or.inr rfl)) (pgs_cons (pg_name (i := 5) sc_write_deed.nd rfl (by first | exact Or.inl rfl | exact Or.inr rfl)) (pgs_cons (pg_name (i := 6) sc_write_deed.nd rfl (by first | exact Or.inl rfl | exact Or.inr rfl)) pgs_nil)))))))) (pss_cons (ps_set (i := 7) sc_write_deed.nd rfl (by first | exact Or.inl rfl | exact Or.inr rfl) (pe_op op_addU (pe_op op_addU (pe_lst (pa_cons pe_int pa_nil)) (pe_callH (has_write_string Z) (hr.mono (by decide)) (by rfl) pass0 (pa_cons (pv 2) pa_nil))) (pe_callH (has_write_list Z) (hr.mono (by decide)) (by rfl) pass0 (pa_cons (pe_lc (own := [("mark", 8)]) (g := (gName 8)) (by rfl) sc_write_deed.nd (pi_tup (pv 3)) (blkOk_by (own := [("mark", 8)]) (N := ["deed", "_", "module", "removed", "behind", "number", "text", "data", "mark"]) (sc := defScope s_write_deed) (by decide +kernel)) (fun _ _ _ _ _ => (pg_name (i := 8) sc_write_deed.nd rfl (by first | exact Or.inl rfl | exact Or.inr rfl))) (fun _ _ _ _ _ => pts_nil) (fun _ _ _ _ _ => (pe_callH (has_write_mark Z) (hr.mono (by decide)) (by rfl) pass0 (pa_cons (pv 8) pa_nil)))) pa_nil)))) (pss_cons (ps_expr (pe_bm PySem.F.plainAttrs_list PySem.F.slot_list_extend PySem.F.type_list_extend mt_extend (pv 7) (pa_cons (pe_ifExp (pt_cmpR op_isN1 (pv 4) pe_non (nomark _)) (pe_lst (pa_cons pe_int pa_nil)) (pe_op op_addU (pe_lst (pa_cons pe_int pa_nil)) (pe_callH (has_write_mark Z) (hr.mono (by decide)) (by rfl) pass0 (pa_cons (pv 4) pa_nil)))) pa_nil))) (pss_one (ps_ret (pe_op op_addU (pe_op op_addU (pv 7) (pe_callH (has_write_number Z) (hr.mono (by decide)) (by rfl) pass0 (pa_cons (pv 5) pa_nil))) (pe_callH (has_write_string Z) (hr.mono (by decide)) (by rfl) pass0 (pa_cons (pv 6) pa_nil))))))))))
    ok_write_deed
theorem has_write_triples (Z : Facts K mg A) : Has P w K mg base CX0 5 "write_triples" ["triples"] (up (S_write_triples K A)) :=
  Has.mk0 (t := t_write_triples K A) Z.f_write_triples sc_write_triples (fun _ _ _ _ _ _ us hl => match us, hl with | [_], _ => rfl) len_write_triples
    (fun f cdv A0 outer s H E hr => (pss_cons (ps_set (i := 1) sc_write_triples.nd rfl (by first | exact Or.inl rfl | exact Or.inr rfl) (pe_lst pa_nil)) (pss_cons (ps_for PassesOwn.never rfl (pi_list (pv 0)) (pg_tup rfl (pgs_cons (pg_name (i := 2) sc_write_triples.nd rfl (by first | exact Or.inl rfl | exact Or.inr rfl)) (pgs_cons (pg_name (i := 3) sc_write_triples.nd rfl (by first | exact Or.inl rfl | exact Or.inr rfl)) (pgs_cons (pg_name (i := 4) sc_write_triples.nd rfl (by first | exact Or.inl rfl | exact Or.inr rfl)) pgs_nil)))) (pss_one (ps_expr (pe_bm PySem.F.plainAttrs_list PySem.F.slot_list_append PySem.F.type_list_append mt_append (pv 1) (pa_cons (pe_op op_addU (pe_op op_addU (pe_callH (has_write_number Z) (hr.mono (by decide)) (by rfl) pass0 (pa_cons (pv 2) pa_nil)) (pe_callH (has_write_number Z) (hr.mono (by decide)) (by rfl) pass0 (pa_cons (pv 3) pa_nil))) (pe_callH (has_write_deed Z) (hr.mono (by decide)) (by rfl) pass0 (pa_cons (pv 4) pa_nil))) pa_nil))))) (pss_one (ps_ret (pe_callH (has_write_list Z) (hr.mono (by decide)) (by rfl) pass0 (pa_cons (pv 1) pa_nil)))))))
    ok_write_triples
theorem has_write_packet (Z : Facts K mg A) : Has P w K mg base CX0 6 "write_packet" ["packet"] (up (S_write_packet K A)) :=
  Has.mk0 (t := t_write_packet K A) Z.f_write_packet sc_write_packet (fun _ _ _ _ _ _ us hl => match us, hl with | [_], _ => rfl) len_write_packet
    (fun f cdv A0 outer s H E hr => (pss_one (ps_ret (pe_op op_addU (pe_lst (pa_cons pe_int pa_nil)) (pe_callH (has_write_triples Z) (hr.mono (by decide)) (by rfl) pass0 (pa_cons (pv 0) pa_nil))))))
    ok_write_packet
theorem has__law_next (Z : Facts K mg A) : Has P w K mg base CX0 1 "_law_next" ["state", "limit"] (up (S__law_next K A)) :=
  Has.mk0 (t := t__law_next K A) Z.f__law_next sc__law_next (fun _ _ _ _ _ _ us hl => match us, hl with | [_, _], _ => rfl) len__law_next
    (fun f cdv A0 outer s H E hr => (pss_cons (ps_if (PW.pt (pw_and (pt_cmpR (op_eqU (rm64 hr)) (pe_ix ix_seq (pv 0) pe_int (fun _ _ => rfl)) pe_int (nomark _)) (pw_and1 (pt_cmpR (op_ltU (rm0 hr)) (pe_ix ix_seq (pv 0) pe_int (fun _ _ => rfl)) (pe_callB call_lenU (by rfl) Z.b_len (by decide +kernel) (pa_cons (pe_ix ix_seq (pv 0) pe_int (fun _ _ => rfl)) pa_nil)) (nomark _))))) (pss_cons (ps_set (i := 2) sc__law_next.nd rfl (by first | exact Or.inl rfl | exact Or.inr rfl) (pe_ix ix_seq (pe_ix ix_seq (pv 0) pe_int (fun _ _ => rfl)) (pe_ix ix_seq (pv 0) pe_int (fun _ _ => rfl)) (fun _ _ => rfl))) (pss_cons (ps_augS (pv 0) pe_int pget_list pe_int ip_add set_list) (pss_one (ps_if (pt_cmpR op_geU (pv 2) (pe_op op_powU pe_int pe_int) (nomark _)) (pss_one (ps_asg (pv 2) (pg_sub (pv 0) pe_int set_list))) (pss_one (ps_asg (pe_op op_modU (pe_callTy call_intU (by rfl) Z.b_int (by decide +kernel) (pa_cons (pe_op op_addU (pe_op op_addU (pe_op op_mulU (pe_ix ix_seq (pv 0) pe_int (fun _ _ => rfl)) pe_int) (pe_op op_modU (pe_callTy call_intU (by rfl) Z.b_int (by decide +kernel) (pa_cons (pv 2) pa_nil)) pe_int)) pe_int) pa_nil)) pe_int) (pg_sub (pv 0) pe_int set_list))))))) pss_nil) (pss_cons (ps_if (pt_cmpR op_gtU (pe_ix ix_seq (pv 0) pe_int (fun _ _ => rfl)) pe_int (nomark _)) (pss_cons (ps_set (i := 3) sc__law_next.nd rfl (by first | exact Or.inl rfl | exact Or.inr rfl) (pe_op op_modU (pe_callTy call_intU (by rfl) Z.b_int (by decide +kernel) (pa_cons (pe_ix ix_seq (pv 0) pe_int (fun _ _ => rfl)) pa_nil)) (pv 1))) (pss_cons (ps_asg (pe_op op_divU (pe_ix ix_seq (pv 0) pe_int (fun _ _ => rfl)) (pv 1)) (pg_sub (pv 0) pe_int set_list)) (pss_one (ps_ret (pv 3))))) pss_nil) (pss_cons (ps_asg (pe_op op_modU (pe_callTy call_intU (by rfl) Z.b_int (by decide +kernel) (pa_cons (pe_op op_addU (pe_op op_mulU (pe_ix ix_seq (pv 0) pe_int (fun _ _ => rfl)) pe_int) pe_int) pa_nil)) pe_int) (pg_sub (pv 0) pe_int set_list)) (pss_one (ps_ret (pe_op op_modU (pe_callTy call_intU (by rfl) Z.b_int (by decide +kernel) (pa_cons (pe_op op_divU (pe_ix ix_seq (pv 0) pe_int (fun _ _ => rfl)) pe_int) pa_nil)) (pv 1))))))))
    ok__law_next
theorem has__law_same_n (Z : Facts K mg A) : ∀ n : Nat, Has P w K mg base CX0 (n + 0) "_law_same" ["actual", "expected"] (up (Sn__law_same K A n))
  | 0 => Has.never (ps := ["actual", "expected"]) Z.f__law_same (fun _ _ _ _ _ _ us hl => match us, hl with | [_, _], _ => rfl) no__law_same
  | n + 1 => by
    have h_rec := has__law_same_n Z n
    exact Has.mk0 (t := t__law_same K A (Sn__law_same K A n)) Z.f__law_same sc__law_same (fun _ _ _ _ _ _ us hl => match us, hl with | [_, _], _ => rfl) (len__law_same (n + 1))
      (fun f cdv A0 outer s H E hr => (pss_cons (ps_if (pt_cmpR op_isN1 (pv 1) pe_non (nomark _)) (pss_one (ps_ret (pe_cmpR op_isN1 (pv 0) pe_non (nomark _)))) pss_nil) (pss_cons (ps_if (pt_tru (pe_callB call_isiU (by rfl) Z.b_isinstance (by decide +kernel) (pa_cons (pv 1) (pa_cons (pe_bltn (v := .ty "bool") (by rfl) Z.b_bool (by decide +kernel) rfl) pa_nil)))) (pss_one (ps_ret (pe_and (pe_callB call_isiU (by rfl) Z.b_isinstance (by decide +kernel) (pa_cons (pv 0) (pa_cons (pe_bltn (v := .ty "bool") (by rfl) Z.b_bool (by decide +kernel) rfl) pa_nil))) (pe_one (pe_cmpR (op_eqU (rm64 hr)) (pv 0) (pv 1) (nomark _)))))) pss_nil) (pss_cons (ps_if (pt_tru (pe_callB call_isiU (by rfl) Z.b_isinstance (by decide +kernel) (pa_cons (pv 1) (pa_cons (pe_bltn (v := .ty "int") (by rfl) Z.b_int (by decide +kernel) rfl) pa_nil)))) (pss_one (ps_ret (pe_and (pe_callB call_isiU (by rfl) Z.b_isinstance (by decide +kernel) (pa_cons (pv 0) (pa_cons (pe_bltn (v := .ty "int") (by rfl) Z.b_int (by decide +kernel) rfl) pa_nil))) (pe_and (pe_not (pe_callB call_isiU (by rfl) Z.b_isinstance (by decide +kernel) (pa_cons (pv 0) (pa_cons (pe_bltn (v := .ty "bool") (by rfl) Z.b_bool (by decide +kernel) rfl) pa_nil)))) (pe_one (pe_cmpR (op_eqU (rm64 hr)) (pv 0) (pv 1) (nomark _))))))) pss_nil) (pss_cons (ps_if (pt_tru (pe_callB call_isiU (by rfl) Z.b_isinstance (by decide +kernel) (pa_cons (pv 1) (pa_cons (pe_bltn (v := .ty "str") (by rfl) Z.b_str (by decide +kernel) rfl) pa_nil)))) (pss_one (ps_ret (pe_and (pe_callB call_isiU (by rfl) Z.b_isinstance (by decide +kernel) (pa_cons (pv 0) (pa_cons (pe_bltn (v := .ty "str") (by rfl) Z.b_str (by decide +kernel) rfl) pa_nil))) (pe_one (pe_cmpR (op_eqU (rm64 hr)) (pv 0) (pv 1) (nomark _)))))) pss_nil) (pss_cons (ps_if (PW.pt (pw_and (pt_tru (pe_callB call_isiU (by rfl) Z.b_isinstance (by decide +kernel) (pa_cons (pv 1) (pa_cons (pe_bltn (v := .ty "tuple") (by rfl) Z.b_tuple (by decide +kernel) rfl) pa_nil)))) (pw_and1 (pt_not (pt_tru (pe_callB call_isiU (by rfl) Z.b_isinstance (by decide +kernel) (pa_cons (pv 0) (pa_cons (pe_bltn (v := .ty "tuple") (by rfl) Z.b_tuple (by decide +kernel) rfl) pa_nil)))))))) (pss_one (ps_ret pe_bl)) pss_nil) (pss_cons (ps_if (PW.pt (pw_and (pt_tru (pe_callB call_isiU (by rfl) Z.b_isinstance (by decide +kernel) (pa_cons (pv 1) (pa_cons (pe_bltn (v := .ty "list") (by rfl) Z.b_list (by decide +kernel) rfl) pa_nil)))) (pw_and1 (pt_not (pt_tru (pe_callB call_isiU (by rfl) Z.b_isinstance (by decide +kernel) (pa_cons (pv 0) (pa_cons (pe_bltn (v := .ty "list") (by rfl) Z.b_list (by decide +kernel) rfl) pa_nil)))))))) (pss_one (ps_ret pe_bl)) pss_nil) (pss_cons (ps_if (pt_cmpR (op_neU (rm64 hr)) (pe_callB call_lenU (by rfl) Z.b_len (by decide +kernel) (pa_cons (pv 0) pa_nil)) (pe_callB call_lenU (by rfl) Z.b_len (by decide +kernel) (pa_cons (pv 1) pa_nil)) (nomark _)) (pss_one (ps_ret pe_bl)) pss_nil) (pss_cons (ps_for PassesOwn.never rfl (pi_range1 (by rfl) Z.b_range (pa_cons (pe_callB call_lenU (by rfl) Z.b_len (by decide +kernel) (pa_cons (pv 1) pa_nil)) pa_nil)) (pg_name (i := 2) sc__law_same.nd rfl (by first | exact Or.inl rfl | exact Or.inr rfl)) (pss_one (ps_if (pt_not (pt_tru (pe_callH h_rec hr (by rfl) pass0 (pa_cons (pe_ix ix_seq (pv 0) (pv 2) (fun _ _ => rfl)) (pa_cons (pe_ix ix_seq (pv 1) (pv 2) (fun _ _ => rfl)) pa_nil))))) (pss_one (ps_ret pe_bl)) pss_nil))) (pss_one (ps_ret pe_bl)))))))))))
      (ok__law_same n)
theorem has__law_same (Z : Facts K mg A) : Has P w K mg base CX0 8 "_law_same" ["actual", "expected"] (up (S__law_same K A)) := has__law_same_n Z 8
theorem has__law_number (Z : Facts K mg A) : Has P w K mg base CX0 1 "_law_number" ["number"] (up (S__law_number K A)) :=
  Has.mk0 (t := t__law_number K A) Z.f__law_number sc__law_number (fun _ _ _ _ _ _ us hl => match us, hl with | [_], _ => rfl) len__law_number
    (fun f cdv A0 outer s H E hr => (pss_cons (ps_set (i := 1) sc__law_number.nd rfl (by first | exact Or.inl rfl | exact Or.inr rfl) (pe_lst pa_nil)) (pss_cons (ps_while PassesOwn.never (pt_cmpR op_gtU (pv 0) pe_int (nomark _)) (pss_cons (ps_expr (pe_bm PySem.F.plainAttrs_list PySem.F.slot_list_append PySem.F.type_list_append mt_append (pv 1) (pa_cons (pe_op op_addU (pe_op op_modU (pv 0) pe_int) pe_int) pa_nil))) (pss_one (ps_set (i := 0) sc__law_number.nd rfl (by first | exact Or.inl rfl | exact Or.inr rfl) (pe_op op_divU (pv 0) pe_int))))) (pss_one (ps_ret (pe_op op_addU (pv 1) (pe_lst (pa_cons (pv 0) pa_nil))))))))
    ok__law_number
theorem has__law_text (Z : Facts K mg A) : Has P w K mg base CX0 2 "_law_text" ["text"] (up (S__law_text K A)) :=
  Has.mk0 (t := t__law_text K A) Z.f__law_text sc__law_text (fun _ _ _ _ _ _ us hl => match us, hl with | [_], _ => rfl) len__law_text
    (fun f cdv A0 outer s H E hr => (pss_cons (ps_set (i := 1) sc__law_text.nd rfl (by first | exact Or.inl rfl | exact Or.inr rfl) (pe_callH (has__law_number Z) (hr.mono (by decide)) (by rfl) pass0 (pa_cons (pe_callB call_lenU (by rfl) Z.b_len (by decide +kernel) (pa_cons (pv 0) pa_nil)) pa_nil))) (pss_cons (ps_for PassesOwn.never rfl (pi_str (pv 0)) (pg_name (i := 2) sc__law_text.nd rfl (by first | exact Or.inl rfl | exact Or.inr rfl)) (pss_one (ps_set (i := 1) sc__law_text.nd rfl (by first | exact Or.inl rfl | exact Or.inr rfl) (pe_op op_addU (pv 1) (pe_callH (has__law_number Z) (hr.mono (by decide)) (by rfl) pass0 (pa_cons (pe_callB call_ordU (by rfl) Z.b_ord (by decide +kernel) (pa_cons (pv 2) pa_nil)) pa_nil)))))) (pss_one (ps_ret (pv 1))))))
    ok__law_text
theorem has__law_mark (Z : Facts K mg A) : Has P w K mg base CX0 2 "_law_mark" ["mark"] (up (S__law_mark K A)) :=
  Has.mk0 (t := t__law_mark K A) Z.f__law_mark sc__law_mark (fun _ _ _ _ _ _ us hl => match us, hl with | [_], _ => rfl) len__law_mark
    (fun f cdv A0 outer s H E hr => (pss_one (ps_ret (pe_op op_addU (pe_callH (has__law_number Z) (hr.mono (by decide)) (by rfl) pass0 (pa_cons (pe_ix ix_seq (pv 0) pe_int (fun _ _ => rfl)) pa_nil)) (pe_callH (has__law_number Z) (hr.mono (by decide)) (by rfl) pass0 (pa_cons (pe_ix ix_seq (pv 0) pe_int (fun _ _ => rfl)) pa_nil))))))
    ok__law_mark
theorem has__law_deed (Z : Facts K mg A) : Has P w K mg base CX0 3 "_law_deed" ["deed"] (up (S__law_deed K A)) :=
  Has.mk0 (t := t__law_deed K A) Z.f__law_deed sc__law_deed (fun _ _ _ _ _ _ us hl => match us, hl with | [_], _ => rfl) len__law_deed
    (fun f cdv A0 outer s H E hr => (pss_cons (ps_if (pt_cmpR (op_eqU (rm64 hr)) (pe_ix ix_seq (pv 0) pe_int (fun _ _ => rfl)) pe_str (nomark _)) (pss_one (ps_ret (pe_op op_addU (pe_lst (pa_cons pe_int pa_nil)) (pe_callH (has__law_number Z) (hr.mono (by decide)) (by rfl) pass0 (pa_cons (pe_ix ix_seq (pv 0) pe_int (fun _ _ => rfl)) pa_nil))))) pss_nil) (pss_cons (ps_set (i := 1) sc__law_deed.nd rfl (by first | exact Or.inl rfl | exact Or.inr rfl) (pe_op op_addU (pe_op op_addU (pe_lst (pa_cons pe_int pa_nil)) (pe_callH (has__law_text Z) (hr.mono (by decide)) (by rfl) pass0 (pa_cons (pe_ix ix_seq (pv 0) pe_int (fun _ _ => rfl)) pa_nil))) (pe_callH (has__law_number Z) (hr.mono (by decide)) (by rfl) pass0 (pa_cons (pe_callB call_lenU (by rfl) Z.b_len (by decide +kernel) (pa_cons (pe_ix ix_seq (pv 0) pe_int (fun _ _ => rfl)) pa_nil)) pa_nil)))) (pss_cons (ps_for PassesOwn.never rfl (pi_tup (pe_ix ix_seq (pv 0) pe_int (fun _ _ => rfl))) (pg_name (i := 2) sc__law_deed.nd rfl (by first | exact Or.inl rfl | exact Or.inr rfl)) (pss_one (ps_set (i := 1) sc__law_deed.nd rfl (by first | exact Or.inl rfl | exact Or.inr rfl) (pe_op op_addU (pv 1) (pe_callH (has__law_mark Z) (hr.mono (by decide)) (by rfl) pass0 (pa_cons (pv 2) pa_nil)))))) (pss_cons (ps_set (i := 1) sc__law_deed.nd rfl (by first | exact Or.inl rfl | exact Or.inr rfl) (pe_op op_addU (pv 1) (pe_ifExp (pt_cmpR op_isN1 (pe_ix ix_seq (pv 0) pe_int (fun _ _ => rfl)) pe_non (nomark _)) (pe_lst (pa_cons pe_int pa_nil)) (pe_op op_addU (pe_lst (pa_cons pe_int pa_nil)) (pe_callH (has__law_mark Z) (hr.mono (by decide)) (by rfl) pass0 (pa_cons (pe_ix ix_seq (pv 0) pe_int (fun _ _ => rfl)) pa_nil)))))) (pss_one (ps_ret (pe_op op_addU (pe_op op_addU (pv 1) (pe_callH (has__law_number Z) (hr.mono (by decide)) (by rfl) pass0 (pa_cons (pe_ix ix_seq (pv 0) pe_int (fun _ _ => rfl)) pa_nil))) (pe_callH (has__law_text Z) (hr.mono (by decide)) (by rfl) pass0 (pa_cons (pe_ix ix_seq (pv 0) pe_int (fun _ _ => rfl)) pa_nil))))))))))
    ok__law_deed
theorem has__law_triples (Z : Facts K mg A) : Has P w K mg base CX0 4 "_law_triples" ["triples"] (up (S__law_triples K A)) :=
  Has.mk0 (t := t__law_triples K A) Z.f__law_triples sc__law_triples (fun _ _ _ _ _ _ us hl => match us, hl with | [_], _ => rfl) len__law_triples
    (fun f cdv A0 outer s H E hr => (pss_cons (ps_set (i := 1) sc__law_triples.nd rfl (by first | exact Or.inl rfl | exact Or.inr rfl) (pe_callH (has__law_number Z) (hr.mono (by decide)) (by rfl) pass0 (pa_cons (pe_callB call_lenU (by rfl) Z.b_len (by decide +kernel) (pa_cons (pv 0) pa_nil)) pa_nil))) (pss_cons (ps_for PassesOwn.never rfl (pi_list (pv 0)) (pg_tup rfl (pgs_cons (pg_name (i := 2) sc__law_triples.nd rfl (by first | exact Or.inl rfl | exact Or.inr rfl)) (pgs_cons (pg_name (i := 3) sc__law_triples.nd rfl (by first | exact Or.inl rfl | exact Or.inr rfl)) (pgs_cons (pg_name (i := 4) sc__law_triples.nd rfl (by first | exact Or.inl rfl | exact Or.inr rfl)) pgs_nil)))) (pss_one (ps_set (i := 1) sc__law_triples.nd rfl (by first | exact Or.inl rfl | exact Or.inr rfl) (pe_op op_addU (pe_op op_addU (pe_op op_addU (pv 1) (pe_callH (has__law_number Z) (hr.mono (by decide)) (by rfl) pass0 (pa_cons (pv 2) pa_nil))) (pe_callH (has__law_number Z) (hr.mono (by decide)) (by rfl) pass0 (pa_cons (pv 3) pa_nil))) (pe_callH (has__law_deed Z) (hr.mono (by decide)) (by rfl) pass0 (pa_cons (pv 4) pa_nil)))))) (pss_one (ps_ret (pv 1))))))
    ok__law_triples
theorem has__law_read_number (Z : Facts K mg A) : Has P w K mg base CX0 1 "_law_read_number" ["data", "at"] (up (S__law_read_number K A)) :=
  Has.mk0 (t := t__law_read_number K A) Z.f__law_read_number sc__law_read_number (fun _ _ _ _ _ _ us hl => match us, hl with | [_, _], _ => rfl) len__law_read_number
    (fun f cdv A0 outer s H E hr => (pss_cons (ps_set (i := 2) sc__law_read_number.nd rfl (by first | exact Or.inl rfl | exact Or.inr rfl) pe_int) (pss_cons (ps_set (i := 3) sc__law_read_number.nd rfl (by first | exact Or.inl rfl | exact Or.inr rfl) pe_int) (pss_cons (ps_for PassesOwn.never rfl (pi_range1 (by rfl) Z.b_range (pa_cons pe_int pa_nil)) (pg_name (i := 4) sc__law_read_number.nd rfl (by first | exact Or.inl rfl | exact Or.inr rfl)) (pss_cons (ps_if (pt_cmpR op_geU (pe_op op_addU (pv 1) (pv 4)) (pe_callB call_lenU (by rfl) Z.b_len (by decide +kernel) (pa_cons (pv 0) pa_nil)) (nomark _)) (pss_one (ps_ret pe_non)) pss_nil) (pss_cons (ps_set (i := 2) sc__law_read_number.nd rfl (by first | exact Or.inl rfl | exact Or.inr rfl) (pe_op op_addU (pv 2) (pe_op op_mulU (pe_op op_modU (pe_ix ix_seq (pv 0) (pe_op op_addU (pv 1) (pv 4)) (fun _ _ => rfl)) pe_int) (pv 3)))) (pss_cons (ps_set (i := 3) sc__law_read_number.nd rfl (by first | exact Or.inl rfl | exact Or.inr rfl) (pe_op op_mulU (pv 3) pe_int)) (pss_one (ps_if (pt_cmpR (op_ltU (rm0 hr)) (pe_ix ix_seq (pv 0) (pe_op op_addU (pv 1) (pv 4)) (fun _ _ => rfl)) pe_int (nomark _)) (pss_one (ps_ret (pe_ifExp (PW.pt (pw_and (pt_cmpR op_gtU (pv 4) pe_int (nomark _)) (pw_and1 (pt_cmpR (op_eqU (rm64 hr)) (pe_ix ix_seq (pv 0) (pe_op op_addU (pv 1) (pv 4)) (fun _ _ => rfl)) pe_int (nomark _))))) pe_non (pe_tup (pa_cons (pv 2) (pa_cons (pe_op op_addU (pe_op op_addU (pv 1) (pv 4)) pe_int) pa_nil)))))) pss_nil)))))) (pss_one (ps_ret pe_non))))))
    ok__law_read_number
theorem has__law_sign (Z : Facts K mg A) : Has P w K mg base CX0 1 "_law_sign" ["code"] (up (S__law_sign K A)) :=
  Has.mk0 (t := t__law_sign K A) Z.f__law_sign sc__law_sign (fun _ _ _ _ _ _ us hl => match us, hl with | [_], _ => rfl) len__law_sign
    (fun f cdv A0 outer s H E hr => (pss_cons (ps_set (i := 1) sc__law_sign.nd rfl (by first | exact Or.inl rfl | exact Or.inr rfl) pe_str) (pss_cons (ps_set (i := 2) sc__law_sign.nd rfl (by first | exact Or.inl rfl | exact Or.inr rfl) pe_str) (pss_cons (ps_if (pt_cmpR (op_ltU (rm0 hr)) (pv 0) pe_int (nomark _)) (pss_one (ps_ret (pe_ifExp (pt_cmpR (op_eqU (rm64 hr)) (pv 0) pe_int (nomark _)) pe_str (pe_ix ix_seq (pv 1) (pe_op op_subI (pv 0) pe_int) (fun _ _ => rfl))))) pss_nil) (pss_one (ps_ret (pe_ix ix_seq (pv 2) (pe_op op_subI (pv 0) pe_int) (fun _ _ => rfl))))))))
    ok__law_sign
theorem has__law_read_text (Z : Facts K mg A) : Has P w K mg base CX0 2 "_law_read_text" ["data", "at"] (up (S__law_read_text K A)) :=
  Has.mk0 (t := t__law_read_text K A) Z.f__law_read_text sc__law_read_text (fun _ _ _ _ _ _ us hl => match us, hl with | [_, _], _ => rfl) len__law_read_text
    (fun f cdv A0 outer s H E hr => (pss_cons (ps_set (i := 2) sc__law_read_text.nd rfl (by first | exact Or.inl rfl | exact Or.inr rfl) (pe_callH (has__law_read_number Z) (hr.mono (by decide)) (by rfl) pass0 (pa_cons (pv 0) (pa_cons (pv 1) pa_nil)))) (pss_cons (ps_if (PW.pt (pw_or (pt_cmpR op_isN1 (pv 2) pe_non (nomark _)) (pw_or1 (pt_cmpR op_gtU (pe_ix ix_seq (pv 2) pe_int (fun _ _ => rfl)) (pe_op op_subI (pe_callB call_lenU (by rfl) Z.b_len (by decide +kernel) (pa_cons (pv 0) pa_nil)) (pe_ix ix_seq (pv 2) pe_int (fun _ _ => rfl))) (nomark _))))) (pss_one (ps_ret pe_non)) pss_nil) (pss_cons (ps_asg (pv 2) (pg_tup rfl (pgs_cons (pg_name (i := 3) sc__law_read_text.nd rfl (by first | exact Or.inl rfl | exact Or.inr rfl)) (pgs_cons (pg_name (i := 1) sc__law_read_text.nd rfl (by first | exact Or.inl rfl | exact Or.inr rfl)) pgs_nil)))) (pss_cons (ps_set (i := 4) sc__law_read_text.nd rfl (by first | exact Or.inl rfl | exact Or.inr rfl) pe_str) (pss_cons (ps_for PassesOwn.never rfl (pi_range1 (by rfl) Z.b_range (pa_cons (pv 3) pa_nil)) (pg_name (i := 5) sc__law_read_text.nd rfl (by first | exact Or.inl rfl | exact Or.inr rfl)) (pss_cons (ps_set (i := 2) sc__law_read_text.nd rfl (by first | exact Or.inl rfl | exact Or.inr rfl) (pe_callH (has__law_read_number Z) (hr.mono (by decide)) (by rfl) pass0 (pa_cons (pv 0) (pa_cons (pv 1) pa_nil)))) (pss_cons (ps_if (PW.pt (pw_or (pt_cmpR op_isN1 (pv 2) pe_non (nomark _)) (pw_or (PW.pt (pw_and (pt_cmpR (op_neU (rm64 hr)) (pe_ix ix_seq (pv 2) pe_int (fun _ _ => rfl)) pe_int (nomark _)) (pw_and1 (pt_not (pt_chain op_leU op_leU pe_int (pe_ix ix_seq (pv 2) pe_int (fun _ _ => rfl)) pe_int))))) (pw_or1 (pt_cmpR (op_eqU (rm64 hr)) (pe_ix ix_seq (pv 2) pe_int (fun _ _ => rfl)) pe_int (nomark _)))))) (pss_one (ps_ret pe_non)) pss_nil) (pss_cons (ps_set (i := 4) sc__law_read_text.nd rfl (by first | exact Or.inl rfl | exact Or.inr rfl) (pe_op op_addU (pv 4) (pe_callH (has__law_sign Z) (hr.mono (by decide)) (by rfl) pass0 (pa_cons (pe_ix ix_seq (pv 2) pe_int (fun _ _ => rfl)) pa_nil)))) (pss_one (ps_set (i := 1) sc__law_read_text.nd rfl (by first | exact Or.inl rfl | exact Or.inr rfl) (pe_ix ix_seq (pv 2) pe_int (fun _ _ => rfl)))))))) (pss_one (ps_ret (pe_tup (pa_cons (pv 4) (pa_cons (pv 1) pa_nil)))))))))))
    ok__law_read_text
theorem has__law_read_mark (Z : Facts K mg A) : Has P w K mg base CX0 2 "_law_read_mark" ["data", "at"] (up (S__law_read_mark K A)) :=
  Has.mk0 (t := t__law_read_mark K A) Z.f__law_read_mark sc__law_read_mark (fun _ _ _ _ _ _ us hl => match us, hl with | [_, _], _ => rfl) len__law_read_mark
    (fun f cdv A0 outer s H E hr => (pss_cons (ps_set (i := 2) sc__law_read_mark.nd rfl (by first | exact Or.inl rfl | exact Or.inr rfl) (pe_callH (has__law_read_number Z) (hr.mono (by decide)) (by rfl) pass0 (pa_cons (pv 0) (pa_cons (pv 1) pa_nil)))) (pss_cons (ps_set (i := 3) sc__law_read_mark.nd rfl (by first | exact Or.inl rfl | exact Or.inr rfl) (pe_ifExp (pt_cmpR op_isN1 (pv 2) pe_non (nomark _)) pe_non (pe_callH (has__law_read_number Z) (hr.mono (by decide)) (by rfl) pass0 (pa_cons (pv 0) (pa_cons (pe_ix ix_seq (pv 2) pe_int (fun _ _ => rfl)) pa_nil))))) (pss_one (ps_ret (pe_ifExp (pt_cmpR op_isN1 (pv 3) pe_non (nomark _)) pe_non (pe_tup (pa_cons (pe_tup (pa_cons (pe_ix ix_seq (pv 2) pe_int (fun _ _ => rfl)) (pa_cons (pe_ix ix_seq (pv 3) pe_int (fun _ _ => rfl)) pa_nil))) (pa_cons (pe_ix ix_seq (pv 3) pe_int (fun _ _ => rfl)) pa_nil)))))))))
    ok__law_read_mark
theorem has__law_read_deed (Z : Facts K mg A) : Has P w K mg base CX0 3 "_law_read_deed" ["data", "at"] (up (S__law_read_deed K A)) :=
  Has.mk0 (t := t__law_read_deed K A) Z.f__law_read_deed sc__law_read_deed (fun _ _ _ _ _ _ us hl => match us, hl with | [_, _], _ => rfl) len__law_read_deed
    (fun f cdv A0 outer s H E hr => (pss_cons (ps_if (PW.pt (pw_or (pt_cmpR op_geU (pv 1) (pe_callB call_lenU (by rfl) Z.b_len (by decide +kernel) (pa_cons (pv 0) pa_nil)) (nomark _)) (pw_or1 (pt_cmpR op_gtU (pe_ix ix_seq (pv 0) (pv 1) (fun _ _ => rfl)) pe_int (nomark _))))) (pss_one (ps_ret pe_non)) pss_nil) (pss_cons (ps_if (pt_cmpR (op_eqU (rm64 hr)) (pe_ix ix_seq (pv 0) (pv 1) (fun _ _ => rfl)) pe_int (nomark _)) (pss_cons (ps_set (i := 2) sc__law_read_deed.nd rfl (by first | exact Or.inl rfl | exact Or.inr rfl) (pe_callH (has__law_read_number Z) (hr.mono (by decide)) (by rfl) pass0 (pa_cons (pv 0) (pa_cons (pe_op op_addU (pv 1) pe_int) pa_nil)))) (pss_one (ps_ret (pe_ifExp (pt_cmpR op_isN1 (pv 2) pe_non (nomark _)) pe_non (pe_tup (pa_cons (pe_tup (pa_cons pe_str (pa_cons (pe_ix ix_seq (pv 2) pe_int (fun _ _ => rfl)) pa_nil))) (pa_cons (pe_ix ix_seq (pv 2) pe_int (fun _ _ => rfl)) pa_nil))))))) pss_nil) (pss_cons (ps_set (i := 3) sc__law_read_deed.nd rfl (by first | exact Or.inl rfl | exact Or.inr rfl) (pe_callH (has__law_read_text Z) (hr.mono (by decide)) (by rfl) pass0 (pa_cons (pv 0) (pa_cons (pe_op op_addU (pv 1) pe_int) pa_nil)))) (pss_cons (ps_set (i := 4) sc__law_read_deed.nd rfl (by first | exact Or.inl rfl | exact Or.inr rfl) (pe_ifExp (pt_cmpR op_isN1 (pv 3) pe_non (nomark _)) pe_non (pe_callH (has__law_read_number Z) (hr.mono (by decide)) (by rfl) pass0 (pa_cons (pv 0) (pa_cons (pe_ix ix_seq (pv 3) pe_int (fun _ _ => rfl)) pa_nil))))) (pss_cons (ps_if (PW.pt (pw_or (pt_cmpR op_isN1 (pv 4) pe_non (nomark _)) (pw_or1 (pt_cmpR op_gtU (pe_ix ix_seq (pv 4) pe_int (fun _ _ => rfl)) (pe_op op_subI (pe_callB call_lenU (by rfl) Z.b_len (by decide +kernel) (pa_cons (pv 0) pa_nil)) (pe_ix ix_seq (pv 4) pe_int (fun _ _ => rfl))) (nomark _))))) (pss_one (ps_ret pe_non)) pss_nil) (pss_cons (ps_set (i := 1) sc__law_read_deed.nd rfl (by first | exact Or.inl rfl | exact Or.inr rfl) (pe_ix ix_seq (pv 4) pe_int (fun _ _ => rfl))) (pss_cons (ps_set (i := 5) sc__law_read_deed.nd rfl (by first | exact Or.inl rfl | exact Or.inr rfl) (pe_lst pa_nil)) (pss_cons (ps_for PassesOwn.never rfl (pi_range1 (by rfl) Z.b_range (pa_cons (pe_ix ix_seq (pv 4) pe_int (fun _ _ => rfl)) pa_nil)) (pg_name (i := 6) sc__law_read_deed.nd rfl (by first | exact Or.inl rfl | exact Or.inr rfl)) (pss_cons (ps_set (i := 2) sc__law_read_deed.nd rfl (by first | exact Or.inl rfl | exact Or.inr rfl) (pe_callH (has__law_read_mark Z) (hr.mono (by decide)) (by rfl) pass0 (pa_cons (pv 0) (pa_cons (pv 1) pa_nil)))) (pss_cons (ps_if (pt_cmpR op_isN1 (pv 2) pe_non (nomark _)) (pss_one (ps_ret pe_non)) pss_nil) (pss_cons (ps_expr (pe_bm PySem.F.plainAttrs_list PySem.F.slot_list_append PySem.F.type_list_append mt_append (pv 5) (pa_cons (pe_ix ix_seq (pv 2) pe_int (fun _ _ => rfl)) pa_nil))) (pss_one (ps_set (i := 1) sc__law_read_deed.nd rfl (by first | exact Or.inl rfl | exact Or.inr rfl) (pe_ix ix_seq (pv 2) pe_int (fun _ _ => rfl)))))))) (pss_cons (ps_if (PW.pt (pw_or (pt_cmpR op_geU (pv 1) (pe_callB call_lenU (by rfl) Z.b_len (by decide +kernel) (pa_cons (pv 0) pa_nil)) (nomark _)) (pw_or1 (pt_cmpR op_gtU (pe_ix ix_seq (pv 0) (pv 1) (fun _ _ => rfl)) pe_int (nomark _))))) (pss_one (ps_ret pe_non)) pss_nil) (pss_cons (ps_set (i := 7) sc__law_read_deed.nd rfl (by first | exact Or.inl rfl | exact Or.inr rfl) (pe_ifExp (pt_cmpR (op_eqU (rm64 hr)) (pe_ix ix_seq (pv 0) (pv 1) (fun _ _ => rfl)) pe_int (nomark _)) (pe_tup (pa_cons pe_non (pa_cons (pe_op op_addU (pv 1) pe_int) pa_nil))) (pe_callH (has__law_read_mark Z) (hr.mono (by decide)) (by rfl) pass0 (pa_cons (pv 0) (pa_cons (pe_op op_addU (pv 1) pe_int) pa_nil))))) (pss_cons (ps_set (i := 8) sc__law_read_deed.nd rfl (by first | exact Or.inl rfl | exact Or.inr rfl) (pe_ifExp (pt_cmpR op_isN1 (pv 7) pe_non (nomark _)) pe_non (pe_callH (has__law_read_number Z) (hr.mono (by decide)) (by rfl) pass0 (pa_cons (pv 0) (pa_cons (pe_ix ix_seq (pv 7) pe_int (fun _ _ => rfl)) pa_nil))))) (pss_cons (ps_set (i := 9) sc__law_read_deed.nd rfl (by first | exact Or.inl rfl | exact Or.inr rfl) (pe_ifExp (pt_cmpR op_isN1 (pv 8) pe_non (nomark _)) pe_non (pe_callH (has__law_read_text Z) (hr.mono (by decide)) (by rfl) pass0 (pa_cons (pv 0) (pa_cons (pe_ix ix_seq (pv 8) pe_int (fun _ _ => rfl)) pa_nil))))) (pss_one (ps_ret (pe_ifExp (pt_cmpR op_isN1 (pv 9) pe_non (nomark _)) pe_non (pe_tup (pa_cons (pe_tup (pa_cons pe_str (pa_cons (pe_ix ix_seq (pv 3) pe_int (fun _ _ => rfl)) (pa_cons (pe_callTy call_tupU (by rfl) Z.b_tuple (by decide +kernel) (pa_cons (pv 5) pa_nil)) (pa_cons (pe_ix ix_seq (pv 7) pe_int (fun _ _ => rfl)) (pa_cons (pe_ix ix_seq (pv 8) pe_int (fun _ _ => rfl)) (pa_cons (pe_ix ix_seq (pv 9) pe_int (fun _ _ => rfl)) pa_nil))))))) (pa_cons (pe_ix ix_seq (pv 9) pe_int (fun _ _ => rfl)) pa_nil)))))))))))))))))))
    ok__law_read_deed
theorem has__law_read_triples (Z : Facts K mg A) : Has P w K mg base CX0 4 "_law_read_triples" ["data", "at"] (up (S__law_read_triples K A)) :=
  Has.mk0 (t := t__law_read_triples K A) Z.f__law_read_triples sc__law_read_triples (fun _ _ _ _ _ _ us hl => match us, hl with | [_, _], _ => rfl) len__law_read_triples
    (fun f cdv A0 outer s H E hr => (pss_cons (ps_set (i := 2) sc__law_read_triples.nd rfl (by first | exact Or.inl rfl | exact Or.inr rfl) (pe_callH (has__law_read_number Z) (hr.mono (by decide)) (by rfl) pass0 (pa_cons (pv 0) (pa_cons (pv 1) pa_nil)))) (pss_cons (ps_if (PW.pt (pw_or (pt_cmpR op_isN1 (pv 2) pe_non (nomark _)) (pw_or1 (pt_cmpR op_gtU (pe_ix ix_seq (pv 2) pe_int (fun _ _ => rfl)) (pe_op op_subI (pe_callB call_lenU (by rfl) Z.b_len (by decide +kernel) (pa_cons (pv 0) pa_nil)) (pe_ix ix_seq (pv 2) pe_int (fun _ _ => rfl))) (nomark _))))) (pss_one (ps_ret pe_non)) pss_nil) (pss_cons (ps_set (i := 1) sc__law_read_triples.nd rfl (by first | exact Or.inl rfl | exact Or.inr rfl) (pe_ix ix_seq (pv 2) pe_int (fun _ _ => rfl))) (pss_cons (ps_set (i := 3) sc__law_read_triples.nd rfl (by first | exact Or.inl rfl | exact Or.inr rfl) (pe_lst pa_nil)) (pss_cons (ps_for PassesOwn.never rfl (pi_range1 (by rfl) Z.b_range (pa_cons (pe_ix ix_seq (pv 2) pe_int (fun _ _ => rfl)) pa_nil)) (pg_name (i := 4) sc__law_read_triples.nd rfl (by first | exact Or.inl rfl | exact Or.inr rfl)) (pss_cons (ps_set (i := 5) sc__law_read_triples.nd rfl (by first | exact Or.inl rfl | exact Or.inr rfl) (pe_callH (has__law_read_mark Z) (hr.mono (by decide)) (by rfl) pass0 (pa_cons (pv 0) (pa_cons (pv 1) pa_nil)))) (pss_cons (ps_set (i := 6) sc__law_read_triples.nd rfl (by first | exact Or.inl rfl | exact Or.inr rfl) (pe_ifExp (pt_cmpR op_isN1 (pv 5) pe_non (nomark _)) pe_non (pe_callH (has__law_read_deed Z) (hr.mono (by decide)) (by rfl) pass0 (pa_cons (pv 0) (pa_cons (pe_ix ix_seq (pv 5) pe_int (fun _ _ => rfl)) pa_nil))))) (pss_cons (ps_if (pt_cmpR op_isN1 (pv 6) pe_non (nomark _)) (pss_one (ps_ret pe_non)) pss_nil) (pss_cons (ps_expr (pe_bm PySem.F.plainAttrs_list PySem.F.slot_list_append PySem.F.type_list_append mt_append (pv 3) (pa_cons (pe_op op_addU (pe_ix ix_seq (pv 5) pe_int (fun _ _ => rfl)) (pe_tup (pa_cons (pe_ix ix_seq (pv 6) pe_int (fun _ _ => rfl)) pa_nil))) pa_nil))) (pss_one (ps_set (i := 1) sc__law_read_triples.nd rfl (by first | exact Or.inl rfl | exact Or.inr rfl) (pe_ix ix_seq (pv 6) pe_int (fun _ _ => rfl))))))))) (pss_one (ps_ret (pe_tup (pa_cons (pv 3) (pa_cons (pv 1) pa_nil)))))))))))
    ok__law_read_triples
theorem has__law_read_packet (Z : Facts K mg A) : Has P w K mg base CX0 5 "_law_read_packet" ["data", "at"] (up (S__law_read_packet K A)) :=
  Has.mk0 (t := t__law_read_packet K A) Z.f__law_read_packet sc__law_read_packet (fun _ _ _ _ _ _ us hl => match us, hl with | [_, _], _ => rfl) len__law_read_packet
    (fun f cdv A0 outer s H E hr => (pss_cons (ps_if (PW.pt (pw_or (pt_cmpR op_geU (pv 1) (pe_callB call_lenU (by rfl) Z.b_len (by decide +kernel) (pa_cons (pv 0) pa_nil)) (nomark _)) (pw_or1 (pt_cmpR (op_neU (rm64 hr)) (pe_ix ix_seq (pv 0) (pv 1) (fun _ _ => rfl)) pe_int (nomark _))))) (pss_one (ps_ret pe_non)) pss_nil) (pss_one (ps_ret (pe_callH (has__law_read_triples Z) (hr.mono (by decide)) (by rfl) pass0 (pa_cons (pv 0) (pa_cons (pe_op op_addU (pv 1) pe_int) pa_nil)))))))
    ok__law_read_packet
theorem has__law_drawn_number (Z : Facts K mg A) : Has P w K mg base CX0 2 "_law_drawn_number" ["state"] (up (S__law_drawn_number K A)) :=
  Has.mk0 (t := t__law_drawn_number K A) Z.f__law_drawn_number sc__law_drawn_number (fun _ _ _ _ _ _ us hl => match us, hl with | [_], _ => rfl) len__law_drawn_number
    (fun f cdv A0 outer s H E hr => (pss_one (ps_ret (pe_callH (has__law_next Z) (hr.mono (by decide)) (by rfl) pass0 (pa_cons (pv 0) (pa_cons (pe_ix ix_seq (pe_lst (pa_cons pe_int (pa_cons pe_int (pa_cons pe_int (pa_cons (pe_op op_powU pe_int pe_int) (pa_cons (pe_op op_mulU (pe_op op_powU pe_int pe_int) pe_int) pa_nil)))))) (pe_callH (has__law_next Z) (hr.mono (by decide)) (by rfl) pass0 (pa_cons (pv 0) (pa_cons pe_int pa_nil))) (fun _ _ => rfl)) pa_nil))))))
    ok__law_drawn_number
theorem has__law_drawn_text (Z : Facts K mg A) : Has P w K mg base CX0 2 "_law_drawn_text" ["state"] (up (S__law_drawn_text K A)) :=
  Has.mk0 (t := t__law_drawn_text K A) Z.f__law_drawn_text sc__law_drawn_text (fun _ _ _ _ _ _ us hl => match us, hl with | [_], _ => rfl) len__law_drawn_text
    (fun f cdv A0 outer s H E hr => (pss_cons (ps_set (i := 1) sc__law_drawn_text.nd rfl (by first | exact Or.inl rfl | exact Or.inr rfl) pe_str) (pss_one (ps_ret (pe_m1 PySem.F.slot_str_join PySem.F.type_str_join mt_joinU pe_str (pe_lc (own := [("k", 2)]) (g := (gName 2)) (by rfl) sc__law_drawn_text.nd (pi_range1 (by rfl) Z.b_range (pa_cons (pe_callH (has__law_next Z) (hr.mono (by decide)) (by rfl) pass0 (pa_cons (pv 0) (pa_cons (pe_ix ix_seq (pe_lst (pa_cons pe_int (pa_cons pe_int (pa_cons pe_int (pa_cons pe_int pa_nil))))) (pe_callH (has__law_next Z) (hr.mono (by decide)) (by rfl) pass0 (pa_cons (pv 0) (pa_cons pe_int pa_nil))) (fun _ _ => rfl)) pa_nil))) pa_nil)) (blkOk_by (own := [("k", 2)]) (N := ["state", "letters", "k"]) (sc := defScope s__law_drawn_text) (by decide +kernel)) (fun _ _ _ _ _ => (pg_name (i := 2) sc__law_drawn_text.nd rfl (by first | exact Or.inl rfl | exact Or.inr rfl))) (fun _ _ _ _ _ => pts_nil) (fun _ _ _ _ _ => (pe_ix ix_seq (pv 1) (pe_callH (has__law_next Z) (hr.mono (by decide)) (by rfl) pass0 (pa_cons (pv 0) (pa_cons (pe_callB call_lenU (by rfl) Z.b_len (by decide +kernel) (pa_cons (pv 1) pa_nil)) pa_nil))) (fun _ _ => rfl)))))))))
    ok__law_drawn_text
theorem has__law_drawn_deed (Z : Facts K mg A) : Has P w K mg base CX0 3 "_law_drawn_deed" ["state"] (up (S__law_drawn_deed K A)) :=
  Has.mk0 (t := t__law_drawn_deed K A) Z.f__law_drawn_deed sc__law_drawn_deed (fun _ _ _ _ _ _ us hl => match us, hl with | [_], _ => rfl) len__law_drawn_deed
    (fun f cdv A0 outer s H E hr => (pss_cons (ps_if (pt_cmpR (op_eqU (rm64 hr)) (pe_callH (has__law_next Z) (hr.mono (by decide)) (by rfl) pass0 (pa_cons (pv 0) (pa_cons pe_int pa_nil))) pe_int (nomark _)) (pss_one (ps_ret (pe_tup (pa_cons pe_str (pa_cons (pe_callH (has__law_drawn_number Z) (hr.mono (by decide)) (by rfl) pass0 (pa_cons (pv 0) pa_nil)) pa_nil))))) pss_nil) (pss_cons (ps_set (i := 1) sc__law_drawn_deed.nd rfl (by first | exact Or.inl rfl | exact Or.inr rfl) (pe_callTy call_tupU (by rfl) Z.b_tuple (by decide +kernel) (pa_cons (pe_lc (own := [("k", 3)]) (g := (gName 3)) (by rfl) sc__law_drawn_deed.nd (pi_range1 (by rfl) Z.b_range (pa_cons (pe_callH (has__law_next Z) (hr.mono (by decide)) (by rfl) pass0 (pa_cons (pv 0) (pa_cons pe_int pa_nil))) pa_nil)) (blkOk_by (own := [("k", 3)]) (N := ["state", "marks", "behind", "k"]) (sc := defScope s__law_drawn_deed) (by decide +kernel)) (fun _ _ _ _ _ => (pg_name (i := 3) sc__law_drawn_deed.nd rfl (by first | exact Or.inl rfl | exact Or.inr rfl))) (fun _ _ _ _ _ => pts_nil) (fun _ _ _ _ _ => (pe_tup (pa_cons (pe_callH (has__law_drawn_number Z) (hr.mono (by decide)) (by rfl) pass0 (pa_cons (pv 0) pa_nil)) (pa_cons (pe_callH (has__law_next Z) (hr.mono (by decide)) (by rfl) pass0 (pa_cons (pv 0) (pa_cons pe_int pa_nil))) pa_nil))))) pa_nil))) (pss_cons (ps_set (i := 2) sc__law_drawn_deed.nd rfl (by first | exact Or.inl rfl | exact Or.inr rfl) (pe_ix ix_seq (pe_lst (pa_cons pe_non (pa_cons (pe_tup (pa_cons (pe_callH (has__law_drawn_number Z) (hr.mono (by decide)) (by rfl) pass0 (pa_cons (pv 0) pa_nil)) (pa_cons (pe_callH (has__law_next Z) (hr.mono (by decide)) (by rfl) pass0 (pa_cons (pv 0) (pa_cons pe_int pa_nil))) pa_nil))) pa_nil))) (pe_callH (has__law_next Z) (hr.mono (by decide)) (by rfl) pass0 (pa_cons (pv 0) (pa_cons pe_int pa_nil))) (fun _ _ => rfl))) (pss_one (ps_ret (pe_tup (pa_cons pe_str (pa_cons (pe_callH (has__law_drawn_text Z) (hr.mono (by decide)) (by rfl) pass0 (pa_cons (pv 0) pa_nil)) (pa_cons (pv 1) (pa_cons (pv 2) (pa_cons (pe_callH (has__law_drawn_number Z) (hr.mono (by decide)) (by rfl) pass0 (pa_cons (pv 0) pa_nil)) (pa_cons (pe_callH (has__law_drawn_text Z) (hr.mono (by decide)) (by rfl) pass0 (pa_cons (pv 0) pa_nil)) pa_nil)))))))))))))
    ok__law_drawn_deed
theorem has__law_spoilt (Z : Facts K mg A) : Has P w K mg base CX0 2 "_law_spoilt" ["state", "data"] (up (S__law_spoilt K A)) :=
  Has.mk0 (t := t__law_spoilt K A) Z.f__law_spoilt sc__law_spoilt (fun _ _ _ _ _ _ us hl => match us, hl with | [_, _], _ => rfl) len__law_spoilt
    (fun f cdv A0 outer s H E hr => (pss_cons (ps_set (i := 2) sc__law_spoilt.nd rfl (by first | exact Or.inl rfl | exact Or.inr rfl) (pe_callH (has__law_next Z) (hr.mono (by decide)) (by rfl) pass0 (pa_cons (pv 0) (pa_cons (pe_op op_addU (pe_callB call_lenU (by rfl) Z.b_len (by decide +kernel) (pa_cons (pv 1) pa_nil)) pe_int) pa_nil)))) (pss_cons (ps_set (i := 3) sc__law_spoilt.nd rfl (by first | exact Or.inl rfl | exact Or.inr rfl) (pe_ix ix_seq (pe_lst (pa_cons pe_int (pa_cons pe_int (pa_cons pe_int (pa_cons pe_int (pa_cons pe_int (pa_cons pe_int (pa_cons pe_int pa_nil)))))))) (pe_callH (has__law_next Z) (hr.mono (by decide)) (by rfl) pass0 (pa_cons (pv 0) (pa_cons pe_int pa_nil))) (fun _ _ => rfl))) (pss_cons (ps_set (i := 4) sc__law_spoilt.nd rfl (by first | exact Or.inl rfl | exact Or.inr rfl) (pe_callH (has__law_next Z) (hr.mono (by decide)) (by rfl) pass0 (pa_cons (pv 0) (pa_cons pe_int pa_nil)))) (pss_cons (ps_if (pt_cmpR (op_eqU (rm64 hr)) (pv 4) pe_int (nomark _)) (pss_one (ps_ret (pe_slice sl_U (pv 1) po_none (po_some (pv 2))))) pss_nil) (pss_cons (ps_if (pt_cmpR (op_eqU (rm64 hr)) (pv 4) pe_int (nomark _)) (pss_one (ps_ret (pe_op op_addU (pe_slice sl_U (pv 1) po_none (po_some (pv 2))) (pe_slice sl_U (pv 1) (po_some (pe_op op_addU (pv 2) pe_int)) po_none)))) pss_nil) (pss_cons (ps_if (pt_cmpR (op_eqU (rm64 hr)) (pv 4) pe_int (nomark _)) (pss_one (ps_ret (pe_op op_addU (pe_op op_addU (pe_slice sl_U (pv 1) po_none (po_some (pv 2))) (pe_lst (pa_cons (pv 3) pa_nil))) (pe_slice sl_U (pv 1) (po_some (pv 2)) po_none)))) pss_nil) (pss_cons (ps_if (pt_cmpR (op_eqU (rm64 hr)) (pv 4) pe_int (nomark _)) (pss_one (ps_ret (pe_op op_addU (pe_op op_addU (pe_slice sl_U (pv 1) po_none (po_some (pv 2))) (pe_lst (pa_cons (pv 3) pa_nil))) (pe_slice sl_U (pv 1) (po_some (pe_op op_addU (pv 2) pe_int)) po_none)))) pss_nil) (pss_one (ps_ret (pe_lc (own := [("k", 5)]) (g := (gName 5)) (by rfl) sc__law_spoilt.nd (pi_range1 (by rfl) Z.b_range (pa_cons (pe_callH (has__law_next Z) (hr.mono (by decide)) (by rfl) pass0 (pa_cons (pv 0) (pa_cons pe_int pa_nil))) pa_nil)) (blkOk_by (own := [("k", 5)]) (N := ["state", "data", "place", "byte", "pick", "k"]) (sc := defScope s__law_spoilt) (by decide +kernel)) (fun _ _ _ _ _ => (pg_name (i := 5) sc__law_spoilt.nd rfl (by first | exact Or.inl rfl | exact Or.inr rfl))) (fun _ _ _ _ _ => pts_nil) (fun _ _ _ _ _ => (pe_callH (has__law_next Z) (hr.mono (by decide)) (by rfl) pass0 (pa_cons (pv 0) (pa_cons (pe_ix ix_seq (pe_lst (pa_cons pe_int (pa_cons pe_int pa_nil))) (pe_callH (has__law_next Z) (hr.mono (by decide)) (by rfl) pass0 (pa_cons (pv 0) (pa_cons pe_int pa_nil))) (fun _ _ => rfl)) pa_nil)))))))))))))))
    ok__law_spoilt
theorem has__law_told (Z : Facts K mg A) : Has P w K mg base CX0 9 "_law_told" ["kind", "data"] (up (S__law_told K A)) :=
  Has.mk0 (t := t__law_told K A) Z.f__law_told sc__law_told (fun _ _ _ _ _ _ us hl => match us, hl with | [_, _], _ => rfl) len__law_told
    (fun f cdv A0 outer s H E hr => (pss_cons (ps_set (i := 2) sc__law_told.nd rfl (by first | exact Or.inl rfl | exact Or.inr rfl) (pe_makeH (has_Reader_init Z) (hr.mono (by decide)) (by rfl) Z.g_Reader pass0 (pa_cons (pe_callTy call_listU (by rfl) Z.b_list (by decide +kernel) (pa_cons (pv 1) pa_nil)) pa_nil))) (pss_cons (ps_try_only (tb := (fun W => (tIfS (tTest (tOp (rEqU K) (tVar 0) (tC (.int 0)))) (tAsg (tMethW A.cReader "read_number" (up (S_Reader_read_number K A)) (WE W) (tVar 2)) (gName 3)) (tIfS (tTest (tOp (rEqU K) (tVar 0) (tC (.int 1)))) (tAsg (tMethW A.cReader "read_string" (up (S_Reader_read_string K A)) (WE W) (tVar 2)) (gName 3)) (tIfS (tTest (tOp (rEqU K) (tVar 0) (tC (.int 2)))) (tAsg (tMethW A.cReader "read_deed" (up (S_Reader_read_deed K A)) (WE W) (tVar 2)) (gName 3)) (tIfS (tTest (tOp (rEqU K) (tVar 0) (tC (.int 3)))) (tAsg (tMethW A.cReader "read_triples" (up (S_Reader_read_triples K A)) (WE W) (tVar 2)) (gName 3)) (tAsg (tMethW A.cReader "read_packet" (up (S_Reader_read_packet K A)) (WE W) (tVar 2)) (gName 3)))))))) (ts := fun _ _ _ => (tRet (tC .non))) (Wout := fun _ _ _ _ => False) rfl rfl ⟨rfl, by decide, Or.inl Z.g_DamagedPacket⟩ takes0 (fun W pn xe tk _ => (pss_one (ps_if (pt_cmpR (op_eqU (rm64 hr)) (pv 0) pe_int (nomark _)) (pss_one (ps_set (i := 3) sc__law_told.nd rfl (by first | exact Or.inl rfl | exact Or.inr rfl) (pe_methW0 (pv 2) Z.cf.cl (has_Reader_read_number Z) (hr.mono (by decide)) (fun σ => passAt tk σ)))) (pss_one (ps_if (pt_cmpR (op_eqU (rm64 hr)) (pv 0) pe_int (nomark _)) (pss_one (ps_set (i := 3) sc__law_told.nd rfl (by first | exact Or.inl rfl | exact Or.inr rfl) (pe_methW0 (pv 2) Z.cf.cl (has_Reader_read_string Z) (hr.mono (by decide)) (fun σ => passAt tk σ)))) (pss_one (ps_if (pt_cmpR (op_eqU (rm64 hr)) (pv 0) pe_int (nomark _)) (pss_one (ps_set (i := 3) sc__law_told.nd rfl (by first | exact Or.inl rfl | exact Or.inr rfl) (pe_methW0 (pv 2) Z.cf.cl (has_Reader_read_deed Z) (hr.mono (by decide)) (fun σ => passAt tk σ)))) (pss_one (ps_if (pt_cmpR (op_eqU (rm64 hr)) (pv 0) pe_int (nomark _)) (pss_one (ps_set (i := 3) sc__law_told.nd rfl (by first | exact Or.inl rfl | exact Or.inr rfl) (pe_methW0 (pv 2) Z.cf.cl (has_Reader_read_triples Z) (hr.mono (by decide)) (fun σ => passAt tk σ)))) (pss_one (ps_set (i := 3) sc__law_told.nd rfl (by first | exact Or.inl rfl | exact Or.inr rfl) (pe_methW0 (pv 2) Z.cf.cl (has_Reader_read_packet Z) (hr.mono (by decide)) (fun σ => passAt tk σ))))))))))))) (fun a oe cls d pn hz hf => (pss_one (ps_ret pe_non)))) (pss_cons (ps_set (i := 4) sc__law_told.nd rfl (by first | exact Or.inl rfl | exact Or.inr rfl) (pe_fld (pv 2) rfl)) (pss_cons (ps_try_only (tb := (fun W => (tSeq (tDrop (tMethW A.cReader "end" (up (S_Reader_end K A)) (WE W) (tVar 2))) (tAsg (tC (.bl true)) (gName 5))))) (ts := fun _ _ _ => (tAsg (tC (.bl false)) (gName 5))) (Wout := fun _ _ _ _ => False) rfl rfl ⟨rfl, by decide, Or.inl Z.g_DamagedPacket⟩ takes0 (fun W pn xe tk _ => (pss_cons (ps_expr (pe_methW0 (pv 2) Z.cf.cl (has_Reader_end Z) (hr.mono (by decide)) (fun σ => passAt tk σ))) (pss_one (ps_set (i := 5) sc__law_told.nd rfl (by first | exact Or.inl rfl | exact Or.inr rfl) pe_bl)))) (fun a oe cls d pn hz hf => (pss_one (ps_set (i := 5) sc__law_told.nd rfl (by first | exact Or.inl rfl | exact Or.inr rfl) pe_bl)))) (pss_one (ps_ret (pe_ifExp (pt_cmpR (op_eqU (rm64 hr)) (pv 5) (pe_cmpR (op_eqU (rm64 hr)) (pv 4) (pe_callB call_lenU (by rfl) Z.b_len (by decide +kernel) (pa_cons (pv 1) pa_nil)) (nomark _)) (nomark _)) (pe_tup (pa_cons (pv 3) (pa_cons (pv 4) pa_nil))) (pe_tup (pa_cons pe_str (pa_cons (pv 4) pa_nil)))))))))))
    (ok__law_told Z.cf)
theorem has__law_own (Z : Facts K mg A) : Has P w K mg base CX0 6 "_law_own" ["kind", "data"] (up (S__law_own K A)) :=
  Has.mk0 (t := t__law_own K A) Z.f__law_own sc__law_own (fun _ _ _ _ _ _ us hl => match us, hl with | [_, _], _ => rfl) len__law_own
    (fun f cdv A0 outer s H E hr => (pss_cons (ps_if (pt_cmpR (op_eqU (rm64 hr)) (pv 0) pe_int (nomark _)) (pss_one (ps_ret (pe_callH (has__law_read_number Z) (hr.mono (by decide)) (by rfl) pass0 (pa_cons (pv 1) (pa_cons pe_int pa_nil))))) pss_nil) (pss_cons (ps_if (pt_cmpR (op_eqU (rm64 hr)) (pv 0) pe_int (nomark _)) (pss_one (ps_ret (pe_callH (has__law_read_text Z) (hr.mono (by decide)) (by rfl) pass0 (pa_cons (pv 1) (pa_cons pe_int pa_nil))))) pss_nil) (pss_cons (ps_if (pt_cmpR (op_eqU (rm64 hr)) (pv 0) pe_int (nomark _)) (pss_one (ps_ret (pe_callH (has__law_read_deed Z) (hr.mono (by decide)) (by rfl) pass0 (pa_cons (pv 1) (pa_cons pe_int pa_nil))))) pss_nil) (pss_one (ps_ret (pe_ifExp (pt_cmpR (op_eqU (rm64 hr)) (pv 0) pe_int (nomark _)) (pe_callH (has__law_read_triples Z) (hr.mono (by decide)) (by rfl) pass0 (pa_cons (pv 1) (pa_cons pe_int pa_nil))) (pe_callH (has__law_read_packet Z) (hr.mono (by decide)) (by rfl) pass0 (pa_cons (pv 1) (pa_cons pe_int pa_nil))))))))))
    ok__law_own
theorem has__law_in_a_row (Z : Facts K mg A) : Has P w K mg base CX0 9 "_law_in_a_row" ["things", "written"] (up (S__law_in_a_row K A)) :=
  Has.mk0 (t := t__law_in_a_row K A) Z.f__law_in_a_row sc__law_in_a_row (fun _ _ _ _ _ _ us hl => match us, hl with | [_, _], _ => rfl) len__law_in_a_row
    (fun f cdv A0 outer s H E hr => (pss_cons (ps_set (i := 2) sc__law_in_a_row.nd rfl (by first | exact Or.inl rfl | exact Or.inr rfl) (pe_lst pa_nil)) (pss_cons (ps_for PassesOwn.never rfl (pi_list (pv 1)) (pg_name (i := 3) sc__law_in_a_row.nd rfl (by first | exact Or.inl rfl | exact Or.inr rfl)) (pss_one (ps_set (i := 2) sc__law_in_a_row.nd rfl (by first | exact Or.inl rfl | exact Or.inr rfl) (pe_op op_addU (pv 2) (pv 3))))) (pss_cons (ps_set (i := 4) sc__law_in_a_row.nd rfl (by first | exact Or.inl rfl | exact Or.inr rfl) (pe_makeH (has_Reader_init Z) (hr.mono (by decide)) (by rfl) Z.g_Reader pass0 (pa_cons (pv 2) pa_nil))) (pss_cons (ps_expr (pe_bm PySem.F.plainAttrs_list PySem.F.slot_list_append PySem.F.type_list_append mt_append (pv 2) (pa_cons pe_int pa_nil))) (pss_cons (ps_if (pt_cmpR (op_neU (rm64 hr)) (pe_fld (pv 4) rfl) pe_int (nomark _)) (pss_one (ps_ret pe_bl)) pss_nil) (pss_cons (ps_set (i := 5) sc__law_in_a_row.nd rfl (by first | exact Or.inl rfl | exact Or.inr rfl) (pe_lst (pa_cons (pe_methH0 (pv 4) Z.cf.cl (has_Reader_read_number Z) (hr.mono (by decide)) pass_none) (pa_cons (pe_methH0 (pv 4) Z.cf.cl (has_Reader_read_string Z) (hr.mono (by decide)) pass_none) (pa_cons (pe_methH0 (pv 4) Z.cf.cl (has_Reader_read_deed Z) (hr.mono (by decide)) pass_none) (pa_cons (pe_methH0 (pv 4) Z.cf.cl (has_Reader_read_triples Z) (hr.mono (by decide)) pass_none) (pa_cons (pe_methH0 (pv 4) Z.cf.cl (has_Reader_read_packet Z) (hr.mono (by decide)) pass_none) pa_nil))))))) (pss_cons (ps_expr (pe_methH0 (pv 4) Z.cf.cl (has_Reader_end Z) (hr.mono (by decide)) pass_none)) (pss_one (ps_ret (pe_callH (has__law_same Z) (hr.mono (by decide)) (by rfl) pass0 (pa_cons (pv 5) (pa_cons (pv 0) pa_nil)))))))))))))
    (ok__law_in_a_row Z.cf)
theorem has_law (Z : Facts K mg A) : Has P w K mg base CX0 10 "law" ["script"] (up (S_law K A)) :=
  Has.mk0 (t := t_law K A) Z.f_law sc_law (fun _ _ _ _ _ _ us hl => match us, hl with | [_], _ => rfl) len_law
    (fun f cdv A0 outer s H E hr => (pss_cons (ps_set (i := 1) sc_law.nd rfl (by first | exact Or.inl rfl | exact Or.inr rfl) (pe_lst (pa_cons (pe_callTy call_listU (by rfl) Z.b_list (by decide +kernel) (pa_cons (pv 0) pa_nil)) (pa_cons pe_int (pa_cons pe_int (pa_cons pe_int pa_nil)))))) (pss_cons (ps_for PassesOwn.never rfl (pi_range1 (by rfl) Z.b_range (pa_cons pe_int pa_nil)) (pg_name (i := 2) sc_law.nd rfl (by first | exact Or.inl rfl | exact Or.inr rfl)) (pss_cons (ps_set (i := 3) sc_law.nd rfl (by first | exact Or.inl rfl | exact Or.inr rfl) (pe_callH (has__law_drawn_number Z) (hr.mono (by decide)) (by rfl) pass0 (pa_cons (pv 1) pa_nil))) (pss_cons (ps_set (i := 4) sc_law.nd rfl (by first | exact Or.inl rfl | exact Or.inr rfl) (pe_callH (has__law_drawn_text Z) (hr.mono (by decide)) (by rfl) pass0 (pa_cons (pv 1) pa_nil))) (pss_cons (ps_set (i := 5) sc_law.nd rfl (by first | exact Or.inl rfl | exact Or.inr rfl) (pe_callH (has__law_drawn_deed Z) (hr.mono (by decide)) (by rfl) pass0 (pa_cons (pv 1) pa_nil))) (pss_cons (ps_setLc (i := 6) (own := [("j", 12)]) (g := (gName 12)) (by rfl) sc_law.nd rfl rfl (sw_true rfl rfl rfl (by decide +kernel)) (pi_range1 (by rfl) Z.b_range (pa_cons (pe_callH (has__law_next Z) (hr.mono (by decide)) (by rfl) pass0 (pa_cons (pv 1) (pa_cons pe_int pa_nil))) pa_nil)) (blkOk_by (own := [("j", 12)]) (N := ["script", "state", "k", "number", "text", "deed", "triples", "written", "own", "things", "long", "kind", "j", "data"]) (sc := defScope s_law) (by decide +kernel)) (fun _ _ _ _ _ => (pg_name (i := 12) sc_law.nd rfl (by first | exact Or.inl rfl | exact Or.inr rfl))) (fun _ _ _ _ _ => pts_nil) (fun _ _ _ _ _ => (pe_tup (pa_cons (pe_callH (has__law_next Z) (hr.mono (by decide)) (by rfl) pass0 (pa_cons (pv 1) (pa_cons pe_int pa_nil))) (pa_cons (pe_callH (has__law_drawn_number Z) (hr.mono (by decide)) (by rfl) pass0 (pa_cons (pv 1) pa_nil)) (pa_cons (pe_callH (has__law_drawn_deed Z) (hr.mono (by decide)) (by rfl) pass0 (pa_cons (pv 1) pa_nil)) pa_nil)))))) (pss_cons (ps_set (i := 7) sc_law.nd rfl (by first | exact Or.inl rfl | exact Or.inr rfl) (pe_lst (pa_cons (pe_callH (has_write_number Z) (hr.mono (by decide)) (by rfl) pass0 (pa_cons (pv 3) pa_nil)) (pa_cons (pe_callH (has_write_string Z) (hr.mono (by decide)) (by rfl) pass0 (pa_cons (pv 4) pa_nil)) (pa_cons (pe_callH (has_write_deed Z) (hr.mono (by decide)) (by rfl) pass0 (pa_cons (pv 5) pa_nil)) (pa_cons (pe_callH (has_write_triples Z) (hr.mono (by decide)) (by rfl) pass0 (pa_cons (pe_callTy call_listU (by rfl) Z.b_list (by decide +kernel) (pa_cons (pv 6) pa_nil)) pa_nil)) (pa_cons (pe_callH (has_write_packet Z) (hr.mono (by decide)) (by rfl) pass0 (pa_cons (pe_callTy call_listU (by rfl) Z.b_list (by decide +kernel) (pa_cons (pv 6) pa_nil)) pa_nil)) pa_nil))))))) (pss_cons (ps_set (i := 8) sc_law.nd rfl (by first | exact Or.inl rfl | exact Or.inr rfl) (pe_callH (has__law_triples Z) (hr.mono (by decide)) (by rfl) pass0 (pa_cons (pv 6) pa_nil))) (pss_cons (ps_if (pt_not (pt_tru (pe_callH (has__law_same Z) (hr.mono (by decide)) (by rfl) pass0 (pa_cons (pv 7) (pa_cons (pe_lst (pa_cons (pe_callH (has__law_number Z) (hr.mono (by decide)) (by rfl) pass0 (pa_cons (pv 3) pa_nil)) (pa_cons (pe_callH (has__law_text Z) (hr.mono (by decide)) (by rfl) pass0 (pa_cons (pv 4) pa_nil)) (pa_cons (pe_callH (has__law_deed Z) (hr.mono (by decide)) (by rfl) pass0 (pa_cons (pv 5) pa_nil)) (pa_cons (pv 8) (pa_cons (pe_op op_addU (pe_lst (pa_cons pe_int pa_nil)) (pv 8)) pa_nil)))))) pa_nil))))) (pss_one (ps_ret pe_bl)) pss_nil) (pss_cons (ps_set (i := 9) sc_law.nd rfl (by first | exact Or.inl rfl | exact Or.inr rfl) (pe_lst (pa_cons (pv 3) (pa_cons (pv 4) (pa_cons (pv 5) (pa_cons (pv 6) (pa_cons (pv 6) pa_nil))))))) (pss_cons (ps_if (pt_not (pt_tru (pe_callH (has__law_in_a_row Z) (hr.mono (by decide)) (by rfl) pass0 (pa_cons (pv 9) (pa_cons (pv 7) pa_nil))))) (pss_one (ps_ret pe_bl)) pss_nil) (pss_cons (ps_set (i := 10) sc_law.nd rfl (by first | exact Or.inl rfl | exact Or.inr rfl) (pe_op op_addU (pe_lc (own := [("j", 12)]) (g := (gName 12)) (by rfl) sc_law.nd (pi_range1 (by rfl) Z.b_range (pa_cons (pe_callH (has__law_next Z) (hr.mono (by decide)) (by rfl) pass0 (pa_cons (pv 1) (pa_cons pe_int pa_nil))) pa_nil)) (blkOk_by (own := [("j", 12)]) (N := ["script", "state", "k", "number", "text", "deed", "triples", "written", "own", "things", "long", "kind", "j", "data"]) (sc := defScope s_law) (by decide +kernel)) (fun _ _ _ _ _ => (pg_name (i := 12) sc_law.nd rfl (by first | exact Or.inl rfl | exact Or.inr rfl))) (fun _ _ _ _ _ => pts_nil) (fun _ _ _ _ _ => (pe_op op_addU pe_int (pe_callH (has__law_next Z) (hr.mono (by decide)) (by rfl) pass0 (pa_cons (pv 1) (pa_cons pe_int pa_nil)))))) (pe_lst (pa_cons (pe_callH (has__law_next Z) (hr.mono (by decide)) (by rfl) pass0 (pa_cons (pv 1) (pa_cons pe_int pa_nil))) pa_nil)))) (pss_cons (ps_if (pt_not (pt_tru (pe_callH (has__law_same Z) (hr.mono (by decide)) (by rfl) pass0 (pa_cons (pe_callH (has__law_told Z) (hr.mono (by decide)) (by rfl) pass0 (pa_cons pe_int (pa_cons (pv 10) pa_nil))) (pa_cons (pe_callH (has__law_own Z) (hr.mono (by decide)) (by rfl) pass0 (pa_cons pe_int (pa_cons (pv 10) pa_nil))) pa_nil))))) (pss_one (ps_ret pe_bl)) pss_nil) (pss_one (ps_for PassesOwn.never rfl (pi_range1 (by rfl) Z.b_range (pa_cons pe_int pa_nil)) (pg_name (i := 11) sc_law.nd rfl (by first | exact Or.inl rfl | exact Or.inr rfl)) (pss_cons (ps_if (pt_not (pt_tru (pe_callH (has__law_same Z) (hr.mono (by decide)) (by rfl) pass0 (pa_cons (pe_callH (has__law_told Z) (hr.mono (by decide)) (by rfl) pass0 (pa_cons (pv 11) (pa_cons (pe_ix ix_seq (pv 7) (pv 11) (fun _ _ => rfl)) pa_nil))) (pa_cons (pe_tup (pa_cons (pe_ix ix_seq (pv 9) (pv 11) (fun _ _ => rfl)) (pa_cons (pe_callB call_lenU (by rfl) Z.b_len (by decide +kernel) (pa_cons (pe_ix ix_seq (pv 7) (pv 11) (fun _ _ => rfl)) pa_nil)) pa_nil))) pa_nil))))) (pss_one (ps_ret pe_bl)) pss_nil) (pss_one (ps_for PassesOwn.never rfl (pi_range1 (by rfl) Z.b_range (pa_cons pe_int pa_nil)) (pg_name (i := 12) sc_law.nd rfl (by first | exact Or.inl rfl | exact Or.inr rfl)) (pss_cons (ps_set (i := 13) sc_law.nd rfl (by first | exact Or.inl rfl | exact Or.inr rfl) (pe_callH (has__law_spoilt Z) (hr.mono (by decide)) (by rfl) pass0 (pa_cons (pv 1) (pa_cons (pe_callTy call_listU (by rfl) Z.b_list (by decide +kernel) (pa_cons (pe_ix ix_seq (pv 7) (pv 11) (fun _ _ => rfl)) pa_nil)) pa_nil)))) (pss_one (ps_if (pt_not (pt_tru (pe_callH (has__law_same Z) (hr.mono (by decide)) (by rfl) pass0 (pa_cons (pe_callH (has__law_told Z) (hr.mono (by decide)) (by rfl) pass0 (pa_cons (pv 11) (pa_cons (pv 13) pa_nil))) (pa_cons (pe_callH (has__law_own Z) (hr.mono (by decide)) (by rfl) pass0 (pa_cons (pv 11) (pa_cons (pv 13) pa_nil))) pa_nil))))) (pss_one (ps_ret pe_bl)) pss_nil)))))))))))))))))))) (pss_one (ps_ret pe_bl)))))
    ok_law
end
def Ad0 : Ad := ⟨(0 : Nat), (0 : Nat)⟩
theorem law_sp {K : PySem.W.Frag} {A : Ad} {H : Hp} {a : Addr} {ns : List Int} (hl : ns.length ≤ 63) (hS : SqL K H a (ns.map V.int)) : up (S_law K A) [.ref a] H (fun v _ => v = .bl true) (fun _ _ _ => False) :=
  ⟨H, fun v _ => v = .bl true, fun _ _ _ => False, Ex.refl _, ⟨a, ns, rfl, hS, hl, fun _ => rfl⟩, fun _ _ _ _ q => q, fun _ _ _ _ _ z => z⟩
theorem all_mk {l : PySem.W.OpenLaw} {w : World} {K : PySem.W.Frag} {h : Heap} {mg : Str → Option Value} {fa : Addr} (X : K.In h) (G : h.Ns mainGlobals mg) (hfa : mg "law" = some (.ref fa))
    {C_Reader C_DamagedPacket : Addr}
    {f0 : Addr} {od0 an0 : Option Addr} {sl0 : Array (Option Value)} {oc0 kV0 dc0 pm0 cd0 ct0 : Value}
    {f1 : Addr} {od1 an1 : Option Addr} {sl1 : Array (Option Value)} {oc1 kV1 dc1 pm1 cd1 ct1 : Value}
    {f2 : Addr} {od2 an2 : Option Addr} {sl2 : Array (Option Value)} {oc2 kV2 dc2 pm2 cd2 ct2 : Value}
    {f3 : Addr} {od3 an3 : Option Addr} {sl3 : Array (Option Value)} {oc3 kV3 dc3 pm3 cd3 ct3 : Value}
    {f4 : Addr} {od4 an4 : Option Addr} {sl4 : Array (Option Value)} {oc4 kV4 dc4 pm4 cd4 ct4 : Value}
    {f5 : Addr} {od5 an5 : Option Addr} {sl5 : Array (Option Value)} {oc5 kV5 dc5 pm5 cd5 ct5 : Value}
    {f6 : Addr} {od6 an6 : Option Addr} {sl6 : Array (Option Value)} {oc6 kV6 dc6 pm6 cd6 ct6 : Value}
    {f7 : Addr} {od7 an7 : Option Addr} {sl7 : Array (Option Value)} {oc7 kV7 dc7 pm7 cd7 ct7 : Value}
    {f8 : Addr} {od8 an8 : Option Addr} {sl8 : Array (Option Value)} {oc8 kV8 dc8 pm8 cd8 ct8 : Value}
    {f9 : Addr} {od9 an9 : Option Addr} {sl9 : Array (Option Value)} {oc9 kV9 dc9 pm9 cd9 ct9 : Value}
    {f10 : Addr} {od10 an10 : Option Addr} {sl10 : Array (Option Value)} {oc10 kV10 dc10 pm10 cd10 ct10 : Value}
    {f11 : Addr} {od11 an11 : Option Addr} {sl11 : Array (Option Value)} {oc11 kV11 dc11 pm11 cd11 ct11 : Value}
    {f12 : Addr} {od12 an12 : Option Addr} {sl12 : Array (Option Value)} {oc12 kV12 dc12 pm12 cd12 ct12 : Value}
    {f13 : Addr} {od13 an13 : Option Addr} {sl13 : Array (Option Value)} {oc13 kV13 dc13 pm13 cd13 ct13 : Value}
    {f14 : Addr} {od14 an14 : Option Addr} {sl14 : Array (Option Value)} {oc14 kV14 dc14 pm14 cd14 ct14 : Value}
    {f15 : Addr} {od15 an15 : Option Addr} {sl15 : Array (Option Value)} {oc15 kV15 dc15 pm15 cd15 ct15 : Value}
    {f16 : Addr} {od16 an16 : Option Addr} {sl16 : Array (Option Value)} {oc16 kV16 dc16 pm16 cd16 ct16 : Value}
    {f17 : Addr} {od17 an17 : Option Addr} {sl17 : Array (Option Value)} {oc17 kV17 dc17 pm17 cd17 ct17 : Value}
    {f18 : Addr} {od18 an18 : Option Addr} {sl18 : Array (Option Value)} {oc18 kV18 dc18 pm18 cd18 ct18 : Value}
    {f19 : Addr} {od19 an19 : Option Addr} {sl19 : Array (Option Value)} {oc19 kV19 dc19 pm19 cd19 ct19 : Value}
    {f20 : Addr} {od20 an20 : Option Addr} {sl20 : Array (Option Value)} {oc20 kV20 dc20 pm20 cd20 ct20 : Value}
    {f21 : Addr} {od21 an21 : Option Addr} {sl21 : Array (Option Value)} {oc21 kV21 dc21 pm21 cd21 ct21 : Value}
    {f22 : Addr} {od22 an22 : Option Addr} {sl22 : Array (Option Value)} {oc22 kV22 dc22 pm22 cd22 ct22 : Value}
    {f23 : Addr} {od23 an23 : Option Addr} {sl23 : Array (Option Value)} {oc23 kV23 dc23 pm23 cd23 ct23 : Value}
    {f24 : Addr} {od24 an24 : Option Addr} {sl24 : Array (Option Value)} {oc24 kV24 dc24 pm24 cd24 ct24 : Value}
    {f25 : Addr} {od25 an25 : Option Addr} {sl25 : Array (Option Value)} {oc25 kV25 dc25 pm25 cd25 ct25 : Value}
    {f26 : Addr} {od26 an26 : Option Addr} {sl26 : Array (Option Value)} {oc26 kV26 dc26 pm26 cd26 ct26 : Value}
    {f27 : Addr} {od27 an27 : Option Addr} {sl27 : Array (Option Value)} {oc27 kV27 dc27 pm27 cd27 ct27 : Value}
    {f28 : Addr} {od28 an28 : Option Addr} {sl28 : Array (Option Value)} {oc28 kV28 dc28 pm28 cd28 ct28 : Value}
    {f29 : Addr} {od29 an29 : Option Addr} {sl29 : Array (Option Value)} {oc29 kV29 dc29 pm29 cd29 ct29 : Value}
    {f30 : Addr} {od30 an30 : Option Addr} {sl30 : Array (Option Value)} {oc30 kV30 dc30 pm30 cd30 ct30 : Value}
    {f31 : Addr} {od31 an31 : Option Addr} {sl31 : Array (Option Value)} {oc31 kV31 dc31 pm31 cd31 ct31 : Value}
    {f32 : Addr} {od32 an32 : Option Addr} {sl32 : Array (Option Value)} {oc32 kV32 dc32 pm32 cd32 ct32 : Value}
    {f33 : Addr} {od33 an33 : Option Addr} {sl33 : Array (Option Value)} {oc33 kV33 dc33 pm33 cd33 ct33 : Value}
    {f34 : Addr} {od34 an34 : Option Addr} {sl34 : Array (Option Value)} {oc34 kV34 dc34 pm34 cd34 ct34 : Value}
    {f35 : Addr} {od35 an35 : Option Addr} {sl35 : Array (Option Value)} {oc35 kV35 dc35 pm35 cd35 ct35 : Value}
    {f36 : Addr} {od36 an36 : Option Addr} {sl36 : Array (Option Value)} {oc36 kV36 dc36 pm36 cd36 ct36 : Value}
    {f37 : Addr} {od37 an37 : Option Addr} {sl37 : Array (Option Value)} {oc37 kV37 dc37 pm37 cd37 ct37 : Value}
    {f38 : Addr} {od38 an38 : Option Addr} {sl38 : Array (Option Value)} {oc38 kV38 dc38 pm38 cd38 ct38 : Value}
    {f39 : Addr} {od39 an39 : Option Addr} {sl39 : Array (Option Value)} {oc39 kV39 dc39 pm39 cd39 ct39 : Value}
    {f40 : Addr} {od40 an40 : Option Addr} {sl40 : Array (Option Value)} {oc40 kV40 dc40 pm40 cd40 ct40 : Value}
    {f41 : Addr} {od41 an41 : Option Addr} {sl41 : Array (Option Value)} {oc41 kV41 dc41 pm41 cd41 ct41 : Value}
    {ck_AFTER_PERCENT : Tok}
    {ck_BEFORE_PERCENT : Tok}
    {ck_NUMBER_BYTES : Tok}
    (gC_Reader : PySem.W.nsIn K mainGlobals "Reader" = some (some (.ref C_Reader)))
    (pg_Reader : PySem.W.plainGet K C_Reader Str.empty = true)
    (hd_Reader : PySem.W.hasDictIn K C_Reader = true)
    (po_Reader : PySem.W.plainOver K C_Reader = true)
    (sa_Reader : PySem.W.findIn K (.ref C_Reader) "__setattr__" = some (some (.builtin "object.__setattr__")))
    (mk_Reader : PySem.W.makesIn K C_Reader = true)
    (kc_Reader : PySem.W.keepIn K (.ref C_Reader) = true)
    (n0_Reader : PySem.W.findIn K (.ref C_Reader) "data" = some none)
    (n1_Reader : PySem.W.findIn K (.ref C_Reader) "at" = some none)
    (gC_DamagedPacket : PySem.W.nsIn K mainGlobals "DamagedPacket" = some (some (.ref C_DamagedPacket)))
    (xq_DamagedPacket : PySem.W.excIn K C_DamagedPacket [.type "ValueError", .type "Exception", .type "BaseException", .type "object"] "ValueError.__new__" = true)
    (xk_DamagedPacket : PySem.W.keepIn K (.ref C_DamagedPacket) = true)
    (xb_DamagedPacket : PySem.W.subIn K (.ref C_DamagedPacket) (.type "BaseException") = some true)
    (xt_DamagedPacket : PySem.W.typeIn K (.ref C_DamagedPacket) = some (.type "type"))
    (xc_DamagedPacket : PySem.W.isClsIn K C_DamagedPacket = true)
    (xs_DamagedPacket : PySem.W.subIn K (.ref C_DamagedPacket) (.ref C_DamagedPacket) = some true)
    (a0 : PySem.W.findIn K (.ref C_Reader) "__init__" = some (some (.ref f0)))
    (i0 : PySem.W.isFn K (.ref f0) = true)
    (l0 : K.lookup f0 = some ⟨oc0, od0, .func (PySem.W.fnOf "__init__" "Reader.__init__" (defArgs s_Reader_init) (defBody s_Reader_init) (defScope s_Reader_init) .none kV0 dc0 pm0 an0 cd0 ct0), sl0⟩)
    (c0 : PySem.W.codeIn K cd0 "Reader.__init__" = true)
    (k0 : PySem.W.keepIn K (.ref f0) = true)
    (a1 : PySem.W.findIn K (.ref C_Reader) "read_byte" = some (some (.ref f1)))
    (i1 : PySem.W.isFn K (.ref f1) = true)
    (l1 : K.lookup f1 = some ⟨oc1, od1, .func (PySem.W.fnOf "read_byte" "Reader.read_byte" (defArgs s_Reader_read_byte) (defBody s_Reader_read_byte) (defScope s_Reader_read_byte) .none kV1 dc1 pm1 an1 cd1 ct1), sl1⟩)
    (c1 : PySem.W.codeIn K cd1 "Reader.read_byte" = true)
    (k1 : PySem.W.keepIn K (.ref f1) = true)
    (a2 : PySem.W.findIn K (.ref C_Reader) "read_choice" = some (some (.ref f2)))
    (i2 : PySem.W.isFn K (.ref f2) = true)
    (l2 : K.lookup f2 = some ⟨oc2, od2, .func (PySem.W.fnOf "read_choice" "Reader.read_choice" (defArgs s_Reader_read_choice) (defBody s_Reader_read_choice) (defScope s_Reader_read_choice) .none kV2 dc2 pm2 an2 cd2 ct2), sl2⟩)
    (c2 : PySem.W.codeIn K cd2 "Reader.read_choice" = true)
    (k2 : PySem.W.keepIn K (.ref f2) = true)
    (a3 : PySem.W.findIn K (.ref C_Reader) "end" = some (some (.ref f3)))
    (i3 : PySem.W.isFn K (.ref f3) = true)
    (l3 : K.lookup f3 = some ⟨oc3, od3, .func (PySem.W.fnOf "end" "Reader.end" (defArgs s_Reader_end) (defBody s_Reader_end) (defScope s_Reader_end) .none kV3 dc3 pm3 an3 cd3 ct3), sl3⟩)
    (c3 : PySem.W.codeIn K cd3 "Reader.end" = true)
    (k3 : PySem.W.keepIn K (.ref f3) = true)
    (a4 : PySem.W.findIn K (.ref C_Reader) "read_number" = some (some (.ref f4)))
    (i4 : PySem.W.isFn K (.ref f4) = true)
    (l4 : K.lookup f4 = some ⟨oc4, od4, .func (PySem.W.fnOf "read_number" "Reader.read_number" (defArgs s_Reader_read_number) (defBody s_Reader_read_number) (defScope s_Reader_read_number) .none kV4 dc4 pm4 an4 cd4 ct4), sl4⟩)
    (c4 : PySem.W.codeIn K cd4 "Reader.read_number" = true)
    (k4 : PySem.W.keepIn K (.ref f4) = true)
    (a5 : PySem.W.findIn K (.ref C_Reader) "read_count" = some (some (.ref f5)))
    (i5 : PySem.W.isFn K (.ref f5) = true)
    (l5 : K.lookup f5 = some ⟨oc5, od5, .func (PySem.W.fnOf "read_count" "Reader.read_count" (defArgs s_Reader_read_count) (defBody s_Reader_read_count) (defScope s_Reader_read_count) .none kV5 dc5 pm5 an5 cd5 ct5), sl5⟩)
    (c5 : PySem.W.codeIn K cd5 "Reader.read_count" = true)
    (k5 : PySem.W.keepIn K (.ref f5) = true)
    (a6 : PySem.W.findIn K (.ref C_Reader) "read_character" = some (some (.ref f6)))
    (i6 : PySem.W.isFn K (.ref f6) = true)
    (l6 : K.lookup f6 = some ⟨oc6, od6, .func (PySem.W.fnOf "read_character" "Reader.read_character" (defArgs s_Reader_read_character) (defBody s_Reader_read_character) (defScope s_Reader_read_character) .none kV6 dc6 pm6 an6 cd6 ct6), sl6⟩)
    (c6 : PySem.W.codeIn K cd6 "Reader.read_character" = true)
    (k6 : PySem.W.keepIn K (.ref f6) = true)
    (a7 : PySem.W.findIn K (.ref C_Reader) "read_string" = some (some (.ref f7)))
    (i7 : PySem.W.isFn K (.ref f7) = true)
    (l7 : K.lookup f7 = some ⟨oc7, od7, .func (PySem.W.fnOf "read_string" "Reader.read_string" (defArgs s_Reader_read_string) (defBody s_Reader_read_string) (defScope s_Reader_read_string) .none kV7 dc7 pm7 an7 cd7 ct7), sl7⟩)
    (c7 : PySem.W.codeIn K cd7 "Reader.read_string" = true)
    (k7 : PySem.W.keepIn K (.ref f7) = true)
    (a8 : PySem.W.findIn K (.ref C_Reader) "read_mark" = some (some (.ref f8)))
    (i8 : PySem.W.isFn K (.ref f8) = true)
    (l8 : K.lookup f8 = some ⟨oc8, od8, .func (PySem.W.fnOf "read_mark" "Reader.read_mark" (defArgs s_Reader_read_mark) (defBody s_Reader_read_mark) (defScope s_Reader_read_mark) .none kV8 dc8 pm8 an8 cd8 ct8), sl8⟩)
    (c8 : PySem.W.codeIn K cd8 "Reader.read_mark" = true)
    (k8 : PySem.W.keepIn K (.ref f8) = true)
    (a9 : PySem.W.findIn K (.ref C_Reader) "read_deed" = some (some (.ref f9)))
    (i9 : PySem.W.isFn K (.ref f9) = true)
    (l9 : K.lookup f9 = some ⟨oc9, od9, .func (PySem.W.fnOf "read_deed" "Reader.read_deed" (defArgs s_Reader_read_deed) (defBody s_Reader_read_deed) (defScope s_Reader_read_deed) .none kV9 dc9 pm9 an9 cd9 ct9), sl9⟩)
    (c9 : PySem.W.codeIn K cd9 "Reader.read_deed" = true)
    (k9 : PySem.W.keepIn K (.ref f9) = true)
    (a10 : PySem.W.findIn K (.ref C_Reader) "read_triple" = some (some (.ref f10)))
    (i10 : PySem.W.isFn K (.ref f10) = true)
    (l10 : K.lookup f10 = some ⟨oc10, od10, .func (PySem.W.fnOf "read_triple" "Reader.read_triple" (defArgs s_Reader_read_triple) (defBody s_Reader_read_triple) (defScope s_Reader_read_triple) .none kV10 dc10 pm10 an10 cd10 ct10), sl10⟩)
    (c10 : PySem.W.codeIn K cd10 "Reader.read_triple" = true)
    (k10 : PySem.W.keepIn K (.ref f10) = true)
    (a11 : PySem.W.findIn K (.ref C_Reader) "read_triples" = some (some (.ref f11)))
    (i11 : PySem.W.isFn K (.ref f11) = true)
    (l11 : K.lookup f11 = some ⟨oc11, od11, .func (PySem.W.fnOf "read_triples" "Reader.read_triples" (defArgs s_Reader_read_triples) (defBody s_Reader_read_triples) (defScope s_Reader_read_triples) .none kV11 dc11 pm11 an11 cd11 ct11), sl11⟩)
    (c11 : PySem.W.codeIn K cd11 "Reader.read_triples" = true)
    (k11 : PySem.W.keepIn K (.ref f11) = true)
    (a12 : PySem.W.findIn K (.ref C_Reader) "read_packet" = some (some (.ref f12)))
    (i12 : PySem.W.isFn K (.ref f12) = true)
    (l12 : K.lookup f12 = some ⟨oc12, od12, .func (PySem.W.fnOf "read_packet" "Reader.read_packet" (defArgs s_Reader_read_packet) (defBody s_Reader_read_packet) (defScope s_Reader_read_packet) .none kV12 dc12 pm12 an12 cd12 ct12), sl12⟩)
    (c12 : PySem.W.codeIn K cd12 "Reader.read_packet" = true)
    (k12 : PySem.W.keepIn K (.ref f12) = true)
    (a13 : PySem.W.nsIn K mainGlobals "write_number" = some (some (.ref f13)))
    (l13 : K.lookup f13 = some ⟨oc13, od13, .func (PySem.W.fnOf "write_number" "write_number" (defArgs s_write_number) (defBody s_write_number) (defScope s_write_number) .none kV13 dc13 pm13 an13 cd13 ct13), sl13⟩)
    (c13 : PySem.W.codeIn K cd13 "write_number" = true)
    (k13 : PySem.W.keepIn K (.ref f13) = true)
    (a14 : PySem.W.nsIn K mainGlobals "write_list" = some (some (.ref f14)))
    (l14 : K.lookup f14 = some ⟨oc14, od14, .func (PySem.W.fnOf "write_list" "write_list" (defArgs s_write_list) (defBody s_write_list) (defScope s_write_list) .none kV14 dc14 pm14 an14 cd14 ct14), sl14⟩)
    (c14 : PySem.W.codeIn K cd14 "write_list" = true)
    (k14 : PySem.W.keepIn K (.ref f14) = true)
    (a15 : PySem.W.nsIn K mainGlobals "write_string" = some (some (.ref f15)))
    (l15 : K.lookup f15 = some ⟨oc15, od15, .func (PySem.W.fnOf "write_string" "write_string" (defArgs s_write_string) (defBody s_write_string) (defScope s_write_string) .none kV15 dc15 pm15 an15 cd15 ct15), sl15⟩)
    (c15 : PySem.W.codeIn K cd15 "write_string" = true)
    (k15 : PySem.W.keepIn K (.ref f15) = true)
    (a16 : PySem.W.nsIn K mainGlobals "write_mark" = some (some (.ref f16)))
    (l16 : K.lookup f16 = some ⟨oc16, od16, .func (PySem.W.fnOf "write_mark" "write_mark" (defArgs s_write_mark) (defBody s_write_mark) (defScope s_write_mark) .none kV16 dc16 pm16 an16 cd16 ct16), sl16⟩)
    (c16 : PySem.W.codeIn K cd16 "write_mark" = true)
    (k16 : PySem.W.keepIn K (.ref f16) = true)
    (a17 : PySem.W.nsIn K mainGlobals "write_deed" = some (some (.ref f17)))
    (l17 : K.lookup f17 = some ⟨oc17, od17, .func (PySem.W.fnOf "write_deed" "write_deed" (defArgs s_write_deed) (defBody s_write_deed) (defScope s_write_deed) .none kV17 dc17 pm17 an17 cd17 ct17), sl17⟩)
    (c17 : PySem.W.codeIn K cd17 "write_deed" = true)
    (k17 : PySem.W.keepIn K (.ref f17) = true)
    (a18 : PySem.W.nsIn K mainGlobals "write_triples" = some (some (.ref f18)))
    (l18 : K.lookup f18 = some ⟨oc18, od18, .func (PySem.W.fnOf "write_triples" "write_triples" (defArgs s_write_triples) (defBody s_write_triples) (defScope s_write_triples) .none kV18 dc18 pm18 an18 cd18 ct18), sl18⟩)
    (c18 : PySem.W.codeIn K cd18 "write_triples" = true)
    (k18 : PySem.W.keepIn K (.ref f18) = true)
    (a19 : PySem.W.nsIn K mainGlobals "write_packet" = some (some (.ref f19)))
    (l19 : K.lookup f19 = some ⟨oc19, od19, .func (PySem.W.fnOf "write_packet" "write_packet" (defArgs s_write_packet) (defBody s_write_packet) (defScope s_write_packet) .none kV19 dc19 pm19 an19 cd19 ct19), sl19⟩)
    (c19 : PySem.W.codeIn K cd19 "write_packet" = true)
    (k19 : PySem.W.keepIn K (.ref f19) = true)
    (a20 : PySem.W.nsIn K mainGlobals "_law_next" = some (some (.ref f20)))
    (l20 : K.lookup f20 = some ⟨oc20, od20, .func (PySem.W.fnOf "_law_next" "_law_next" (defArgs s__law_next) (defBody s__law_next) (defScope s__law_next) .none kV20 dc20 pm20 an20 cd20 ct20), sl20⟩)
    (c20 : PySem.W.codeIn K cd20 "_law_next" = true)
    (k20 : PySem.W.keepIn K (.ref f20) = true)
    (a21 : PySem.W.nsIn K mainGlobals "_law_same" = some (some (.ref f21)))
    (l21 : K.lookup f21 = some ⟨oc21, od21, .func (PySem.W.fnOf "_law_same" "_law_same" (defArgs s__law_same) (defBody s__law_same) (defScope s__law_same) .none kV21 dc21 pm21 an21 cd21 ct21), sl21⟩)
    (c21 : PySem.W.codeIn K cd21 "_law_same" = true)
    (k21 : PySem.W.keepIn K (.ref f21) = true)
    (a22 : PySem.W.nsIn K mainGlobals "_law_number" = some (some (.ref f22)))
    (l22 : K.lookup f22 = some ⟨oc22, od22, .func (PySem.W.fnOf "_law_number" "_law_number" (defArgs s__law_number) (defBody s__law_number) (defScope s__law_number) .none kV22 dc22 pm22 an22 cd22 ct22), sl22⟩)
    (c22 : PySem.W.codeIn K cd22 "_law_number" = true)
    (k22 : PySem.W.keepIn K (.ref f22) = true)
    (a23 : PySem.W.nsIn K mainGlobals "_law_text" = some (some (.ref f23)))
    (l23 : K.lookup f23 = some ⟨oc23, od23, .func (PySem.W.fnOf "_law_text" "_law_text" (defArgs s__law_text) (defBody s__law_text) (defScope s__law_text) .none kV23 dc23 pm23 an23 cd23 ct23), sl23⟩)
    (c23 : PySem.W.codeIn K cd23 "_law_text" = true)
    (k23 : PySem.W.keepIn K (.ref f23) = true)
    (a24 : PySem.W.nsIn K mainGlobals "_law_mark" = some (some (.ref f24)))
    (l24 : K.lookup f24 = some ⟨oc24, od24, .func (PySem.W.fnOf "_law_mark" "_law_mark" (defArgs s__law_mark) (defBody s__law_mark) (defScope s__law_mark) .none kV24 dc24 pm24 an24 cd24 ct24), sl24⟩)
    (c24 : PySem.W.codeIn K cd24 "_law_mark" = true)
    (k24 : PySem.W.keepIn K (.ref f24) = true)
    (a25 : PySem.W.nsIn K mainGlobals "_law_deed" = some (some (.ref f25)))
    (l25 : K.lookup f25 = some ⟨oc25, od25, .func (PySem.W.fnOf "_law_deed" "_law_deed" (defArgs s__law_deed) (defBody s__law_deed) (defScope s__law_deed) .none kV25 dc25 pm25 an25 cd25 ct25), sl25⟩)
    (c25 : PySem.W.codeIn K cd25 "_law_deed" = true)
    (k25 : PySem.W.keepIn K (.ref f25) = true)
    (a26 : PySem.W.nsIn K mainGlobals "_law_triples" = some (some (.ref f26)))
    (l26 : K.lookup f26 = some ⟨oc26, od26, .func (PySem.W.fnOf "_law_triples" "_law_triples" (defArgs s__law_triples) (defBody s__law_triples) (defScope s__law_triples) .none kV26 dc26 pm26 an26 cd26 ct26), sl26⟩)
    (c26 : PySem.W.codeIn K cd26 "_law_triples" = true)
    (k26 : PySem.W.keepIn K (.ref f26) = true)
    (a27 : PySem.W.nsIn K mainGlobals "_law_read_number" = some (some (.ref f27)))
    (l27 : K.lookup f27 = some ⟨oc27, od27, .func (PySem.W.fnOf "_law_read_number" "_law_read_number" (defArgs s__law_read_number) (defBody s__law_read_number) (defScope s__law_read_number) .none kV27 dc27 pm27 an27 cd27 ct27), sl27⟩)
    (c27 : PySem.W.codeIn K cd27 "_law_read_number" = true)
    (k27 : PySem.W.keepIn K (.ref f27) = true)
    (a28 : PySem.W.nsIn K mainGlobals "_law_sign" = some (some (.ref f28)))
    (l28 : K.lookup f28 = some ⟨oc28, od28, .func (PySem.W.fnOf "_law_sign" "_law_sign" (defArgs s__law_sign) (defBody s__law_sign) (defScope s__law_sign) .none kV28 dc28 pm28 an28 cd28 ct28), sl28⟩)
    (c28 : PySem.W.codeIn K cd28 "_law_sign" = true)
    (k28 : PySem.W.keepIn K (.ref f28) = true)
    (a29 : PySem.W.nsIn K mainGlobals "_law_read_text" = some (some (.ref f29)))
    (l29 : K.lookup f29 = some ⟨oc29, od29, .func (PySem.W.fnOf "_law_read_text" "_law_read_text" (defArgs s__law_read_text) (defBody s__law_read_text) (defScope s__law_read_text) .none kV29 dc29 pm29 an29 cd29 ct29), sl29⟩)
    (c29 : PySem.W.codeIn K cd29 "_law_read_text" = true)
    (k29 : PySem.W.keepIn K (.ref f29) = true)
    (a30 : PySem.W.nsIn K mainGlobals "_law_read_mark" = some (some (.ref f30)))
    (l30 : K.lookup f30 = some ⟨oc30, od30, .func (PySem.W.fnOf "_law_read_mark" "_law_read_mark" (defArgs s__law_read_mark) (defBody s__law_read_mark) (defScope s__law_read_mark) .none kV30 dc30 pm30 an30 cd30 ct30), sl30⟩)
    (c30 : PySem.W.codeIn K cd30 "_law_read_mark" = true)
    (k30 : PySem.W.keepIn K (.ref f30) = true)
    (a31 : PySem.W.nsIn K mainGlobals "_law_read_deed" = some (some (.ref f31)))
    (l31 : K.lookup f31 = some ⟨oc31, od31, .func (PySem.W.fnOf "_law_read_deed" "_law_read_deed" (defArgs s__law_read_deed) (defBody s__law_read_deed) (defScope s__law_read_deed) .none kV31 dc31 pm31 an31 cd31 ct31), sl31⟩)
    (c31 : PySem.W.codeIn K cd31 "_law_read_deed" = true)
    (k31 : PySem.W.keepIn K (.ref f31) = true)
    (a32 : PySem.W.nsIn K mainGlobals "_law_read_triples" = some (some (.ref f32)))
    (l32 : K.lookup f32 = some ⟨oc32, od32, .func (PySem.W.fnOf "_law_read_triples" "_law_read_triples" (defArgs s__law_read_triples) (defBody s__law_read_triples) (defScope s__law_read_triples) .none kV32 dc32 pm32 an32 cd32 ct32), sl32⟩)
    (c32 : PySem.W.codeIn K cd32 "_law_read_triples" = true)
    (k32 : PySem.W.keepIn K (.ref f32) = true)
    (a33 : PySem.W.nsIn K mainGlobals "_law_read_packet" = some (some (.ref f33)))
    (l33 : K.lookup f33 = some ⟨oc33, od33, .func (PySem.W.fnOf "_law_read_packet" "_law_read_packet" (defArgs s__law_read_packet) (defBody s__law_read_packet) (defScope s__law_read_packet) .none kV33 dc33 pm33 an33 cd33 ct33), sl33⟩)
    (c33 : PySem.W.codeIn K cd33 "_law_read_packet" = true)
    (k33 : PySem.W.keepIn K (.ref f33) = true)
    (a34 : PySem.W.nsIn K mainGlobals "_law_drawn_number" = some (some (.ref f34)))
    (l34 : K.lookup f34 = some ⟨oc34, od34, .func (PySem.W.fnOf "_law_drawn_number" "_law_drawn_number" (defArgs s__law_drawn_number) (defBody s__law_drawn_number) (defScope s__law_drawn_number) .none kV34 dc34 pm34 an34 cd34 ct34), sl34⟩)
    (c34 : PySem.W.codeIn K cd34 "_law_drawn_number" = true)
    (k34 : PySem.W.keepIn K (.ref f34) = true)
    (a35 : PySem.W.nsIn K mainGlobals "_law_drawn_text" = some (some (.ref f35)))
    (l35 : K.lookup f35 = some ⟨oc35, od35, .func (PySem.W.fnOf "_law_drawn_text" "_law_drawn_text" (defArgs s__law_drawn_text) (defBody s__law_drawn_text) (defScope s__law_drawn_text) .none kV35 dc35 pm35 an35 cd35 ct35), sl35⟩)
    (c35 : PySem.W.codeIn K cd35 "_law_drawn_text" = true)
    (k35 : PySem.W.keepIn K (.ref f35) = true)
    (a36 : PySem.W.nsIn K mainGlobals "_law_drawn_deed" = some (some (.ref f36)))
    (l36 : K.lookup f36 = some ⟨oc36, od36, .func (PySem.W.fnOf "_law_drawn_deed" "_law_drawn_deed" (defArgs s__law_drawn_deed) (defBody s__law_drawn_deed) (defScope s__law_drawn_deed) .none kV36 dc36 pm36 an36 cd36 ct36), sl36⟩)
    (c36 : PySem.W.codeIn K cd36 "_law_drawn_deed" = true)
    (k36 : PySem.W.keepIn K (.ref f36) = true)
    (a37 : PySem.W.nsIn K mainGlobals "_law_spoilt" = some (some (.ref f37)))
    (l37 : K.lookup f37 = some ⟨oc37, od37, .func (PySem.W.fnOf "_law_spoilt" "_law_spoilt" (defArgs s__law_spoilt) (defBody s__law_spoilt) (defScope s__law_spoilt) .none kV37 dc37 pm37 an37 cd37 ct37), sl37⟩)
    (c37 : PySem.W.codeIn K cd37 "_law_spoilt" = true)
    (k37 : PySem.W.keepIn K (.ref f37) = true)
    (a38 : PySem.W.nsIn K mainGlobals "_law_told" = some (some (.ref f38)))
    (l38 : K.lookup f38 = some ⟨oc38, od38, .func (PySem.W.fnOf "_law_told" "_law_told" (defArgs s__law_told) (defBody s__law_told) (defScope s__law_told) .none kV38 dc38 pm38 an38 cd38 ct38), sl38⟩)
    (c38 : PySem.W.codeIn K cd38 "_law_told" = true)
    (k38 : PySem.W.keepIn K (.ref f38) = true)
    (a39 : PySem.W.nsIn K mainGlobals "_law_own" = some (some (.ref f39)))
    (l39 : K.lookup f39 = some ⟨oc39, od39, .func (PySem.W.fnOf "_law_own" "_law_own" (defArgs s__law_own) (defBody s__law_own) (defScope s__law_own) .none kV39 dc39 pm39 an39 cd39 ct39), sl39⟩)
    (c39 : PySem.W.codeIn K cd39 "_law_own" = true)
    (k39 : PySem.W.keepIn K (.ref f39) = true)
    (a40 : PySem.W.nsIn K mainGlobals "_law_in_a_row" = some (some (.ref f40)))
    (l40 : K.lookup f40 = some ⟨oc40, od40, .func (PySem.W.fnOf "_law_in_a_row" "_law_in_a_row" (defArgs s__law_in_a_row) (defBody s__law_in_a_row) (defScope s__law_in_a_row) .none kV40 dc40 pm40 an40 cd40 ct40), sl40⟩)
    (c40 : PySem.W.codeIn K cd40 "_law_in_a_row" = true)
    (k40 : PySem.W.keepIn K (.ref f40) = true)
    (a41 : PySem.W.nsIn K mainGlobals "law" = some (some (.ref f41)))
    (l41 : K.lookup f41 = some ⟨oc41, od41, .func (PySem.W.fnOf "law" "law" (defArgs s_law) (defBody s_law) (defScope s_law) .none kV41 dc41 pm41 an41 cd41 ct41), sl41⟩)
    (c41 : PySem.W.codeIn K cd41 "law" = true)
    (k41 : PySem.W.keepIn K (.ref f41) = true)
    (cc_AFTER_PERCENT : PySem.W.nsIn K mainGlobals "AFTER_PERCENT" = some (some (.str "&'()*+,-./0123456789:;<=>?@ABCDEFGHIJKLMNOPQRSTUVWXYZ[\\]^_`abcdefghijklmnopqrstuvwxyz{|}~" ck_AFTER_PERCENT)))
    (cc_BEFORE_PERCENT : PySem.W.nsIn K mainGlobals "BEFORE_PERCENT" = some (some (.str " !\"#$" ck_BEFORE_PERCENT)))
    (cc_NUMBER_BYTES : PySem.W.nsIn K mainGlobals "NUMBER_BYTES" = some (some (.int 60 ck_NUMBER_BYTES)))
    (z_bool : PySem.W.nsIn K mainGlobals "bool" = some none)
    (z_int : PySem.W.nsIn K mainGlobals "int" = some none)
    (z_isinstance : PySem.W.nsIn K mainGlobals "isinstance" = some none)
    (z_len : PySem.W.nsIn K mainGlobals "len" = some none)
    (z_list : PySem.W.nsIn K mainGlobals "list" = some none)
    (z_ord : PySem.W.nsIn K mainGlobals "ord" = some none)
    (z_range : PySem.W.nsIn K mainGlobals "range" = some none)
    (z_str : PySem.W.nsIn K mainGlobals "str" = some none)
    (z_tuple : PySem.W.nsIn K mainGlobals "tuple" = some none) :
    ∃ fd : FuncData, (∀ (s : Shared) (v : Value), BindsTo s fd ⟨[v], []⟩ [("script", v)]) ∧ ∀ base : Heap, K.In base → base.Ns mainGlobals mg → FnOk l.prog w K mg base CX0 10 fa fd ["script"] (up (S_law K Ad0)) := by
  have e := hfa.symm.trans (PySem.W.mg_of X G a41)
  cases e
  have Z : Facts K mg ⟨C_Reader, C_DamagedPacket⟩ := ⟨⟨⟨pg_Reader, hd_Reader, po_Reader, sa_Reader⟩, n0_Reader, n1_Reader, ⟨xq_DamagedPacket, xk_DamagedPacket, xb_DamagedPacket, xt_DamagedPacket, xc_DamagedPacket, xs_DamagedPacket⟩⟩,
    ⟨⟨_, _, ⟨mk_Reader, a0, i0, kc_Reader⟩, fun_mk (st := s_Reader_init) l0 c0 k0⟩⟩,
    ⟨⟨_, _, ⟨a1, i1, k1⟩, fun_mk (st := s_Reader_read_byte) l1 c1 k1⟩⟩,
    ⟨⟨_, _, ⟨a2, i2, k2⟩, fun_mk (st := s_Reader_read_choice) l2 c2 k2⟩⟩,
    ⟨⟨_, _, ⟨a3, i3, k3⟩, fun_mk (st := s_Reader_end) l3 c3 k3⟩⟩,
    ⟨⟨_, _, ⟨a4, i4, k4⟩, fun_mk (st := s_Reader_read_number) l4 c4 k4⟩⟩,
    ⟨⟨_, _, ⟨a5, i5, k5⟩, fun_mk (st := s_Reader_read_count) l5 c5 k5⟩⟩,
    ⟨⟨_, _, ⟨a6, i6, k6⟩, fun_mk (st := s_Reader_read_character) l6 c6 k6⟩⟩,
    ⟨⟨_, _, ⟨a7, i7, k7⟩, fun_mk (st := s_Reader_read_string) l7 c7 k7⟩⟩,
    ⟨⟨_, _, ⟨a8, i8, k8⟩, fun_mk (st := s_Reader_read_mark) l8 c8 k8⟩⟩,
    ⟨⟨_, _, ⟨a9, i9, k9⟩, fun_mk (st := s_Reader_read_deed) l9 c9 k9⟩⟩,
    ⟨⟨_, _, ⟨a10, i10, k10⟩, fun_mk (st := s_Reader_read_triple) l10 c10 k10⟩⟩,
    ⟨⟨_, _, ⟨a11, i11, k11⟩, fun_mk (st := s_Reader_read_triples) l11 c11 k11⟩⟩,
    ⟨⟨_, _, ⟨a12, i12, k12⟩, fun_mk (st := s_Reader_read_packet) l12 c12 k12⟩⟩,
    ⟨⟨_, _, PySem.W.mg_of X G a13, fun_mk (st := s_write_number) l13 c13 k13⟩⟩,
    ⟨⟨_, _, PySem.W.mg_of X G a14, fun_mk (st := s_write_list) l14 c14 k14⟩⟩,
    ⟨⟨_, _, PySem.W.mg_of X G a15, fun_mk (st := s_write_string) l15 c15 k15⟩⟩,
    ⟨⟨_, _, PySem.W.mg_of X G a16, fun_mk (st := s_write_mark) l16 c16 k16⟩⟩,
    ⟨⟨_, _, PySem.W.mg_of X G a17, fun_mk (st := s_write_deed) l17 c17 k17⟩⟩,
    ⟨⟨_, _, PySem.W.mg_of X G a18, fun_mk (st := s_write_triples) l18 c18 k18⟩⟩,
    ⟨⟨_, _, PySem.W.mg_of X G a19, fun_mk (st := s_write_packet) l19 c19 k19⟩⟩,
    ⟨⟨_, _, PySem.W.mg_of X G a20, fun_mk (st := s__law_next) l20 c20 k20⟩⟩,
    ⟨⟨_, _, PySem.W.mg_of X G a21, fun_mk (st := s__law_same) l21 c21 k21⟩⟩,
    ⟨⟨_, _, PySem.W.mg_of X G a22, fun_mk (st := s__law_number) l22 c22 k22⟩⟩,
    ⟨⟨_, _, PySem.W.mg_of X G a23, fun_mk (st := s__law_text) l23 c23 k23⟩⟩,
    ⟨⟨_, _, PySem.W.mg_of X G a24, fun_mk (st := s__law_mark) l24 c24 k24⟩⟩,
    ⟨⟨_, _, PySem.W.mg_of X G a25, fun_mk (st := s__law_deed) l25 c25 k25⟩⟩,
    ⟨⟨_, _, PySem.W.mg_of X G a26, fun_mk (st := s__law_triples) l26 c26 k26⟩⟩,
    ⟨⟨_, _, PySem.W.mg_of X G a27, fun_mk (st := s__law_read_number) l27 c27 k27⟩⟩,
    ⟨⟨_, _, PySem.W.mg_of X G a28, fun_mk (st := s__law_sign) l28 c28 k28⟩⟩,
    ⟨⟨_, _, PySem.W.mg_of X G a29, fun_mk (st := s__law_read_text) l29 c29 k29⟩⟩,
    ⟨⟨_, _, PySem.W.mg_of X G a30, fun_mk (st := s__law_read_mark) l30 c30 k30⟩⟩,
    ⟨⟨_, _, PySem.W.mg_of X G a31, fun_mk (st := s__law_read_deed) l31 c31 k31⟩⟩,
    ⟨⟨_, _, PySem.W.mg_of X G a32, fun_mk (st := s__law_read_triples) l32 c32 k32⟩⟩,
    ⟨⟨_, _, PySem.W.mg_of X G a33, fun_mk (st := s__law_read_packet) l33 c33 k33⟩⟩,
    ⟨⟨_, _, PySem.W.mg_of X G a34, fun_mk (st := s__law_drawn_number) l34 c34 k34⟩⟩,
    ⟨⟨_, _, PySem.W.mg_of X G a35, fun_mk (st := s__law_drawn_text) l35 c35 k35⟩⟩,
    ⟨⟨_, _, PySem.W.mg_of X G a36, fun_mk (st := s__law_drawn_deed) l36 c36 k36⟩⟩,
    ⟨⟨_, _, PySem.W.mg_of X G a37, fun_mk (st := s__law_spoilt) l37 c37 k37⟩⟩,
    ⟨⟨_, _, PySem.W.mg_of X G a38, fun_mk (st := s__law_told) l38 c38 k38⟩⟩,
    ⟨⟨_, _, PySem.W.mg_of X G a39, fun_mk (st := s__law_own) l39 c39 k39⟩⟩,
    ⟨⟨_, _, PySem.W.mg_of X G a40, fun_mk (st := s__law_in_a_row) l40 c40 k40⟩⟩,
    ⟨⟨_, _, PySem.W.mg_of X G a41, fun_mk (st := s_law) l41 c41 k41⟩⟩,
    PySem.W.mg_none_of X G z_bool,
    PySem.W.mg_none_of X G z_int,
    PySem.W.mg_none_of X G z_isinstance,
    PySem.W.mg_none_of X G z_len,
    PySem.W.mg_none_of X G z_list,
    PySem.W.mg_none_of X G z_ord,
    PySem.W.mg_none_of X G z_range,
    PySem.W.mg_none_of X G z_str,
    PySem.W.mg_none_of X G z_tuple,
    ⟨_, by first | exact ⟨_, rfl⟩ | rfl, PySem.W.mg_of X G cc_AFTER_PERCENT⟩,
    ⟨_, by first | exact ⟨_, rfl⟩ | rfl, PySem.W.mg_of X G cc_BEFORE_PERCENT⟩,
    ⟨_, by first | exact ⟨_, rfl⟩ | rfl, PySem.W.mg_of X G cc_NUMBER_BYTES⟩,
    PySem.W.mg_of X G gC_Reader,
    PySem.W.mg_of X G gC_DamagedPacket⟩
  refine ⟨PySem.W.fnOf "law" "law" (defArgs s_law) (defBody s_law) (defScope s_law) .none kV41 dc41 pm41 an41 cd41 ct41, fun s v => .of_eq rfl, fun base _ _ => ?_⟩
  obtain ⟨f, fd, hm, F⟩ := Z.f_law.ex
  have e := hm.symm.trans (PySem.W.mg_of X G a41)
  cases e
  exact fnok0 (S := S_law K ⟨C_Reader, C_DamagedPacket⟩) (t := t_law K ⟨C_Reader, C_DamagedPacket⟩) (fun_mk (st := s_law) l41 c41 k41) sc_law len_law (fun f cdv A0 outer s H E hr => (pss_cons (ps_set (i := 1) sc_law.nd rfl (by first | exact Or.inl rfl | exact Or.inr rfl) (pe_lst (pa_cons (pe_callTy call_listU (by rfl) Z.b_list (by decide +kernel) (pa_cons (pv 0) pa_nil)) (pa_cons pe_int (pa_cons pe_int (pa_cons pe_int pa_nil)))))) (pss_cons (ps_for PassesOwn.never rfl (pi_range1 (by rfl) Z.b_range (pa_cons pe_int pa_nil)) (pg_name (i := 2) sc_law.nd rfl (by first | exact Or.inl rfl | exact Or.inr rfl)) (pss_cons (ps_set (i := 3) sc_law.nd rfl (by first | exact Or.inl rfl | exact Or.inr rfl) (pe_callH (has__law_drawn_number Z) (hr.mono (by decide)) (by rfl) pass0 (pa_cons (pv 1) pa_nil))) (pss_cons (ps_set (i := 4) sc_law.nd rfl (by first | exact Or.inl rfl | exact Or.inr rfl) (pe_callH (has__law_drawn_text Z) (hr.mono (by decide)) (by rfl) pass0 (pa_cons (pv 1) pa_nil))) (pss_cons (ps_set (i := 5) sc_law.nd rfl (by first | exact Or.inl rfl | exact Or.inr rfl) (pe_callH (has__law_drawn_deed Z) (hr.mono (by decide)) (by rfl) pass0 (pa_cons (pv 1) pa_nil))) (pss_cons (ps_setLc (i := 6) (own := [("j", 12)]) (g := (gName 12)) (by rfl) sc_law.nd rfl rfl (sw_true rfl rfl rfl (by decide +kernel)) (pi_range1 (by rfl) Z.b_range (pa_cons (pe_callH (has__law_next Z) (hr.mono (by decide)) (by rfl) pass0 (pa_cons (pv 1) (pa_cons pe_int pa_nil))) pa_nil)) (blkOk_by (own := [("j", 12)]) (N := ["script", "state", "k", "number", "text", "deed", "triples", "written", "own", "things", "long", "kind", "j", "data"]) (sc := defScope s_law) (by decide +kernel)) (fun _ _ _ _ _ => (pg_name (i := 12) sc_law.nd rfl (by first | exact Or.inl rfl | exact Or.inr rfl))) (fun _ _ _ _ _ => pts_nil) (fun _ _ _ _ _ => (pe_tup (pa_cons (pe_callH (has__law_next Z) (hr.mono (by decide)) (by rfl) pass0 (pa_cons (pv 1) (pa_cons pe_int pa_nil))) (pa_cons (pe_callH (has__law_drawn_number Z) (hr.mono (by decide)) (by rfl) pass0 (pa_cons (pv 1) pa_nil)) (pa_cons (pe_callH (has__law_drawn_deed Z) (hr.mono (by decide)) (by rfl) pass0 (pa_cons (pv 1) pa_nil)) pa_nil)))))) (pss_cons (ps_set (i := 7) sc_law.nd rfl (by first | exact Or.inl rfl | exact Or.inr rfl) (pe_lst (pa_cons (pe_callH (has_write_number Z) (hr.mono (by decide)) (by rfl) pass0 (pa_cons (pv 3) pa_nil)) (pa_cons (pe_callH (has_write_string Z) (hr.mono (by decide)) (by rfl) pass0 (pa_cons (pv 4) pa_nil)) (pa_cons (pe_callH (has_write_deed Z) (hr.mono (by decide)) (by rfl) pass0 (pa_cons (pv 5) pa_nil)) (pa_cons (pe_callH (has_write_triples Z) (hr.mono (by decide)) (by rfl) pass0 (pa_cons (pe_callTy call_listU (by rfl) Z.b_list (by decide +kernel) (pa_cons (pv 6) pa_nil)) pa_nil)) (pa_cons (pe_callH (has_write_packet Z) (hr.mono (by decide)) (by rfl) pass0 (pa_cons (pe_callTy call_listU (by rfl) Z.b_list (by decide +kernel) (pa_cons (pv 6) pa_nil)) pa_nil)) pa_nil))))))) (pss_cons (ps_set (i := 8) sc_law.nd rfl (by first | exact Or.inl rfl | exact Or.inr rfl) (pe_callH (has__law_triples Z) (hr.mono (by decide)) (by rfl) pass0 (pa_cons (pv 6) pa_nil))) (pss_cons (ps_if (pt_not (pt_tru (pe_callH (has__law_same Z) (hr.mono (by decide)) (by rfl) pass0 (pa_cons (pv 7) (pa_cons (pe_lst (pa_cons (pe_callH (has__law_number Z) (hr.mono (by decide)) (by rfl) pass0 (pa_cons (pv 3) pa_nil)) (pa_cons (pe_callH (has__law_text Z) (hr.mono (by decide)) (by rfl) pass0 (pa_cons (pv 4) pa_nil)) (pa_cons (pe_callH (has__law_deed Z) (hr.mono (by decide)) (by rfl) pass0 (pa_cons (pv 5) pa_nil)) (pa_cons (pv 8) (pa_cons (pe_op op_addU (pe_lst (pa_cons pe_int pa_nil)) (pv 8)) pa_nil)))))) pa_nil))))) (pss_one (ps_ret pe_bl)) pss_nil) (pss_cons (ps_set (i := 9) sc_law.nd rfl (by first | exact Or.inl rfl | exact Or.inr rfl) (pe_lst (pa_cons (pv 3) (pa_cons (pv 4) (pa_cons (pv 5) (pa_cons (pv 6) (pa_cons (pv 6) pa_nil))))))) (pss_cons (ps_if (pt_not (pt_tru (pe_callH (has__law_in_a_row Z) (hr.mono (by decide)) (by rfl) pass0 (pa_cons (pv 9) (pa_cons (pv 7) pa_nil))))) (pss_one (ps_ret pe_bl)) pss_nil) (pss_cons (ps_set (i := 10) sc_law.nd rfl (by first | exact Or.inl rfl | exact Or.inr rfl) (pe_op op_addU (pe_lc (own := [("j", 12)]) (g := (gName 12)) (by rfl) sc_law.nd (pi_range1 (by rfl) Z.b_range (pa_cons (pe_callH (has__law_next Z) (hr.mono (by decide)) (by rfl) pass0 (pa_cons (pv 1) (pa_cons pe_int pa_nil))) pa_nil)) (blkOk_by (own := [("j", 12)]) (N := ["script", "state", "k", "number", "text", "deed", "triples", "written", "own", "things", "long", "kind", "j", "data"]) (sc := defScope s_law) (by decide +kernel)) (fun _ _ _ _ _ => (pg_name (i := 12) sc_law.nd rfl (by first | exact Or.inl rfl | exact Or.inr rfl))) (fun _ _ _ _ _ => pts_nil) (fun _ _ _ _ _ => (pe_op op_addU pe_int (pe_callH (has__law_next Z) (hr.mono (by decide)) (by rfl) pass0 (pa_cons (pv 1) (pa_cons pe_int pa_nil)))))) (pe_lst (pa_cons (pe_callH (has__law_next Z) (hr.mono (by decide)) (by rfl) pass0 (pa_cons (pv 1) (pa_cons pe_int pa_nil))) pa_nil)))) (pss_cons (ps_if (pt_not (pt_tru (pe_callH (has__law_same Z) (hr.mono (by decide)) (by rfl) pass0 (pa_cons (pe_callH (has__law_told Z) (hr.mono (by decide)) (by rfl) pass0 (pa_cons pe_int (pa_cons (pv 10) pa_nil))) (pa_cons (pe_callH (has__law_own Z) (hr.mono (by decide)) (by rfl) pass0 (pa_cons pe_int (pa_cons (pv 10) pa_nil))) pa_nil))))) (pss_one (ps_ret pe_bl)) pss_nil) (pss_one (ps_for PassesOwn.never rfl (pi_range1 (by rfl) Z.b_range (pa_cons pe_int pa_nil)) (pg_name (i := 11) sc_law.nd rfl (by first | exact Or.inl rfl | exact Or.inr rfl)) (pss_cons (ps_if (pt_not (pt_tru (pe_callH (has__law_same Z) (hr.mono (by decide)) (by rfl) pass0 (pa_cons (pe_callH (has__law_told Z) (hr.mono (by decide)) (by rfl) pass0 (pa_cons (pv 11) (pa_cons (pe_ix ix_seq (pv 7) (pv 11) (fun _ _ => rfl)) pa_nil))) (pa_cons (pe_tup (pa_cons (pe_ix ix_seq (pv 9) (pv 11) (fun _ _ => rfl)) (pa_cons (pe_callB call_lenU (by rfl) Z.b_len (by decide +kernel) (pa_cons (pe_ix ix_seq (pv 7) (pv 11) (fun _ _ => rfl)) pa_nil)) pa_nil))) pa_nil))))) (pss_one (ps_ret pe_bl)) pss_nil) (pss_one (ps_for PassesOwn.never rfl (pi_range1 (by rfl) Z.b_range (pa_cons pe_int pa_nil)) (pg_name (i := 12) sc_law.nd rfl (by first | exact Or.inl rfl | exact Or.inr rfl)) (pss_cons (ps_set (i := 13) sc_law.nd rfl (by first | exact Or.inl rfl | exact Or.inr rfl) (pe_callH (has__law_spoilt Z) (hr.mono (by decide)) (by rfl) pass0 (pa_cons (pv 1) (pa_cons (pe_callTy call_listU (by rfl) Z.b_list (by decide +kernel) (pa_cons (pe_ix ix_seq (pv 7) (pv 11) (fun _ _ => rfl)) pa_nil)) pa_nil)))) (pss_one (ps_if (pt_not (pt_tru (pe_callH (has__law_same Z) (hr.mono (by decide)) (by rfl) pass0 (pa_cons (pe_callH (has__law_told Z) (hr.mono (by decide)) (by rfl) pass0 (pa_cons (pv 11) (pa_cons (pv 13) pa_nil))) (pa_cons (pe_callH (has__law_own Z) (hr.mono (by decide)) (by rfl) pass0 (pa_cons (pv 11) (pa_cons (pv 13) pa_nil))) pa_nil))))) (pss_one (ps_ret pe_bl)) pss_nil)))))))))))))))))))) (pss_one (ps_ret pe_bl))))) ok_law
end Lw
open PySem PySem.W PyProof.Rows
set_option maxRecDepth 100000 in
set_option maxHeartbeats 0 in
theorem PySem.Challenge.cw_samemeant_k12_bytes_written_and_read_holds : PySem.Challenge.rw_samemeant_k12_bytes_written_and_read.Holds := by
  w_on; o_law; k_head; (case hw => w_witness2)
  k_fill
  refine L2.walk_of (l := PySem.Challenge.rw_samemeant_k12_bytes_written_and_read) (n := 63) (k := 10) (x := "script") (CX := fun _ => L2.CX0) (sp := fun w => Lw.up (Lw.S_law _ Lw.Ad0)) rfl (by decide) rfl ⟨rfl, by decide, by decide⟩ (fun w h Y => PySem.W.kIn_of Y) ?F (fun _ H a ns hl _ hS => Lw.law_sp hl hS) (fun _ _ _ _ _ h => h)
  case F =>
    intro w mg fa h KX G hmg
    refine' Lw.all_mk KX G hmg ?gC_Reader ?pg_Reader ?hd_Reader ?po_Reader ?sa_Reader ?mk_Reader ?kc_Reader ?n0_Reader ?n1_Reader ?gC_DamagedPacket ?xq_DamagedPacket ?xk_DamagedPacket ?xb_DamagedPacket ?xt_DamagedPacket ?xc_DamagedPacket ?xs_DamagedPacket ?a0 ?i0 ?l0 ?c0 ?k0 ?a1 ?i1 ?l1 ?c1 ?k1 ?a2 ?i2 ?l2 ?c2 ?k2 ?a3 ?i3 ?l3 ?c3 ?k3 ?a4 ?i4 ?l4 ?c4 ?k4 ?a5 ?i5 ?l5 ?c5 ?k5 ?a6 ?i6 ?l6 ?c6 ?k6 ?a7 ?i7 ?l7 ?c7 ?k7 ?a8 ?i8 ?l8 ?c8 ?k8 ?a9 ?i9 ?l9 ?c9 ?k9 ?a10 ?i10 ?l10 ?c10 ?k10 ?a11 ?i11 ?l11 ?c11 ?k11 ?a12 ?i12 ?l12 ?c12 ?k12 ?a13 ?l13 ?c13 ?k13 ?a14 ?l14 ?c14 ?k14 ?a15 ?l15 ?c15 ?k15 ?a16 ?l16 ?c16 ?k16 ?a17 ?l17 ?c17 ?k17 ?a18 ?l18 ?c18 ?k18 ?a19 ?l19 ?c19 ?k19 ?a20 ?l20 ?c20 ?k20 ?a21 ?l21 ?c21 ?k21 ?a22 ?l22 ?c22 ?k22 ?a23 ?l23 ?c23 ?k23 ?a24 ?l24 ?c24 ?k24 ?a25 ?l25 ?c25 ?k25 ?a26 ?l26 ?c26 ?k26 ?a27 ?l27 ?c27 ?k27 ?a28 ?l28 ?c28 ?k28 ?a29 ?l29 ?c29 ?k29 ?a30 ?l30 ?c30 ?k30 ?a31 ?l31 ?c31 ?k31 ?a32 ?l32 ?c32 ?k32 ?a33 ?l33 ?c33 ?k33 ?a34 ?l34 ?c34 ?k34 ?a35 ?l35 ?c35 ?k35 ?a36 ?l36 ?c36 ?k36 ?a37 ?l37 ?c37 ?k37 ?a38 ?l38 ?c38 ?k38 ?a39 ?l39 ?c39 ?k39 ?a40 ?l40 ?c40 ?k40 ?a41 ?l41 ?c41 ?k41 ?cc_AFTER_PERCENT ?cc_BEFORE_PERCENT ?cc_NUMBER_BYTES ?z_bool ?z_int ?z_isinstance ?z_len ?z_list ?z_ord ?z_range ?z_str ?z_tuple
    (case gC_Reader => k_is)
    (case pg_Reader => k_is)
    (case hd_Reader => k_is)
    (case po_Reader => k_is)
    (case sa_Reader => k_is)
    (case mk_Reader => k_is)
    (case kc_Reader => k_is)
    (case n0_Reader => k_is)
    (case n1_Reader => k_is)
    (case gC_DamagedPacket => k_is)
    (case xq_DamagedPacket => k_exc)
    (case xk_DamagedPacket => k_is)
    (case xb_DamagedPacket => k_is)
    (case xt_DamagedPacket => k_is)
    (case xc_DamagedPacket => k_is)
    (case xs_DamagedPacket => first | rfl | k_is)
    (case a0 => k_is)
    (case i0 => k_is)
    (case l0 => k_is)
    (case c0 => k_is)
    (case k0 => k_is)
    (case a1 => k_is)
    (case i1 => k_is)
    (case l1 => k_is)
    (case c1 => k_is)
    (case k1 => k_is)
    (case a2 => k_is)
    (case i2 => k_is)
    (case l2 => k_is)
    (case c2 => k_is)
    (case k2 => k_is)
    (case a3 => k_is)
    (case i3 => k_is)
    (case l3 => k_is)
    (case c3 => k_is)
    (case k3 => k_is)
    (case a4 => k_is)
    (case i4 => k_is)
    (case l4 => k_is)
    (case c4 => k_is)
    (case k4 => k_is)
    (case a5 => k_is)
    (case i5 => k_is)
    (case l5 => k_is)
    (case c5 => k_is)
    (case k5 => k_is)
    (case a6 => k_is)
    (case i6 => k_is)
    (case l6 => k_is)
    (case c6 => k_is)
    (case k6 => k_is)
    (case a7 => k_is)
    (case i7 => k_is)
    (case l7 => k_is)
    (case c7 => k_is)
    (case k7 => k_is)
    (case a8 => k_is)
    (case i8 => k_is)
    (case l8 => k_is)
    (case c8 => k_is)
    (case k8 => k_is)
    (case a9 => k_is)
    (case i9 => k_is)
    (case l9 => k_is)
    (case c9 => k_is)
    (case k9 => k_is)
    (case a10 => k_is)
    (case i10 => k_is)
    (case l10 => k_is)
    (case c10 => k_is)
    (case k10 => k_is)
    (case a11 => k_is)
    (case i11 => k_is)
    (case l11 => k_is)
    (case c11 => k_is)
    (case k11 => k_is)
    (case a12 => k_is)
    (case i12 => k_is)
    (case l12 => k_is)
    (case c12 => k_is)
    (case k12 => k_is)
    (case a13 => k_is)
    (case l13 => k_is)
    (case c13 => k_is)
    (case k13 => k_is)
    (case a14 => k_is)
    (case l14 => k_is)
    (case c14 => k_is)
    (case k14 => k_is)
    (case a15 => k_is)
    (case l15 => k_is)
    (case c15 => k_is)
    (case k15 => k_is)
    (case a16 => k_is)
    (case l16 => k_is)
    (case c16 => k_is)
    (case k16 => k_is)
    (case a17 => k_is)
    (case l17 => k_is)
    (case c17 => k_is)
    (case k17 => k_is)
    (case a18 => k_is)
    (case l18 => k_is)
    (case c18 => k_is)
    (case k18 => k_is)
    (case a19 => k_is)
    (case l19 => k_is)
    (case c19 => k_is)
    (case k19 => k_is)
    (case a20 => k_is)
    (case l20 => k_is)
    (case c20 => k_is)
    (case k20 => k_is)
    (case a21 => k_is)
    (case l21 => k_is)
    (case c21 => k_is)
    (case k21 => k_is)
    (case a22 => k_is)
    (case l22 => k_is)
    (case c22 => k_is)
    (case k22 => k_is)
    (case a23 => k_is)
    (case l23 => k_is)
    (case c23 => k_is)
    (case k23 => k_is)
    (case a24 => k_is)
    (case l24 => k_is)
    (case c24 => k_is)
    (case k24 => k_is)
    (case a25 => k_is)
    (case l25 => k_is)
    (case c25 => k_is)
    (case k25 => k_is)
    (case a26 => k_is)
    (case l26 => k_is)
    (case c26 => k_is)
    (case k26 => k_is)
    (case a27 => k_is)
    (case l27 => k_is)
    (case c27 => k_is)
    (case k27 => k_is)
    (case a28 => k_is)
    (case l28 => k_is)
    (case c28 => k_is)
    (case k28 => k_is)
    (case a29 => k_is)
    (case l29 => k_is)
    (case c29 => k_is)
    (case k29 => k_is)
    (case a30 => k_is)
    (case l30 => k_is)
    (case c30 => k_is)
    (case k30 => k_is)
    (case a31 => k_is)
    (case l31 => k_is)
    (case c31 => k_is)
    (case k31 => k_is)
    (case a32 => k_is)
    (case l32 => k_is)
    (case c32 => k_is)
    (case k32 => k_is)
    (case a33 => k_is)
    (case l33 => k_is)
    (case c33 => k_is)
    (case k33 => k_is)
    (case a34 => k_is)
    (case l34 => k_is)
    (case c34 => k_is)
    (case k34 => k_is)
    (case a35 => k_is)
    (case l35 => k_is)
    (case c35 => k_is)
    (case k35 => k_is)
    (case a36 => k_is)
    (case l36 => k_is)
    (case c36 => k_is)
    (case k36 => k_is)
    (case a37 => k_is)
    (case l37 => k_is)
    (case c37 => k_is)
    (case k37 => k_is)
    (case a38 => k_is)
    (case l38 => k_is)
    (case c38 => k_is)
    (case k38 => k_is)
    (case a39 => k_is)
    (case l39 => k_is)
    (case c39 => k_is)
    (case k39 => k_is)
    (case a40 => k_is)
    (case l40 => k_is)
    (case c40 => k_is)
    (case k40 => k_is)
    (case a41 => k_is)
    (case l41 => k_is)
    (case c41 => k_is)
    (case k41 => k_is)
    (case cc_AFTER_PERCENT => k_is)
    (case cc_BEFORE_PERCENT => k_is)
    (case cc_NUMBER_BYTES => k_is)
    (case z_bool => k_is)
    (case z_int => k_is)
    (case z_isinstance => k_is)
    (case z_len => k_is)
    (case z_list => k_is)
    (case z_ord => k_is)
    (case z_range => k_is)
    (case z_str => k_is)
    (case z_tuple => k_is)
