import PyProof.Rows.All
import Wide.All
import OpenK.AllK
import Wide.FinOn
import HandS.ForMost
import HandS.ForExc
import HandS.Walk
import HandS.Steps
import HandS.Deep
import HandS.IsInst
import HandS.Wide
import HandS.SortKw
import HandS.Lambda
import HandS.More
import HandS.ExcOwn
import HandS.TryOnly
import HandS.WordsExc
import KE.GoesComp
import KE.GoesRaise
import KE.SortKeyHeap
import KE.KLam
import KE.KNestM
import HandS.EndTab
import HandS.DictComp
import KE.KDictCopyH
import HandS.Style
import HandS.TupAny
import HandS.TupMul
import HandS.TupLen
import PyProof.Draws
import PyProof.EnumMake
import PySem.Challenge.RW_samemeant_k01_deeds_in_force
set_option Elab.async false
set_option linter.all false
set_option maxRecDepth 100000
set_option maxHeartbeats 1000000
namespace Lw
open PySem PySem.Spec PyProof.Rows L2

/-! ## known heaps: G is what is known of the heap H -/
def Ex (G H : Hp) : Prop := ∀ a o, G a = some o → H a = some o
theorem Ex.refl (H : Hp) : Ex H H := fun _ _ h => h
theorem Ex.trans {G H I : Hp} (a : Ex G H) (b : Ex H I) : Ex G I := fun x o h => b x o (a x o h)
theorem Ex.get {G H : Hp} {a : Addr} {o : HO} (e : Ex G H) (h : G a = some o) : H a = some o := e a o h
theorem Ex.nul {G H : Hp} {a : Addr} (e : Ex G H) (h : H a = none) : G a = none := by
  cases q : G a with
  | none => rfl
  | some o => rw [e a o q] at h; cases h
theorem Ex.new {H : Hp} {p : Addr} {o : HO} (h : H p = none) : Ex H (upd H p o) := fun a u e => by
  rw [upd_ne (ne_of_none e h)]; exact e
theorem Ex.mut {G H : Hp} {p : Addr} {o : HO} (e : Ex G H) (h : G p = none) : Ex G (upd H p o) := fun a u ha => by
  rw [upd_ne (ne_of_none ha h)]; exact e a u ha
theorem Ex.put {G H : Hp} {p : Addr} {o : HO} (e : Ex G H) : Ex (upd G p o) (upd H p o) := fun a u ha => by
  by_cases q : a = p
  · subst q; rw [upd_same] at ha ⊢; exact ha
  · rw [upd_ne q] at ha ⊢; exact e a u ha
theorem Ex.putL {G H : Hp} {p : Addr} {o : HO} (e : Ex G H) (h : H p = some o) : Ex (upd G p o) H := fun a u ha => by
  by_cases q : a = p
  · subst q; rw [upd_same] at ha; cases ha; exact h
  · rw [upd_ne q] at ha; exact e a u ha
theorem Ex.rd {G H : Hp} {a : Addr} {u : HO} (e : Ex G H) (h : Rd G a u) : Rd H a u := by
  rcases h with h | ⟨o, h⟩
  · exact .inl (e a _ h)
  · exact .inr ⟨o, e a _ h⟩
theorem Ex.sl {K : PySem.W.Frag} {G H : Hp} {a : Addr} {xs : List V} (e : Ex G H) (h : SqL K G a xs) : SqL K H a xs := by
  rcases h with h | h
  · exact .inl (e.rd h)
  · exact .inr h
theorem Ex.st {K : PySem.W.Frag} {G H : Hp} {a : Addr} {xs : List V} (e : Ex G H) (h : SqT K G a xs) : SqT K H a xs := by
  rcases h with h | h
  · exact .inl (e.rd h)
  · exact .inr h
mutual
theorem Ex.dp {K : PySem.W.Frag} {G H : Hp} (e : Ex G H) : ∀ {v : V} {d : PyData}, Dp K G v d → Dp K H v d
  | _, _, .non => .non
  | _, _, .bl b => .bl b
  | _, _, .int i => .int i
  | _, _, .str x => .str x
  | _, _, .lst s h => .lst (e.sl s) (e.dps h)
  | _, _, .tup s h => .tup (e.st s) (e.dps h)
theorem Ex.dps {K : PySem.W.Frag} {G H : Hp} (e : Ex G H) : ∀ {v : List V} {d : List PyData}, DpAll K G v d → DpAll K H v d
  | _, _, .nil => .nil
  | _, _, .cons h t => .cons (e.dp h) (e.dps t)
end

/-! ## the judgements over known heaps -/
def Ee (te : TE) (σ : L2.St) (G : Hp) (Q : V → Hp → Prop) : Prop := ∀ (H : Hp) (Q' : VK), Ex G H → (∀ v G' H', Ex G' H' → Q v G' → Q' v H') → te σ H Q'
def Et (t : TT) (σ : L2.St) (G : Hp) (Q : Bool → Hp → Prop) : Prop := ∀ (H : Hp) (Q' : Bool → Hp → Prop), Ex G H → (∀ v G' H', Ex G' H' → Q v G' → Q' v H') → t σ H Q'
def Ea (t : TA) (σ : L2.St) (G : Hp) (Q : List V → Hp → Prop) : Prop := ∀ (H : Hp) (Q' : List V → Hp → Prop), Ex G H → (∀ v G' H', Ex G' H' → Q v G' → Q' v H') → t σ H Q'
def Eo (t : TO) (σ : L2.St) (G : Hp) (Q : Option Int → Hp → Prop) : Prop := ∀ (H : Hp) (Q' : Option Int → Hp → Prop), Ex G H → (∀ v G' H', Ex G' H' → Q v G' → Q' v H') → t σ H Q'
def Er (r : R2) (x y : V) (G : Hp) (Q : V → Hp → Prop) : Prop := ∀ (H : Hp) (Q' : VK), Ex G H → (∀ v G' H', Ex G' H' → Q v G' → Q' v H') → r x y H Q'
def Eu (r : V → Hp → VK → Prop) (x : V) (G : Hp) (Q : V → Hp → Prop) : Prop := ∀ (H : Hp) (Q' : VK), Ex G H → (∀ v G' H', Ex G' H' → Q v G' → Q' v H') → r x H Q'
def Ec (r : List V → Hp → VK → Prop) (x : List V) (G : Hp) (Q : V → Hp → Prop) : Prop := ∀ (H : Hp) (Q' : VK), Ex G H → (∀ v G' H', Ex G' H' → Q v G' → Q' v H') → r x H Q'
def Em (r : V → List V → Hp → VK → Prop) (x : V) (xs : List V) (G : Hp) (Q : V → Hp → Prop) : Prop := ∀ (H : Hp) (Q' : VK), Ex G H → (∀ v G' H', Ex G' H' → Q v G' → Q' v H') → r x xs H Q'
def Ew (r : V → Option Int → Option Int → Hp → VK → Prop) (x : V) (lo hi : Option Int) (G : Hp) (Q : V → Hp → Prop) : Prop := ∀ (H : Hp) (Q' : VK), Ex G H → (∀ v G' H', Ex G' H' → Q v G' → Q' v H') → r x lo hi H Q'
def Eg (g : TG) (v : V) (σ : L2.St) (G : Hp) (Q : L2.St → Hp → Prop) : Prop := ∀ (H : Hp) (Q' : L2.St → Hp → Prop), Ex G H → (∀ σ' G' H', Ex G' H' → Q σ' G' → Q' σ' H') → g v σ H Q'
def Egs (g : TGs) (v : List V) (σ : L2.St) (G : Hp) (Q : L2.St → Hp → Prop) : Prop := ∀ (H : Hp) (Q' : L2.St → Hp → Prop), Ex G H → (∀ σ' G' H', Ex G' H' → Q σ' G' → Q' σ' H') → g v σ H Q'
def Ez (t : TSet) (o i v : V) (G : Hp) (Q : Hp → Prop) : Prop := ∀ (H : Hp) (Q' : Hp → Prop), Ex G H → (∀ G' H', Ex G' H' → Q G' → Q' H') → t o i v H Q'
def Eip (t : TIp) (x y : V) (G : Hp) (Q : V → Hp → Prop) : Prop := ∀ (H : Hp) (Q' : VK), Ex G H → (∀ v G' H', Ex G' H' → Q v G' → Q' v H') → t x y H Q'
/-- what is wanted behind a statement, over known heaps -/
structure Ek where
  nx : L2.St → Hp → Prop
  rt : V → Hp → Prop
  bk : L2.St → Hp → Prop := fun _ _ => False
  ct : L2.St → Hp → Prop := fun _ _ => False
structure Lf (D : Ek) (D' : Ends) : Prop where
  nx : ∀ σ G H, Ex G H → D.nx σ G → D'.nx σ H
  rt : ∀ v G H, Ex G H → D.rt v G → D'.rt v H
  bk : ∀ σ G H, Ex G H → D.bk σ G → D'.bk σ H
  ct : ∀ σ G H, Ex G H → D.ct σ G → D'.ct σ H
def Es (t : TS) (D : Ek) (σ : L2.St) (G : Hp) : Prop := ∀ (H : Hp) (D' : Ends), Ex G H → Lf D D' → t D' σ H

section
variable {σ : L2.St} {G G' : Hp} {Q : V → Hp → Prop} {D : Ek}
theorem Es.weak {t : TS} (e : Ex G G') (h : Es t D σ G) : Es t D σ G' := fun H D' x l => h H D' (e.trans x) l
theorem Ea.weak {t : TA} {Q : List V → Hp → Prop} (e : Ex G G') (h : Ea t σ G Q) : Ea t σ G' Q := fun H D' x l => h H D' (e.trans x) l
theorem Ee.weak {t : TE} (e : Ex G G') (h : Ee t σ G Q) : Ee t σ G' Q := fun H D' x l => h H D' (e.trans x) l
theorem Ee.mono {t : TE} {Q2 : V → Hp → Prop} (h : Ee t σ G Q) (q : ∀ v G, Q v G → Q2 v G) : Ee t σ G Q2 := fun H D' x l => h H D' x fun v G' H' e z => l v G' H' e (q v G' z)

/-! ### names, constants, arguments -/
theorem ee_var {i : Nat} {v : V} (h : σ[i]? = some (some v)) (q : Q v G) : Ee (tVar i) σ G Q := fun H Q' e l => ⟨v, h, l v G H e q⟩
theorem ee_c {v : V} (q : Q v G) : Ee (tC v) σ G Q := fun H Q' e l => l v G H e q
theorem ea_nil {Q : List V → Hp → Prop} (q : Q [] G) : Ea tNil σ G Q := fun H Q' e l => l [] G H e q
theorem ea_cons {ta : TE} {tr : TA} {Q : List V → Hp → Prop} (h : Ee ta σ G fun x G1 => Ea tr σ G1 fun xs G2 => Q (x :: xs) G2) : Ea (tCons ta tr) σ G Q := fun H Q' e l =>
  h H _ e fun x G1 H1 e1 h1 => h1 H1 _ e1 fun xs G2 H2 e2 h2 => l (x :: xs) G2 H2 e2 h2
/-! ### operators -/
theorem ee_op {r : R2} {ta tb : TE} (h : Ee ta σ G fun x G1 => Ee tb σ G1 fun y G2 => Er r x y G2 Q) : Ee (tOp r ta tb) σ G Q := fun H Q' e l =>
  h H _ e fun x G1 H1 e1 h1 => h1 H1 _ e1 fun y G2 H2 e2 h2 => h2 H2 Q' e2 l
theorem ee_un {r : V → Hp → VK → Prop} {ta : TE} (h : Ee ta σ G fun x G1 => Eu r x G1 Q) : Ee (tUn r ta) σ G Q := fun H Q' e l =>
  h H _ e fun x G1 H1 e1 h1 => h1 H1 Q' e1 l
theorem eu_neg {i : Int} (q : Q (.int (-i)) G) : Eu (rU fun i => .int (-i)) (.int i) G Q := fun H Q' e l => ⟨i, rfl, l _ G H e q⟩
theorem er_I0 {g : Int → Int → V} {i j : Int} (q : Q (g i j) G) : Er (rI0 g) (.int i) (.int j) G Q := fun H Q' e l => ⟨i, j, rfl, rfl, l _ G H e q⟩
theorem er_I {C : Int → Int → Prop} {g : Int → Int → V} {i j : Int} (c : C i j) (q : Q (g i j) G) : Er (rI C g) (.int i) (.int j) G Q := fun H Q' e l => ⟨i, j, rfl, rfl, c, l _ G H e q⟩
/-- by cases -/
def rOr (r r' : R2) : R2 := fun x y H Q => r x y H Q ∨ r' x y H Q
theorem er_orL {r r' : R2} {x y : V} (h : Er r x y G Q) : Er (rOr r r') x y G Q := fun H Q' e l => .inl (h H Q' e l)
theorem er_orR {r r' : R2} {x y : V} (h : Er r' x y G Q) : Er (rOr r r') x y G Q := fun H Q' e l => .inr (h H Q' e l)
theorem opr_or {X : Cx} {f : Value → Value → Sem Value} {r r' : R2} (h : OpR X f r) (h' : OpR X f r') : OpR X f (rOr r r') := h.or h'
/-! plus -/
def rIAdd : R2 := rI0 fun i j => .int (i + j)
def rSAdd : R2 := fun x y H Q => ∃ i j, x = .str i ∧ y = .str j ∧ i.length + j.length ≤ sizeLine ∧ Q (.str (i ++ j)) H
def rAddU (K : PySem.W.Frag) : R2 := rOr rIAdd (rOr rSAdd (rOr rCat (rCatT K)))
theorem op_addU {X : Cx} : OpR X (binaryOp .Add) (rAddU X.K) := opr_or op_add (opr_or op_add_str (opr_or op_cat op_catT))
theorem er_addI {K : PySem.W.Frag} {i j : Int} (q : Q (.int (i + j)) G) : Er (rAddU K) (.int i) (.int j) G Q := er_orL (er_I0 (g := fun i j => .int (i + j)) q)
theorem er_addS {K : PySem.W.Frag} {i j : Str} (hz : i.length + j.length ≤ sizeLine) (q : Q (.str (i ++ j)) G) : Er (rAddU K) (.str i) (.str j) G Q :=
  er_orR (er_orL fun H Q' e l => ⟨i, j, rfl, rfl, hz, l _ G H e q⟩)
theorem er_addL {K : PySem.W.Frag} {a b : Addr} {xs ys : List V} (ha : G a = some (.lst xs)) (hb : G b = some (.lst ys)) (hz : xs.length + ys.length ≤ sizeLine) (q : ∀ p, G p = none → Q (.ref p) (upd G p (.lst (xs ++ ys)))) :
    Er (rAddU K) (.ref a) (.ref b) G Q :=
  er_orR (er_orR (er_orL fun H Q' e l => ⟨a, b, xs, ys, rfl, rfl, e _ _ ha, e _ _ hb, hz, fun p hp => l _ _ _ e.put (q p (e.nul hp))⟩))
theorem er_addT {K : PySem.W.Frag} {a b : Addr} {xs ys : List V} (ha : SqT K G a xs) (hb : SqT K G b ys) (hx : xs ≠ []) (hy : ys ≠ []) (hz : xs.length + ys.length ≤ sizeLine) (q : ∀ p, G p = none → Q (.ref p) (upd G p (.tup (xs ++ ys)))) :
    Er (rAddU K) (.ref a) (.ref b) G Q :=
  er_orR (er_orR (er_orR fun H Q' e l => ⟨a, b, xs, ys, rfl, rfl, e.st ha, e.st hb, hx, hz, fun h => absurd h hy, fun _ p hp => l _ _ _ e.put (q p (e.nul hp))⟩))
/-! minus, times, floor, rest, power -/
def rSubI : R2 := rI0 fun i j => .int (i - j)
theorem op_subI {X : Cx} : OpR X (binaryOp .Sub) rSubI := op_sub
theorem er_subI {i j : Int} (q : Q (.int (i - j)) G) : Er rSubI (.int i) (.int j) G Q := er_I0 (g := fun i j => .int (i - j)) q
def rMulI : R2 := rOr (rI CMul fun i j => .int (i * j)) (rI CMulW fun i j => .int (i * j))
def rMulU : R2 := rOr rMulI rRep
theorem op_mulU {X : Cx} : OpR X (binaryOp .Mult) rMulU := opr_or (opr_or op_mul op_mulW) op_rep
theorem er_mulL {i j : Int} (h : -(2 ^ 64) < i ∧ i < 2 ^ 64) (q : Q (.int (i * j)) G) : Er rMulU (.int i) (.int j) G Q := er_orL (er_orL (er_I (C := CMul) (g := fun i j => .int (i * j)) (.inl h) q))
theorem er_mulR {i j : Int} (h : -(2 ^ 64) < j ∧ j < 2 ^ 64) (q : Q (.int (i * j)) G) : Er rMulU (.int i) (.int j) G Q := er_orL (er_orL (er_I (C := CMul) (g := fun i j => .int (i * j)) (.inr h) q))
theorem er_mulW {i j : Int} (h : CMulW i j) (q : Q (.int (i * j)) G) : Er rMulU (.int i) (.int j) G Q := er_orL (er_orR (er_I (C := CMulW) (g := fun i j => .int (i * j)) h q))
theorem er_rep {a : Addr} {k : Int} {xs : List V} (ha : G a = some (.lst xs)) (h1 : -(2 ^ 63) ≤ k) (h2 : k < 2 ^ 63) (hz : xs.length * k.toNat ≤ sizeLine) (q : ∀ p, G p = none → Q (.ref p) (upd G p (.lst (List.replicate k.toNat xs).flatten))) :
    Er rMulU (.ref a) (.int k) G Q := er_orR fun H Q' e l => ⟨a, k, xs, rfl, rfl, e _ _ ha, h1, h2, hz, fun p hp => l _ _ _ e.put (q p (e.nul hp))⟩
def rDivU : R2 := rOr (rI CDiv fun i j => .int (i / j)) (rI CDivW fun i j => .int (i / j))
theorem op_divU {X : Cx} : OpR X (binaryOp .FloorDiv) rDivU := opr_or op_fdiv op_fdivW
theorem er_div {i j : Int} (h : 0 < j ∧ j < 1073741824) (q : Q (.int (i / j)) G) : Er rDivU (.int i) (.int j) G Q := er_orL (er_I (C := CDiv) (g := fun i j => .int (i / j)) h q)
theorem er_divW {i j : Int} (h : CDivW i j) (q : Q (.int (i / j)) G) : Er rDivU (.int i) (.int j) G Q := er_orR (er_I (C := CDivW) (g := fun i j => .int (i / j)) h q)
def rModU : R2 := rI (fun _ j => 0 < j) fun i j => .int (i % j)
theorem op_modU {X : Cx} : OpR X (binaryOp .Mod) rModU := op_mod
theorem er_mod {i j : Int} (h : 0 < j) (q : Q (.int (i % j)) G) : Er rModU (.int i) (.int j) G Q := er_I (C := fun _ j => 0 < j) (g := fun i j => .int (i % j)) h q
def rPowU : R2 := rI CPow fun i j => .int (i ^ j.toNat)
theorem op_powU {X : Cx} : OpR X (binaryOp .Pow) rPowU := op_pow
theorem er_pow {i j : Int} (h : 0 ≤ j ∧ j ≤ 1000000 ∧ i.natAbs < 2 ^ 64) (q : Q (.int (i ^ j.toNat)) G) : Er rPowU (.int i) (.int j) G Q := er_I (C := CPow) (g := fun i j => .int (i ^ j.toNat)) h q
/-! comparisons -/
def rEqU (K : PySem.W.Frag) : R2 := rOr rEq (rEqD K)
def rNeU (K : PySem.W.Frag) : R2 := rOr rNe (rNeD K)
theorem op_eqU {X : Cx} (hu : X.A.units + 64 < cLine) : OpR X (compareOp .Eq) (rEqU X.K) := opr_or op_eq (op_eqD hu)
theorem op_neU {X : Cx} (hu : X.A.units + 64 < cLine) : OpR X (compareOp .NotEq) (rNeU X.K) := opr_or op_ne (op_neD hu)
theorem er_eqI {K : PySem.W.Frag} {i j : Int} (q : Q (.bl (decide (i = j))) G) : Er (rEqU K) (.int i) (.int j) G Q := er_orL fun H Q' e l => ⟨rfl, l _ G H e (by
  rw [show decide (V.int i = V.int j) = decide (i = j) by rw [dec_int]; exact Bool.beq_eq_decide_eq i j]; exact q)⟩
theorem er_neI {K : PySem.W.Frag} {i j : Int} (q : Q (.bl (!decide (i = j))) G) : Er (rNeU K) (.int i) (.int j) G Q := er_orL fun H Q' e l => ⟨rfl, l _ G H e (by
  rw [show decide (V.int i = V.int j) = decide (i = j) by rw [dec_int]; exact Bool.beq_eq_decide_eq i j]; exact q)⟩
theorem er_eqS {K : PySem.W.Frag} {i j : Str} (q : Q (.bl (decide (i = j))) G) : Er (rEqU K) (.str i) (.str j) G Q := er_orL fun H Q' e l => ⟨rfl, l _ G H e (by
  rw [show decide (V.str i = V.str j) = decide (i = j) by by_cases h : i = j <;> simp [h]]; exact q)⟩
theorem er_neS {K : PySem.W.Frag} {i j : Str} (q : Q (.bl (!decide (i = j))) G) : Er (rNeU K) (.str i) (.str j) G Q := er_orL fun H Q' e l => ⟨rfl, l _ G H e (by
  rw [show decide (V.str i = V.str j) = decide (i = j) by by_cases h : i = j <;> simp [h]]; exact q)⟩
theorem er_eqB {K : PySem.W.Frag} {i j : Bool} (q : Q (.bl (decide (i = j))) G) : Er (rEqU K) (.bl i) (.bl j) G Q := er_orL fun H Q' e l => ⟨rfl, l _ G H e (by
  rw [show decide (V.bl i = V.bl j) = decide (i = j) by by_cases h : i = j <;> simp [h]]; exact q)⟩
theorem er_neB {K : PySem.W.Frag} {i j : Bool} (q : Q (.bl (!decide (i = j))) G) : Er (rNeU K) (.bl i) (.bl j) G Q := er_orL fun H Q' e l => ⟨rfl, l _ G H e (by
  rw [show decide (V.bl i = V.bl j) = decide (i = j) by by_cases h : i = j <;> simp [h]]; exact q)⟩
theorem er_eqD {K : PySem.W.Frag} {x y : V} {d d' : PyData} (h : Dp K G x d) (h' : Dp K G y d') (s : SeqAt.shaped d = true) (s' : SeqAt.shaped d' = true) (q : Q (.bl (PyData.eqv d d')) G) : Er (rEqU K) x y G Q :=
  er_orR fun H Q' e l => ⟨d, d', e.dp h, e.dp h', s, s', l _ G H e q⟩
theorem er_neD {K : PySem.W.Frag} {x y : V} {d d' : PyData} (h : Dp K G x d) (h' : Dp K G y d') (s : SeqAt.shaped d = true) (s' : SeqAt.shaped d' = true) (q : Q (.bl (!PyData.eqv d d')) G) : Er (rNeU K) x y G Q :=
  er_orR fun H Q' e l => ⟨d, d', e.dp h, e.dp h', s, s', l _ G H e q⟩
def rLtI : R2 := rI0 fun i j => .bl (decide (i < j))
def rLeI : R2 := rI0 fun i j => .bl (decide (i ≤ j))
def rGtI : R2 := rI0 fun i j => .bl (decide (j < i))
def rGeI : R2 := rI0 fun i j => .bl (decide (j ≤ i))
def rLtU (K : PySem.W.Frag) : R2 := rOr rLtI (rLtT K)
theorem op_ltU {X : Cx} (hu : X.A.units < cLine) : OpR X (compareOp .Lt) (rLtU X.K) := opr_or op_lt (op_ltT hu)
theorem op_leU {X : Cx} : OpR X (compareOp .LtE) rLeI := op_le
theorem op_gtU {X : Cx} : OpR X (compareOp .Gt) rGtI := op_gt
theorem op_geU {X : Cx} : OpR X (compareOp .GtE) rGeI := op_ge
theorem er_lt {K : PySem.W.Frag} {i j : Int} (q : Q (.bl (decide (i < j))) G) : Er (rLtU K) (.int i) (.int j) G Q := er_orL (er_I0 (g := fun i j => .bl (decide (i < j))) q)
theorem er_le {i j : Int} (q : Q (.bl (decide (i ≤ j))) G) : Er rLeI (.int i) (.int j) G Q := er_I0 (g := fun i j => .bl (decide (i ≤ j))) q
theorem er_gt {i j : Int} (q : Q (.bl (decide (j < i))) G) : Er rGtI (.int i) (.int j) G Q := er_I0 (g := fun i j => .bl (decide (j < i))) q
theorem er_ge {i j : Int} (q : Q (.bl (decide (j ≤ i))) G) : Er rGeI (.int i) (.int j) G Q := er_I0 (g := fun i j => .bl (decide (j ≤ i))) q
theorem er_isN {x : V} (q : Q (.bl (decide (x = .non))) G) : Er rIsN x .non G Q := fun H Q' e l => ⟨rfl, l _ G H e q⟩
theorem er_notN {x : V} (q : Q (.bl (!decide (x = .non))) G) : Er rNotN x .non G Q := fun H Q' e l => ⟨rfl, l _ G H e q⟩
def rInU (K : PySem.W.Frag) : R2 := rOr (rIn K false) (rInD K)
def rNotInU (K : PySem.W.Frag) : R2 := rOr (rIn K true) (rNotInD K)
theorem op_inU {X : Cx} (hu : X.A.units + 65 < cLine) : OpR X (compareOp .In) (rInU X.K) := opr_or op_in_seq (op_inD hu)
theorem op_notInU {X : Cx} (hu : X.A.units + 65 < cLine) : OpR X (compareOp .NotIn) (rNotInU X.K) := opr_or op_notIn_seq (op_notInD hu)
theorem er_in {K : PySem.W.Frag} {x : V} {p : Addr} {xs : List V} (h : SqL K G p xs ∨ SqT K G p xs) (fx : flatV x = true) (fs : xs.all flatV = true) (q : Q (.bl (inV x xs)) G) : Er (rInU K) x (.ref p) G Q :=
  er_orL fun H Q' e l => ⟨p, xs, rfl, h.elim (fun z => .inl (e.sl z)) (fun z => .inr (e.st z)), fx, fs, l _ G H e q⟩
theorem er_notIn {K : PySem.W.Frag} {x : V} {p : Addr} {xs : List V} (h : SqL K G p xs ∨ SqT K G p xs) (fx : flatV x = true) (fs : xs.all flatV = true) (q : Q (.bl (!inV x xs)) G) : Er (rNotInU K) x (.ref p) G Q :=
  er_orL fun H Q' e l => ⟨p, xs, rfl, h.elim (fun z => .inl (e.sl z)) (fun z => .inr (e.st z)), fx, fs, l _ G H e q⟩
theorem er_inD {K : PySem.W.Frag} {x y : V} {d : PyData} {ds : List PyData} (h : Dp K G x d) (h' : Dp K G y (.list ds)) (s : SeqAt.shaped d = true) (s' : SeqAt.shaped (.list ds) = true) (q : Q (.bl (ds.any fun z => PyData.eqv z d)) G) : Er (rInU K) x y G Q :=
  er_orR fun H Q' e l => ⟨d, ds, e.dp h, e.dp h', s, s', l _ G H e q⟩
theorem er_notInD {K : PySem.W.Frag} {x y : V} {d : PyData} {ds : List PyData} (h : Dp K G x d) (h' : Dp K G y (.list ds)) (s : SeqAt.shaped d = true) (s' : SeqAt.shaped (.list ds) = true) (q : Q (.bl (!ds.any fun z => PyData.eqv z d)) G) : Er (rNotInU K) x y G Q :=
  er_orR fun H Q' e l => ⟨d, ds, e.dp h, e.dp h', s, s', l _ G H e q⟩
/-! subscripts -/
theorem er_ixL {K : PySem.W.Frag} {p : Addr} {i : Int} {xs : List V} {v : V} (h : SqL K G p xs) (a : atI xs i = some v) (q : Q v G) : Er (rIx K) (.ref p) (.int i) G Q :=
  fun H Q' e l => .inl ⟨p, xs, i, v, rfl, rfl, e.sl h, a, l _ G H e q⟩
theorem er_ixT {K : PySem.W.Frag} {p : Addr} {i : Int} {xs : List V} {v : V} (h : SqT K G p xs) (a : atI xs i = some v) (q : Q v G) : Er (rIx K) (.ref p) (.int i) G Q :=
  fun H Q' e l => .inr (.inl ⟨p, xs, i, v, rfl, rfl, e.st h, a, l _ G H e q⟩)
theorem er_ixS {K : PySem.W.Frag} {z : Str} {i : Int} {c : Nat} (h : z.length ≤ sizeLine) (a : atI z.cps.toList i = some c) (q : Q (.str ⟨#[c]⟩) G) : Er (rIx K) (.str z) (.int i) G Q :=
  fun H Q' e l => .inr (.inr ⟨z, i, c, rfl, rfl, h, a, l _ G H e q⟩)
/-! slices -/
def rwOr (r r' : V → Option Int → Option Int → Hp → VK → Prop) : V → Option Int → Option Int → Hp → VK → Prop := fun x lo hi H Q => r x lo hi H Q ∨ r' x lo hi H Q
def rSlU (K : PySem.W.Frag) := rwOr (rSlL K) rSlS
theorem sl_U {X : Cx} : SlR X (rSlU X.K) := sl_list.or sl_str
theorem ee_sl {r : V → Option Int → Option Int → Hp → VK → Prop} {te : TE} {tl th : TO} (h : Ee te σ G fun x G1 => Eo tl σ G1 fun lo G2 => Eo th σ G2 fun hi G3 => Ew r x lo hi G3 Q) : Ee (tSl r te tl th) σ G Q := fun H Q' e l =>
  h H _ e fun x G1 H1 e1 h1 => h1 H1 _ e1 fun lo G2 H2 e2 h2 => h2 H2 _ e2 fun hi G3 H3 e3 h3 => h3 H3 Q' e3 l
theorem eo_no {Q : Option Int → Hp → Prop} (q : Q none G) : Eo tNoPart σ G Q := fun H Q' e l => l none G H e q
theorem eo_part {t : TE} {Q : Option Int → Hp → Prop} (h : Ee t σ G fun x G1 => ∃ i, x = .int i ∧ Q (some i) G1) : Eo (tPart t) σ G Q := fun H Q' e l =>
  h H _ e fun x G1 H1 e1 ⟨i, hx, q⟩ => ⟨i, hx, l (some i) G1 H1 e1 q⟩
theorem ew_L {K : PySem.W.Frag} {a : Addr} {xs : List V} {lo hi : Option Int} (h : SqL K G a xs) (q : ∀ p, G p = none → Q (.ref p) (upd G p (.lst (cutV xs lo hi)))) : Ew (rSlU K) (.ref a) lo hi G Q :=
  fun H Q' e l => .inl ⟨a, xs, rfl, e.sl h, fun p hp => l _ _ _ e.put (q p (e.nul hp))⟩
theorem ew_S {K : PySem.W.Frag} {z : Str} {lo hi : Option Int} (h : z.length ≤ sizeLine) (q : Q (.str (cutS z lo hi)) G) : Ew (rSlU K) (.str z) lo hi G Q :=
  fun H Q' e l => .inr ⟨z, rfl, h, l _ G H e q⟩
/-! displays -/
theorem ee_tup {t : TA} (h : Ea t σ G fun xs G1 => xs.length ≤ sizeLine ∧ ∀ p, G1 p = none → Q (.ref p) (upd G1 p (.tup xs))) : Ee (tTup t) σ G Q := fun H Q' e l =>
  h H _ e fun xs G1 H1 e1 ⟨z, q⟩ => ⟨z, fun p hp => l _ _ _ e1.put (q p (e1.nul hp))⟩
theorem ee_lst {t : TA} (h : Ea t σ G fun xs G1 => xs.length ≤ sizeLine ∧ ∀ p, G1 p = none → Q (.ref p) (upd G1 p (.lst xs))) : Ee (tLst t) σ G Q := fun H Q' e l =>
  h H _ e fun xs G1 H1 e1 ⟨z, q⟩ => ⟨z, fun p hp => l _ _ _ e1.put (q p (e1.nul hp))⟩
/-! tests -/
theorem et_test {te : TE} {Q : Bool → Hp → Prop} (h : Ee te σ G fun v G1 => ∃ b, v = .bl b ∧ Q b G1) : Et (tTest te) σ G Q := fun H Q' e l =>
  h H _ e fun v G1 H1 e1 ⟨b, hb, q⟩ => ⟨b, hb, l b G1 H1 e1 q⟩
theorem et_tB {te : TE} {Q : Bool → Hp → Prop} (h : Ee te σ G fun v G1 => ∃ b, v = .bl b ∧ Q b G1) : Et (tB te) σ G Q := fun H Q' e l =>
  h H _ e fun v G1 H1 e1 ⟨b, hb, q⟩ => ⟨b, hb, l b G1 H1 e1 q⟩
theorem et_and {t u : TT} {Q : Bool → Hp → Prop} (h : Et t σ G fun b G1 => if b = true then Et u σ G1 Q else Q false G1) : Et (tAnd t u) σ G Q := fun H Q' e l =>
  h H _ e fun b G1 H1 e1 h1 => by
    cases b with
    | true => exact h1 H1 Q' e1 l
    | false => exact l false G1 H1 e1 h1
theorem et_or {t u : TT} {Q : Bool → Hp → Prop} (h : Et t σ G fun b G1 => if b = true then Q true G1 else Et u σ G1 Q) : Et (tOr t u) σ G Q := fun H Q' e l =>
  h H _ e fun b G1 H1 e1 h1 => by
    cases b with
    | true => exact l true G1 H1 e1 h1
    | false => exact h1 H1 Q' e1 l
theorem et_not {t : TT} {Q : Bool → Hp → Prop} (h : Et t σ G fun b G1 => Q (!b) G1) : Et (tNot t) σ G Q := fun H Q' e l =>
  h H _ e fun b G1 H1 e1 h1 => l (!b) G1 H1 e1 h1
theorem truv_up {K : PySem.W.Frag} {x : V} {G H : Hp} {k : Bool} (e : Ex G H) (h : TruV K x G k) : TruV K x H k := by
  cases x with
  | ref p =>
    rcases h with ⟨xs, s, q⟩ | ⟨xs, s, q⟩ | ⟨kvs, s, q⟩
    · exact .inl ⟨xs, e.sl s, q⟩
    · exact .inr (.inl ⟨xs, e.st s, q⟩)
    · exact .inr (.inr ⟨kvs, e _ _ s, q⟩)
  | _ => exact h
theorem et_tru {K : PySem.W.Frag} {ta : TE} {Q : Bool → Hp → Prop} (h : Ee ta σ G fun x G1 => ∃ k, TruV K x G1 k ∧ Q k G1) : Et (tTru K ta) σ G Q := fun H Q' e l =>
  h H _ e fun x G1 H1 e1 ⟨k, hk, q⟩ => ⟨k, truv_up e1 hk, l k G1 H1 e1 q⟩
theorem pt_tru {X : Cx} {a : Expr} {ta : TE} (ha : PE X a ta) (he : ∀ whole, isTrue a X.env whole = (do let v ← whole; standAt a.pos; holding [v] (truthy v)) := by intro _; rfl) : PT X a (tTru X.K ta) := pt_truth ha he
/-! values of and, or, not, if -/
theorem ee_and {ta tb : TE} (h : Ee ta σ G fun x G1 => ∃ b, x = .bl b ∧ if b = true then Ee tb σ G1 Q else Q (.bl false) G1) : Ee (tAndV ta tb) σ G Q := fun H Q' e l =>
  h H _ e fun x G1 H1 e1 ⟨b, hb, h1⟩ => ⟨b, hb, by
    cases b with
    | true => exact h1 H1 Q' e1 l
    | false => exact l _ G1 H1 e1 h1⟩
theorem ee_or {ta tb : TE} (h : Ee ta σ G fun x G1 => ∃ b, x = .bl b ∧ if b = true then Q (.bl true) G1 else Ee tb σ G1 Q) : Ee (tOrV ta tb) σ G Q := fun H Q' e l =>
  h H _ e fun x G1 H1 e1 ⟨b, hb, h1⟩ => ⟨b, hb, by
    cases b with
    | true => exact l _ G1 H1 e1 h1
    | false => exact h1 H1 Q' e1 l⟩
theorem ee_not {ta : TE} (h : Ee ta σ G fun x G1 => ∃ b, x = .bl b ∧ Q (.bl (!b)) G1) : Ee (tNotV ta) σ G Q := fun H Q' e l =>
  h H _ e fun x G1 H1 e1 ⟨b, hb, h1⟩ => ⟨b, hb, l _ G1 H1 e1 h1⟩
theorem ee_if {t : TT} {ta tb : TE} (h : Et t σ G fun b G1 => if b = true then Ee ta σ G1 Q else Ee tb σ G1 Q) : Ee (tIf t ta tb) σ G Q := fun H Q' e l =>
  h H _ e fun b G1 H1 e1 h1 => by
    cases b with
    | true => exact h1 H1 Q' e1 l
    | false => exact h1 H1 Q' e1 l
/-- two comparisons in a chain -/
theorem ee_chain {r r' : R2} {ta tb tc : TE} (h : Ee ta σ G fun x G1 => Ee tb σ G1 fun y G2 => Er r x y G2 fun z G3 => ∃ k, z = .bl k ∧ if k = true then Ee tc σ G3 fun w G4 => Er r' y w G4 Q else Q (.bl false) G3) : Ee (tChain r r' ta tb tc) σ G Q := fun H Q' e l =>
  h H _ e fun x G1 H1 e1 h1 => h1 H1 _ e1 fun y G2 H2 e2 h2 => h2 H2 _ e2 fun z G3 H3 e3 ⟨k, hk, h3⟩ => ⟨k, hk, by
    cases k with
    | true => exact h3 H3 _ e3 fun w G4 H4 e4 h4 => h4 H4 Q' e4 l
    | false => exact l _ G3 H3 e3 h3⟩
/-! calls of builtins, methods of builtins -/
theorem ee_cb {r : List V → Hp → VK → Prop} {t : TA} (h : Ea t σ G fun vs G1 => Ec r vs G1 Q) : Ee (tCB r t) σ G Q := fun H Q' e l =>
  h H _ e fun vs G1 H1 e1 h1 => h1 H1 Q' e1 l
def rcOr (r r' : List V → Hp → VK → Prop) : List V → Hp → VK → Prop := fun xs H Q => r xs H Q ∨ r' xs H Q
theorem ec_orL {r r' : List V → Hp → VK → Prop} {x : List V} (h : Ec r x G Q) : Ec (rcOr r r') x G Q := fun H Q' e l => .inl (h H Q' e l)
theorem ec_orR {r r' : List V → Hp → VK → Prop} {x : List V} (h : Ec r' x G Q) : Ec (rcOr r r') x G Q := fun H Q' e l => .inr (h H Q' e l)
def rLenU (K : PySem.W.Frag) : List V → Hp → VK → Prop := fun xs H Q => ∃ x n, xs = [x] ∧ LenV K x H n ∧ (n ≤ sizeLine → Q (.int n) H)
theorem call_lenU {X : Cx} : CallR X (.builtin "len") (rLenU X.K) := by
  intro pins s σ H xs us Q I r h
  obtain ⟨x, n, rfl, hL, q⟩ := h
  have hn : n ≤ sizeLine := by
    cases x with
    | str y => exact hL.2 ▸ hL.1
    | byt y => exact hL.2 ▸ hL.1
    | ref p =>
      rcases hL with ⟨xs, h, rfl⟩ | ⟨xs, h, rfl⟩
      · obtain ⟨_, _, _, z⟩ := I.list h; exact z
      · obtain ⟨_, _, _, z⟩ := I.tuple h; exact z
    | _ => exact hL.elim
  exact call_len pins s σ H _ us Q I r ⟨x, n, rfl, hL, q hn⟩
theorem ec_lenL {K : PySem.W.Frag} {p : Addr} {xs : List V} (h : SqL K G p xs) (q : xs.length ≤ sizeLine → Q (.int xs.length) G) : Ec (rLenU K) [.ref p] G Q := fun H Q' e l => ⟨_, _, rfl, .inl ⟨xs, e.sl h, rfl⟩, fun z => l _ G H e (q z)⟩
theorem ec_lenT {K : PySem.W.Frag} {p : Addr} {xs : List V} (h : SqT K G p xs) (q : xs.length ≤ sizeLine → Q (.int xs.length) G) : Ec (rLenU K) [.ref p] G Q := fun H Q' e l => ⟨_, _, rfl, .inr ⟨xs, e.st h, rfl⟩, fun z => l _ G H e (q z)⟩
theorem ec_lenS {K : PySem.W.Frag} {z : Str} (h : z.length ≤ sizeLine) (q : Q (.int z.length) G) : Ec (rLenU K) [.str z] G Q := fun H Q' e l => ⟨_, _, rfl, ⟨h, rfl⟩, fun _ => l _ G H e q⟩
def rInt1 : List V → Hp → VK → Prop := fun xs H Q => (∃ i, xs = [.int i] ∧ Q (.int i) H) ∨ ∃ k, xs = [.bl k] ∧ Q (.int (if k then 1 else 0)) H
theorem call_intU {X : Cx} : CallR X (.type "int") rInt1 := call_int1
theorem ec_int {i : Int} (q : Q (.int i) G) : Ec rInt1 [.int i] G Q := fun H Q' e l => .inl ⟨i, rfl, l _ G H e q⟩
theorem ec_intB {k : Bool} (q : Q (.int (if k then 1 else 0)) G) : Ec rInt1 [.bl k] G Q := fun H Q' e l => .inr ⟨k, rfl, l _ G H e q⟩
def rListU (K : PySem.W.Frag) : List V → Hp → VK → Prop := fun xs H Q => ∃ p ys, xs = [.ref p] ∧ (SqL K H p ys ∨ SqT K H p ys) ∧ ∀ l, H l = none → Q (.ref l) (upd H l (.lst ys))
theorem call_listU {X : Cx} : CallR X (.type "list") (rListU X.K) := call_list_of
theorem ec_list {K : PySem.W.Frag} {p : Addr} {ys : List V} (h : SqL K G p ys ∨ SqT K G p ys) (q : ∀ l, G l = none → Q (.ref l) (upd G l (.lst ys))) : Ec (rListU K) [.ref p] G Q := fun H Q' e l =>
  ⟨p, ys, rfl, h.elim (fun z => .inl (e.sl z)) (fun z => .inr (e.st z)), fun a ha => l _ _ _ e.put (q a (e.nul ha))⟩
def rTupU (K : PySem.W.Frag) : List V → Hp → VK → Prop := fun xs H Q => ∃ p ys, xs = [.ref p] ∧ ((SqL K H p ys ∧ ∀ l, H l = none → Q (.ref l) (upd H l (.tup ys))) ∨ (SqT K H p ys ∧ Q (.ref p) H))
theorem call_tupU {X : Cx} : CallR X (.type "tuple") (rTupU X.K) := call_tuple_of
theorem ec_tupL {K : PySem.W.Frag} {p : Addr} {ys : List V} (h : SqL K G p ys) (q : ∀ l, G l = none → Q (.ref l) (upd G l (.tup ys))) : Ec (rTupU K) [.ref p] G Q := fun H Q' e l =>
  ⟨p, ys, rfl, .inl ⟨e.sl h, fun a ha => l _ _ _ e.put (q a (e.nul ha))⟩⟩
theorem ec_tupT {K : PySem.W.Frag} {p : Addr} {ys : List V} (h : SqT K G p ys) (q : Q (.ref p) G) : Ec (rTupU K) [.ref p] G Q := fun H Q' e l => ⟨p, ys, rfl, .inr ⟨e.st h, l _ G H e q⟩⟩
def rMax2U : List V → Hp → VK → Prop := fun xs H Q => ∃ i j, xs = [.int i, .int j] ∧ Q (.int (if j > i then j else i)) H
def rMin2U : List V → Hp → VK → Prop := fun xs H Q => ∃ i j, xs = [.int i, .int j] ∧ Q (.int (if j < i then j else i)) H
theorem call_max2U {X : Cx} (hc : X.calm = true) : CallR X (.builtin "max") rMax2U := call_max2 hc
theorem call_min2U {X : Cx} (hc : X.calm = true) : CallR X (.builtin "min") rMin2U := call_min2 hc
theorem ec_max2 {i j : Int} (q : Q (.int (if j > i then j else i)) G) : Ec rMax2U [.int i, .int j] G Q := fun H Q' e l => ⟨i, j, rfl, l _ G H e q⟩
theorem ec_min2 {i j : Int} (q : Q (.int (if j < i then j else i)) G) : Ec rMin2U [.int i, .int j] G Q := fun H Q' e l => ⟨i, j, rfl, l _ G H e q⟩
def rOrdU : List V → Hp → VK → Prop := fun xs H Q => ∃ x : Str, xs = [.str x] ∧ x.length = 1 ∧ Q (.int (x.cps.getD 0 0 : Nat)) H
theorem call_ordU {X : Cx} : CallR X (.builtin "ord") rOrdU := call_ord
theorem ec_ord {x : Str} (h : x.length = 1) (q : Q (.int (x.cps.getD 0 0 : Nat)) G) : Ec rOrdU [.str x] G Q := fun H Q' e l => ⟨x, rfl, h, l _ G H e q⟩
/-! isinstance -/
def rIsiU (K : PySem.W.Frag) := rcOr (rIsi K) (rIsiT K)
theorem call_isiU {X : Cx} : CallR X (.builtin "isinstance") (rIsiU X.K) := CallR.or call_isi call_isiT
theorem tyof_up {K : PySem.W.Frag} {G H : Hp} {x : V} {t : Value} (e : Ex G H) (h : TyOf K G x t) : TyOf K H x t := by
  cases h with
  | non => exact .non
  | bl x => exact .bl x
  | int x => exact .int x
  | str x => exact .str x
  | flt x => exact .flt x
  | lst h => exact .lst (e _ _ h)
  | frz h => exact .frz (e _ _ h)
  | tup h => exact .tup (e _ _ h)
  | dK h => exact .dK (e _ _ h)
  | dT h => exact .dT (e _ _ h)
  | ins h a b c d e0 => exact .ins (e _ _ h) a b c d e0
theorem tyx_up {K : PySem.W.Frag} {G H : Hp} {x : V} {t : Value} (e : Ex G H) (h : TyX K G x t) : TyX K H x t := by
  cases h with
  | base h => exact .base (tyof_up e h)
  | byt b => exact .byt b
  | set h => exact .set (e _ _ h)
  | kList h c => exact .kList h c
  | kTuple h c => exact .kTuple h c
  | kDict h c => exact .kDict h c
  | fTuple h => exact .fTuple (e _ _ h)
  | fDict h => exact .fDict (e _ _ h)
theorem tyx_l {K : PySem.W.Frag} {p : Addr} {xs : List V} (h : SqL K G p xs) : TyX K G (.ref p) (.type "list") := by
  rcases h with (h | ⟨o, h⟩) | ⟨o, its, n, h, c, _⟩
  · exact .base (.lst h)
  · exact .base (.frz h)
  · exact .kList h c
theorem tyx_t {K : PySem.W.Frag} {p : Addr} {xs : List V} (h : SqT K G p xs) : TyX K G (.ref p) (.type "tuple") := by
  rcases h with (h | ⟨o, h⟩) | ⟨o, its, n, h, c, _⟩
  · exact .base (.tup h)
  · exact .fTuple h
  · exact .kTuple h c
theorem ec_isi {K : PySem.W.Frag} {x : V} {a b : String} {r : Bool} (h : TyX K G x (.type a)) (k : kitB a b = some r) (q : Q (.bl r) G) : Ec (rIsiU K) [x, .ty b] G Q :=
  ec_orL fun H Q' e l => ⟨x, .ty b, _, _, r, rfl, .ty b, tyx_up e h, kit_ty k, l _ G H e q⟩
theorem ec_isi2 {K : PySem.W.Frag} {x : V} {tp : Addr} {a b c : String} {r r' : Bool} (h : TyX K G x (.type a)) (ht : G tp = some (.tup [.ty b, .ty c])) (k : kitB a b = some r) (k' : kitB a c = some r') (q : Q (.bl (r || r')) G) : Ec (rIsiU K) [x, .ref tp] G Q :=
  ec_orR fun H Q' e l => ⟨x, tp, _, _, _, r || r', rfl, e _ _ ht, .cons (.ty b) (.cons (.ty c) .nil), tyx_up e h, by
    refine kitAny_cons (b := r) (kit_ty k) (fun h0 => ?_) (fun h1 => by rw [h1]; rfl)
    rw [h0]
    refine kitAny_cons (b := r') (kit_ty k') (fun h0 => ?_) (fun h1 => by rw [h1]; rfl)
    rw [h0]; rfl, l _ G H e q⟩
/-! own defs -/
/-- a promise over known heaps: arguments, known heap, what is wanted, what is wanted of an exception -/
abbrev Pm := List V → Hp → (V → Hp → Prop) → XK → Prop
def up (S : Pm) : Sp := fun vs H Q E => ∃ G Q0 E0, Ex G H ∧ S vs G Q0 E0 ∧ (∀ v G' H', Ex G' H' → Q0 v G' → Q v H') ∧ (∀ c d G' H', Ex G' H' → E0 c d G' → E c d H')
def dn (E : XK) : XK := fun c d G => ∀ H, Ex G H → E c d H
theorem ee_call {S : Pm} {dvs : List V} {E : XK} {t : TA} (h : Ea t σ G fun vs G1 => S (vs ++ dvs) G1 Q (dn E)) : Ee (tCall (up S) dvs E t) σ G Q := fun H Q' e l =>
  h H _ e fun vs G1 H1 e1 h1 => ⟨G1, Q, dn E, e1, h1, l, fun c d G' H' e' h' => h' H' e'⟩
theorem ee_meth {C : Addr} {m : Str} {S : Pm} {dvs : List V} {E : XK} {ta : TE} {t : TA}
    (h : Ee ta σ G fun x G1 => ∃ a dx fs, x = .ref a ∧ G1 a = some (.ins C dx fs) ∧ fs.lookup m = none ∧ Ea t σ G1 fun vs G2 => S (x :: (vs ++ dvs)) G2 Q (dn E)) : Ee (tMeth C m (up S) dvs E ta t) σ G Q := fun H Q' e l =>
  h H _ e fun x G1 H1 e1 ⟨a, dx, fs, h1, h2, h3, h4⟩ => ⟨a, dx, fs, h1, e1 _ _ h2, h3, h4 H1 _ e1 fun vs G2 H2 e2 h5 => ⟨G2, Q, dn E, e2, h5, l, fun c d G' H' e' h' => h' H' e'⟩⟩
theorem ee_make {C : Addr} {S : Pm} {dvs : List V} {E : XK} {t : TA}
    (h : Ea t σ G fun vs G1 => ∀ x dx, G1 x = none → G1 dx = none → dx ≠ x → S (.ref x :: (vs ++ dvs)) (upd (upd G1 dx (.own x)) x (.ins C dx [])) (fun v G2 => v = .non ∧ Q (.ref x) G2) (dn E)) : Ee (tMake C (up S) dvs E t) σ G Q := fun H Q' e l =>
  h H _ e fun vs G1 H1 e1 h1 x dx hx hd hn => ⟨_, _, dn E, e1.put.put, h1 x dx (e1.nul hx) (e1.nul hd) hn, fun v G' H' e' ⟨hv, q⟩ => ⟨hv, l _ G' H' e' q⟩, fun c d G' H' e' h' => h' H' e'⟩
/-! fields -/
theorem ee_fld {K : PySem.W.Frag} {ta : TE} {f : Str} (h : Ee ta σ G fun x G1 => ∃ a C dx fs v, x = .ref a ∧ G1 a = some (.ins C dx fs) ∧ Cls K C ∧ NoAttr K C f ∧ fs.lookup f = some v ∧ Q v G1) : Ee (tFld K ta f) σ G Q := fun H Q' e l =>
  h H _ e fun x G1 H1 e1 ⟨a, C, dx, fs, v, h1, h2, h3, h4, h5, q⟩ => ⟨a, C, dx, fs, v, h1, e1 _ _ h2, h3, h4, h5, l _ G1 H1 e1 q⟩
/-! methods of builtins -/
theorem tyv_up {K : PySem.W.Frag} {T : String} {x : V} {H : Hp} (e : Ex G H) (h : tyV K T x G) : tyV K T x H := by
  cases x with
  | ref p =>
    rcases h with ⟨a, xs, s⟩ | h | ⟨a, (⟨kvs, s⟩ | ⟨kvs, s⟩)⟩ | ⟨a, S, n, s⟩
    · exact .inl ⟨a, xs, e.sl s⟩
    · exact .inr (.inl h)
    · exact .inr (.inr (.inl ⟨a, .inl ⟨kvs, e _ _ s⟩⟩))
    · exact .inr (.inr (.inl ⟨a, .inr ⟨kvs, e _ _ s⟩⟩))
    · exact .inr (.inr (.inr ⟨a, S, n, e _ _ s⟩))
  | _ => exact h
theorem ee_bm {K : PySem.W.Frag} {T : String} {r : V → List V → Hp → VK → Prop} {to : TE} {t : TA} (h : Ee to σ G fun x G1 => tyV K T x G1 ∧ Ea t σ G1 fun xs G2 => Em r x xs G2 Q) : Ee (tBM K T r to t) σ G Q := fun H Q' e l =>
  h H _ e fun x G1 H1 e1 ⟨ty, h1⟩ => ⟨tyv_up e1 ty, h1 H1 _ e1 fun xs G2 H2 e2 h2 => h2 H2 Q' e2 l⟩
theorem ee_bm0 {K : PySem.W.Frag} {T : String} {r : V → List V → Hp → VK → Prop} {to : TE} (h : Ee to σ G fun x G1 => tyV K T x G1 ∧ Em r x [] G1 Q) : Ee (tBM0 K T r to) σ G Q := fun H Q' e l =>
  h H _ e fun x G1 H1 e1 ⟨ty, h1⟩ => ⟨tyv_up e1 ty, h1 H1 Q' e1 l⟩
theorem ty_list {K : PySem.W.Frag} {p : Addr} {xs : List V} (h : SqL K G p xs) : tyV K "list" (.ref p) G := .inl ⟨rfl, xs, h⟩
theorem ty_lst {K : PySem.W.Frag} {p : Addr} {xs : List V} (h : G p = some (.lst xs)) : tyV K "list" (.ref p) G := .inl ⟨rfl, xs, SqL.of h⟩
theorem em_append {p : Addr} {xs : List V} {y : V} (h : G p = some (.lst xs)) (hz : xs.length < sizeLine) (q : Q .non (upd G p (.lst (xs ++ [y])))) : Em rAppend (.ref p) [y] G Q := fun H Q' e l =>
  ⟨p, xs, y, rfl, rfl, e _ _ h, hz, l _ _ _ e.put q⟩
theorem em_extend {p b : Addr} {xs ys : List V} (h : G p = some (.lst xs)) (hb : G b = some (.lst ys)) (hz : xs.length + ys.length ≤ sizeLine) (q : Q .non (upd G p (.lst (xs ++ ys)))) : Em rExtend (.ref p) [.ref b] G Q := fun H Q' e l =>
  ⟨p, b, xs, ys, rfl, rfl, e _ _ h, e _ _ hb, hz, l _ _ _ e.put q⟩
/-- sep.join(list) -/
def rJoinU (K : PySem.W.Frag) : V → List V → Hp → VK → Prop := fun x xs H Q => ∃ a p, ∃ ys : List Str, x = .str a ∧ xs = [.ref p] ∧ (SqL K H p (ys.map V.str) ∨ SqT K H p (ys.map V.str)) ∧ (ys.map (·.length)).sum + ys.length * a.length ≤ 16777216 ∧ Q (.str (Txt.join a ys)) H
theorem mt_joinU {X : Cx} : MtR X "str.join" (rJoinU X.K) := mt_join
theorem ee_m1 {r : V → List V → Hp → VK → Prop} {to te : TE} (h : Ee to σ G fun x G1 => (∃ a, x = .str a) ∧ Ee te σ G1 fun y G2 => Em r x [y] G2 Q) : Ee (tM1 r to te) σ G Q := fun H Q' e l =>
  h H _ e fun x G1 H1 e1 ⟨a, h1⟩ => ⟨a, h1 H1 _ e1 fun y G2 H2 e2 h2 => h2 H2 Q' e2 l⟩
theorem em_join {K : PySem.W.Frag} {a : Str} {p : Addr} {ys : List Str} (h : SqL K G p (ys.map V.str)) (hz : (ys.map (·.length)).sum + ys.length * a.length ≤ 16777216) (q : Q (.str (Txt.join a ys)) G) : Em (rJoinU K) (.str a) [.ref p] G Q := fun H Q' e l =>
  ⟨a, p, ys, rfl, rfl, .inl (e.sl h), hz, l _ G H e q⟩
end

/-! ## statements -/
section
variable {σ : L2.St} {G G' : Hp} {D : Ek}
theorem lf_nx {D : Ek} {D' : Ends} {N : L2.St → Hp → Prop} {N' : L2.St → Hp → Prop} (l : Lf D D') (h : ∀ σ G H, Ex G H → N σ G → N' σ H) : Lf { D with nx := N } { D' with nx := N' } := ⟨h, l.rt, l.bk, l.ct⟩
theorem es_seq {t u : TS} (h : Es t { D with nx := fun σ' G' => Es u D σ' G' } σ G) : Es (tSeq t u) D σ G := fun H D' e l =>
  h H { D' with nx := u D' } e ⟨fun σ' G1 H1 e1 h1 => h1 H1 D' e1 l, l.rt, l.bk, l.ct⟩
theorem es_next (q : D.nx σ G) : Es tNext D σ G := fun H D' e l => l.nx _ _ _ e q
theorem es_brk (q : D.bk σ G) : Es tBreak D σ G := fun H D' e l => l.bk _ _ _ e q
theorem es_cont (q : D.ct σ G) : Es tCont D σ G := fun H D' e l => l.ct _ _ _ e q
theorem es_ret {te : TE} (h : Ee te σ G D.rt) : Es (tRet te) D σ G := fun H D' e l => h H _ e l.rt
theorem es_retN (q : D.rt .non G) : Es tRetN D σ G := fun H D' e l => l.rt _ _ _ e q
theorem es_drop {te : TE} (h : Ee te σ G fun _ G1 => D.nx σ G1) : Es (tDrop te) D σ G := fun H D' e l => h H _ e fun v G1 H1 e1 q => l.nx _ _ _ e1 q
theorem es_asg {te : TE} {g : TG} (h : Ee te σ G fun v G1 => Eg g v σ G1 D.nx) : Es (tAsg te g) D σ G := fun H D' e l =>
  h H _ e fun v G1 H1 e1 h1 => h1 H1 _ e1 l.nx
theorem es_if {c : TT} {t u : TS} (h : Et c σ G fun b G1 => if b = true then Es t D σ G1 else Es u D σ G1) : Es (tIfS c t u) D σ G := fun H D' e l =>
  h H _ e fun b G1 H1 e1 h1 => by
    cases b with
    | true => exact h1 H1 D' e1 l
    | false => exact h1 H1 D' e1 l
theorem es_aug {i : Nat} {te : TE} {ti : TIp} {v : V} (hv : σ[i]? = some (some v)) (h : Ee te σ G fun y G1 => Eip ti v y G1 fun z G2 => D.nx (σ.set i (some z)) G2) : Es (tAug i te ti) D σ G := fun H D' e l =>
  ⟨v, hv, h H _ e fun y G1 H1 e1 h1 => h1 H1 _ e1 fun z G2 H2 e2 q => l.nx _ _ _ e2 q⟩
theorem ip_I {f : Int → Int → Int} {i j : Int} {Q : V → Hp → Prop} (q : Q (.int (f i j)) G) : Eip (ipI f) (.int i) (.int j) G Q := fun H Q' e l => ⟨i, j, rfl, rfl, l _ G H e q⟩
/-! targets -/
theorem eg_name {i : Nat} {v : V} {Q : L2.St → Hp → Prop} (q : Q (σ.set i (some v)) G) : Eg (gName i) v σ G Q := fun H Q' e l => l _ G H e q
theorem eg_tup {K : PySem.W.Frag} {n : Nat} {t : TGs} {a : Addr} {xs : List V} {Q : L2.St → Hp → Prop} (h : SqT K G a xs) (hn : xs.length = n) (q : Egs t xs σ G Q) : Eg (gTup K n t) (.ref a) σ G Q := fun H Q' e l =>
  ⟨a, xs, rfl, e.st h, hn, q H Q' e l⟩
theorem egs_nil {Q : L2.St → Hp → Prop} (q : Q σ G) : Egs gNil [] σ G Q := fun H Q' e l => ⟨rfl, l _ G H e q⟩
theorem egs_cons {t : TG} {u : TGs} {v : V} {r : List V} {Q : L2.St → Hp → Prop} (h : Eg t v σ G fun σ' G' => Egs u r σ' G' Q) : Egs (gCons t u) (v :: r) σ G Q := fun H Q' e l =>
  ⟨v, r, rfl, h H _ e fun σ1 G1 H1 e1 h1 => h1 H1 Q' e1 l⟩
theorem eg_sub {to ti : TE} {t : TSet} {v : V} {Q : L2.St → Hp → Prop} (h : Ee to σ G fun o G1 => Ee ti σ G1 fun i G2 => Ez t o i v G2 fun G3 => Q σ G3) : Eg (gSub to ti t) v σ G Q := fun H Q' e l =>
  h H _ e fun o G1 H1 e1 h1 => h1 H1 _ e1 fun i G2 H2 e2 h2 => h2 H2 _ e2 fun G3 H3 e3 q => l _ G3 H3 e3 q
theorem ez_L {p : Addr} {k : Int} {j : Nat} {xs : List V} {v : V} {Q : Hp → Prop} (h : G p = some (.lst xs)) (hk : ixN xs.length k = some j) (q : Q (upd G p (.lst (xs.set j v)))) : Ez rSetL (.ref p) (.int k) v G Q := fun H Q' e l =>
  ⟨p, xs, k, j, rfl, rfl, e _ _ h, hk, l _ _ e.put q⟩
/-- xs[i] op= e -/
def rGetL (K : PySem.W.Frag) : V → V → Hp → VK → Prop := fun x y H Q => ∃ p xs i v, x = .ref p ∧ y = .int i ∧ SqL K H p xs ∧ 0 ≤ i ∧ xs[i.toNat]? = some v ∧ Q v H
theorem pget_list {X : Cx} : PGet X (rGetL X.K) := by
  intro pins s σ H o i ov iv Q I rx ry h
  obtain ⟨p, xs, k, v, rfl, rfl, hq, h0, hv, q⟩ := h
  cases rx
  obtain ⟨t, rfl⟩ := ry
  obtain ⟨its, r, pl, hz⟩ := I.list hq
  obtain ⟨w, ew, rw'⟩ := r.get hv
  have hlt := (List.getElem?_eq_some_iff.mp hv).1
  have hn := line63
  exact wpAny_getItem_list pl.isList h0 (by omega) (by simpa using ew) ⟨v, H, I, rw', q⟩
theorem es_augS {to ti te : TE} {tget : V → V → Hp → VK → Prop} {tip : TIp} {tset : TSet}
    (h : Ee to σ G fun o G1 => Ee ti σ G1 fun i G2 => Er tget o i G2 fun x G3 => Ee te σ G3 fun y G4 => Eip tip x y G4 fun z G5 => Ez tset o i z G5 fun G6 => D.nx σ G6) : Es (tAugS to ti te tget tip tset) D σ G := fun H D' e l =>
  h H _ e fun o G1 H1 e1 h1 => h1 H1 _ e1 fun i G2 H2 e2 h2 => h2 H2 _ e2 fun x G3 H3 e3 h3 => h3 H3 _ e3 fun y G4 H4 e4 h4 => h4 H4 _ e4 fun z G5 H5 e5 h5 => h5 H5 _ e5 fun G6 H6 e6 q => l.nx _ _ _ e6 q
theorem er_getL {K : PySem.W.Frag} {p : Addr} {i : Int} {xs : List V} {v : V} {Q : V → Hp → Prop} (h : SqL K G p xs) (h0 : 0 ≤ i) (a : xs[i.toNat]? = some v) (q : Q v G) : Er (rGetL K) (.ref p) (.int i) G Q :=
  fun H Q' e l => ⟨p, xs, i, v, rfl, rfl, e.sl h, h0, a, l _ G H e q⟩
/-! fields stored -/
theorem es_fld {K : PySem.W.Frag} {ta tv : TE} {f : Str} (h : Ee tv σ G fun y G1 => Ee ta σ G1 fun x G2 => ∃ a C dx fs, x = .ref a ∧ G2 a = some (.ins C dx fs) ∧ Cls K C ∧ NoAttr K C f ∧ fs.length < 1000 ∧ D.nx σ (upd G2 a (.ins C dx (putF f y fs)))) : Es (sFld K ta tv f) D σ G := fun H D' e l =>
  h H _ e fun y G1 H1 e1 h1 => h1 H1 _ e1 fun x G2 H2 e2 ⟨a, C, dx, fs, h2, h3, h4, h5, h6, q⟩ => ⟨a, C, dx, fs, h2, e2 _ _ h3, h4, h5, h6, l.nx _ _ _ e2.put q⟩
/-! while -/
theorem es_while {c : TT} {tb : TS} (W : Nat → L2.St → Hp → Prop) (m0 : Nat) (h0 : W m0 σ G)
    (hs : ∀ m σ G, W m σ G → Et c σ G fun b G1 => if b = true then Es tb { D with nx := fun σ' G' => ∃ m', m' < m ∧ W m' σ' G', ct := fun σ' G' => ∃ m', m' < m ∧ W m' σ' G', bk := D.nx } σ G1 else D.nx σ G1) : Es (tWhile c tb) D σ G := fun H D' e l => by
  refine ⟨fun m σ H => ∃ G, Ex G H ∧ W m σ G, ⟨m0, G, e, h0⟩, ?_⟩
  rintro m σ1 H1 ⟨G1, e1, w⟩
  refine hs m σ1 G1 w H1 _ e1 fun b G2 H2 e2 h2 => ?_
  cases b with
  | true =>
    refine ⟨fun σ' H' => ∃ G', Ex G' H' ∧ ∃ m', m' < m ∧ W m' σ' G', fun σ' H' ⟨G', e', m', lt, w'⟩ => ⟨m', lt, G', e', w'⟩, ?_⟩
    exact h2 H2 _ e2 ⟨fun σ G H e q => ⟨G, e, q⟩, l.rt, l.nx, fun σ G H e q => ⟨G, e, q⟩⟩
  | false => exact l.nx _ _ _ e2 h2
/-! what is walked -/
def Ei (wi : TI) (σ : L2.St) (G : Hp) (R : It → Hp → Prop) : Prop := ∀ (H : Hp) (R' : It → Hp → Prop), Ex G H → (∀ J G' H', Ex G' H' → R J G' → R' J H') → wi σ H R'
/-- n turns while Gd holds of the known heap; at turn i it yields as Y tells -/
structure Wk (J : It) (n : Nat) (Gd : Hp → Prop) (Y : Nat → Hp → V → Hp → Prop) : Prop where
  goes : ∀ i G H, i < n → Gd G → Ex G H → J.go i H
  stops : ∀ G H, Gd G → Ex G H → J.stop n H
  yields : ∀ i G H x H', i < n → Gd G → Ex G H → J.yld i H x H' → ∃ G', Ex G' H' ∧ Y i G x G'
/-- the i-th value, the heap as it was -/
def YV (f : Nat → Option V) : Nat → Hp → V → Hp → Prop := fun i G x G' => G' = G ∧ f i = some x
/-- a new pair -/
def YP (f g : Nat → Option V) : Nat → Hp → V → Hp → Prop := fun i G v G' => ∃ T x y, v = .ref T ∧ G T = none ∧ G' = upd G T (.tup [x, y]) ∧ f i = some x ∧ g i = some y
theorem es_for {wi : TI} {g : TG} {tb : TS}
    (h : Ei wi σ G fun J G1 => ∃ n Gd Y, Wk J n Gd Y ∧ ∃ Pv : Nat → L2.St → Hp → Prop, Pv 0 σ G1 ∧ (∀ i σ G, i ≤ n → Pv i σ G → Gd G) ∧
      (∀ i x σ G G', i < n → Pv i σ G → Y i G x G' → Eg g x σ G' fun σ2 G2 => Es tb { D with nx := Pv (i + 1), ct := Pv (i + 1), bk := D.nx } σ2 G2) ∧ (∀ σ G, Pv n σ G → D.nx σ G)) : Es (tFor wi g tb) D σ G := fun H D' e l => by
  refine h H _ e ?_
  rintro J G1 H1 e1 ⟨n, Gd, Y, wk, Pv, h0, hG, hs, hd⟩
  refine ⟨fun i m σ H => m = n - i ∧ i ≤ n ∧ ∃ G, Ex G H ∧ Pv i σ G, ⟨n, by simp, Nat.zero_le _, G1, e1, h0⟩, ?_⟩
  rintro i m σ2 H2 ⟨rfl, hi, G2, e2, p⟩
  have q := hG i σ2 G2 hi p
  by_cases hlt : i < n
  · refine .inr ⟨wk.goes i G2 H2 hlt q e2, fun σ' H' => ∃ G', Ex G' H' ∧ Pv (i + 1) σ' G', fun σ' H' ⟨G', e', p'⟩ => ⟨n - (i + 1), by omega, rfl, hlt, G', e', p'⟩, fun x H' y => ?_⟩
    obtain ⟨G3, e3, y3⟩ := wk.yields i G2 H2 x H' hlt q e2 y
    refine hs i x σ2 G2 G3 hlt p y3 H' _ e3 fun σ4 G4 H4 e4 h4 => ?_
    exact h4 H4 _ e4 ⟨fun σ G H e q => ⟨G, e, q⟩, l.rt, l.nx, fun σ G H e q => ⟨G, e, q⟩⟩
  · have en : i = n := by omega
    subst en
    exact .inl ⟨wk.stops G2 H2 q e2, l.nx _ _ _ e2 (hd σ2 G2 p)⟩
section
variable {K : PySem.W.Frag} {a b : Addr} {xs ys : List V}
theorem wk_list : Wk (Itl K a) xs.length (fun G => SqL K G a xs) (YV fun i => xs[i]?) :=
  ⟨fun i G H hi q e => ⟨xs, xs[i], e.sl q, by simp [hi]⟩, fun G H q e => ⟨xs, e.sl q, Nat.le_refl _⟩, fun i G H x H' hi q e y => ⟨G, by rw [y.1]; exact e, rfl, y.2 xs (e.sl q)⟩⟩
theorem wk_tup : Wk (Itt K a) xs.length (fun G => SqT K G a xs) (YV fun i => xs[i]?) :=
  ⟨fun i G H hi q e => ⟨xs, xs[i], e.st q, by simp [hi]⟩, fun G H q e => ⟨xs, e.st q, Nat.le_refl _⟩, fun i G H x H' hi q e y => ⟨G, by rw [y.1]; exact e, rfl, y.2 xs (e.st q)⟩⟩
theorem wk_range {lo : Int} {n : Nat} : Wk (Itr lo n) n (fun _ => True) (YV fun i => some (.int (lo + i))) :=
  ⟨fun _ _ _ hi _ _ => hi, fun _ _ _ _ => Nat.le_refl _, fun i G H x H' _ _ e y => ⟨G, by rw [y.1]; exact e, rfl, by rw [y.2]⟩⟩
theorem wk_rangeC {lo c : Int} {n : Nat} : Wk (Itc lo c n) n (fun _ => True) (YV fun i => some (.int (lo + (i : Nat) * c))) :=
  ⟨fun _ _ _ hi _ _ => hi, fun _ _ _ _ => Nat.le_refl _, fun i G H x H' _ _ e y => ⟨G, by rw [y.1]; exact e, rfl, by rw [y.2]⟩⟩
theorem wk_str {z : Str} : Wk (Its z) z.cps.size (fun _ => True) (YV fun i => z.cps[i]?.map fun c => .str ⟨#[c]⟩) :=
  ⟨fun _ _ _ hi _ _ => hi, fun _ _ _ _ => Nat.le_refl _, fun i G H x H' _ _ e y => ⟨G, by rw [y.1]; exact e, rfl, by obtain ⟨c, h1, h2⟩ := y.2; show Option.map _ _ = _; rw [h1, h2]; rfl⟩⟩
theorem wk_zip {n : Nat} (hn : n = min xs.length ys.length) : Wk (Itz K a b) n (fun G => SqL K G a xs ∧ SqL K G b ys) (YP (fun i => xs[i]?) (fun i => ys[i]?)) := by
  subst hn
  refine ⟨fun i G H hi q e => ?_, fun G H q e => ⟨xs, ys, e.sl q.1, e.sl q.2, by omega⟩, fun i G H v H' _ q e y => ?_⟩
  · have h1 : i < xs.length := by omega
    have h2 : i < ys.length := by omega
    exact ⟨xs, ys, xs[i], ys[i], e.sl q.1, e.sl q.2, by simp [h1], by simp [h2]⟩
  · obtain ⟨T, x, z, h1, h2, h3, h4, h5⟩ := y
    exact ⟨upd G T (.tup [x, z]), by rw [h3]; exact e.put, T, x, z, h1, e.nul h2, rfl, h4 xs (e.sl q.1), h5 ys (e.sl q.2)⟩
theorem wk_enum : Wk (Ite K a) xs.length (fun G => SqL K G a xs) (YP (fun i => some (.int (i : Nat))) (fun i => xs[i]?)) := by
  refine ⟨fun i G H hi q e => ⟨xs, xs[i], e.sl q, by simp [hi]⟩, fun G H q e => ⟨xs, e.sl q, Nat.le_refl _⟩, fun i G H v H' _ q e y => ?_⟩
  obtain ⟨T, x, h1, h2, h3, h4⟩ := y
  exact ⟨upd G T (.tup [.int (i : Nat), x]), by rw [h3]; exact e.put, T, .int (i : Nat), x, h1, e.nul h2, rfl, rfl, h4 xs (e.sl q)⟩
end
theorem ei_list {K : PySem.W.Frag} {tl : TE} {R : It → Hp → Prop} (h : Ee tl σ G fun x G1 => ∃ a xs, x = .ref a ∧ SqL K G1 a xs ∧ R (Itl K a) G1) : Ei (iList K tl) σ G R := fun H R' e l =>
  h H _ e fun x G1 H1 e1 ⟨a, xs, h1, h2, q⟩ => ⟨a, h1, ⟨xs, e1.sl h2⟩, l _ _ _ e1 q⟩
theorem ei_tup {K : PySem.W.Frag} {tl : TE} {R : It → Hp → Prop} (h : Ee tl σ G fun x G1 => ∃ a xs, x = .ref a ∧ SqT K G1 a xs ∧ R (Itt K a) G1) : Ei (iTup K tl) σ G R := fun H R' e l =>
  h H _ e fun x G1 H1 e1 ⟨a, xs, h1, h2, q⟩ => ⟨a, h1, ⟨xs, e1.st h2⟩, l _ _ _ e1 q⟩
theorem ei_r1 {ta : TA} {R : It → Hp → Prop} (h : Ea ta σ G fun vs G1 => ∃ j : Int, vs = [.int j] ∧ -(2 ^ 62) ≤ j ∧ j < 2 ^ 62 ∧ R (Itr 0 j.toNat) G1) : Ei (iRng1 ta) σ G R := fun H R' e l =>
  h H _ e fun vs G1 H1 e1 ⟨j, h1, h2, h3, q⟩ => ⟨j, h1, h2, h3, l _ _ _ e1 q⟩
theorem ei_r2 {ta : TA} {R : It → Hp → Prop} (h : Ea ta σ G fun vs G1 => ∃ i j : Int, vs = [.int i, .int j] ∧ (-(2 ^ 62) ≤ i ∧ i < 2 ^ 62 ∧ -(2 ^ 62) ≤ j ∧ j < 2 ^ 62) ∧ R (Itr i (j - i).toNat) G1) : Ei (iRng2 ta) σ G R := fun H R' e l =>
  h H _ e fun vs G1 H1 e1 ⟨i, j, h1, h2, q⟩ => ⟨i, j, h1, h2, l _ _ _ e1 q⟩
theorem ei_r3 {ta : TA} {R : It → Hp → Prop} (h : Ea ta σ G fun vs G1 => ∃ (i j c : Int) (n : Nat), vs = [.int i, .int j, .int c] ∧ RgC i j c n ∧ R (Itc i c n) G1) : Ei (iRng3 ta) σ G R := fun H R' e l =>
  h H _ e fun vs G1 H1 e1 ⟨i, j, c, n, h1, h2, q⟩ => ⟨i, j, c, n, h1, h2, l _ _ _ e1 q⟩
theorem ei_str {te : TE} {R : It → Hp → Prop} (h : Ee te σ G fun v G1 => ∃ x, v = .str x ∧ R (Its x) G1) : Ei (iStr te) σ G R := fun H R' e l =>
  h H _ e fun v G1 H1 e1 ⟨x, h1, q⟩ => ⟨x, h1, l _ _ _ e1 q⟩
theorem ei_zip {K : PySem.W.Frag} {ta : TA} {R : It → Hp → Prop} (h : Ea ta σ G fun vs G1 => ∃ a b xs ys, vs = [.ref a, .ref b] ∧ SqL K G1 a xs ∧ SqL K G1 b ys ∧ R (Itz K a b) G1) : Ei (iZip K ta) σ G R := fun H R' e l =>
  h H _ e fun vs G1 H1 e1 ⟨a, b, xs, ys, h1, h2, h3, q⟩ => ⟨a, b, xs, ys, h1, e1.sl h2, e1.sl h3, l _ _ _ e1 q⟩
theorem ei_enum {K : PySem.W.Frag} {ta : TA} {R : It → Hp → Prop} (h : Ea ta σ G fun vs G1 => ∃ a xs, vs = [.ref a] ∧ SqL K G1 a xs ∧ R (Ite K a) G1) : Ei (iEnum K ta) σ G R := fun H R' e l =>
  h H _ e fun vs G1 H1 e1 ⟨a, xs, h1, h2, q⟩ => ⟨a, xs, h1, e1.sl h2, l _ _ _ e1 q⟩
/-! comprehensions: Pv by the turn, the list so far, the known heap without it; p is its place -/
theorem ee_lc {wi : TI} {g : TG} {tt : TT} {te : TE} {vs : List Nat} {Q : V → Hp → Prop}
    (h : Ei wi σ G fun J G1 => ∃ n Gd Y, Wk J n Gd Y ∧ (∀ G p o, Gd G → G p = none → Gd (upd G p o)) ∧ ∀ p, G1 p = none → ∃ Pv : Nat → List V → Hp → Prop, Pv 0 [] G1 ∧ (∀ i acc G, i ≤ n → Pv i acc G → G p = none ∧ acc.length < sizeLine ∧ Gd G) ∧
      (∀ i acc x G G', i < n → Pv i acc G → Y i (upd G p (.lst acc)) x G' → Eg g x (wipe σ vs) G' fun σ2 G2 => wipe σ2 vs = wipe σ vs ∧ Et tt σ2 G2 fun b G3 =>
        if b = true then Ee te σ2 G3 fun y G4 => G4 p = some (.lst acc) ∧ ∃ G5, Ex (upd G5 p (.lst acc)) G4 ∧ Pv (i + 1) (acc ++ [y]) G5 else G3 p = some (.lst acc) ∧ ∃ G5, Ex (upd G5 p (.lst acc)) G3 ∧ Pv (i + 1) acc G5) ∧
      (∀ acc G, Pv n acc G → Q (.ref p) (upd G p (.lst acc)))) : Ee (tLc wi g tt te vs) σ G Q := fun H Q' e l => by
  refine h H _ e ?_
  rintro J G1 H1 e1 ⟨n, Gd, Y, wk, gd, hh⟩ p hp
  obtain ⟨Pv, h0, hG, hs, hd⟩ := hh p (e1.nul hp)
  refine ⟨fun i m H => m = n - i ∧ i ≤ n ∧ ∃ G acc, Ex (upd G p (.lst acc)) H ∧ Pv i acc G, ⟨n, by simp, Nat.zero_le _, G1, [], e1.put, h0⟩, ?_⟩
  rintro i m H2 ⟨rfl, hi, G2, acc, e2, pv⟩
  obtain ⟨gp, gz, gg⟩ := hG i acc G2 hi pv
  have q := gd _ p (.lst acc) gg gp
  by_cases hlt : i < n
  · refine .inr ⟨wk.goes i _ H2 hlt q e2, fun H' => ∃ G acc, Ex (upd G p (.lst acc)) H' ∧ Pv (i + 1) acc G, fun H' ⟨G', acc', e', p'⟩ => ⟨n - (i + 1), by omega, rfl, hlt, G', acc', e', p'⟩, fun x H' y => ?_⟩
    obtain ⟨G3, e3, y3⟩ := wk.yields i _ H2 x H' hlt q e2 y
    refine hs i acc x G2 G3 hlt pv y3 H' _ e3 fun σ4 G4 H4 e4 ⟨hw, h4⟩ => ⟨hw, ?_⟩
    refine h4 H4 _ e4 fun b G5 H5 e5 h5 => ?_
    cases b with
    | true =>
      refine h5 H5 _ e5 fun y G6 H6 e6 ⟨ha, G7, e7, p7⟩ => ⟨acc, e6 _ _ ha, gz, G7, _, ?_, p7⟩
      have := (e7.trans e6).put (p := p) (o := .lst (acc ++ [y]))
      rwa [upd_upd] at this
    | false =>
      obtain ⟨ha, G7, e7, p7⟩ := h5
      exact ⟨G7, acc, e7.trans e5, p7⟩
  · have en : i = n := by omega
    subst en
    exact .inl ⟨wk.stops _ H2 q e2, l _ _ _ e2 (hd acc G2 pv)⟩
theorem et_yes {Q : Bool → Hp → Prop} (q : Q true G) : Et tYes σ G Q := fun H Q' e l => l true G H e q
end
/-- a def's body, from its promise -/
theorem body_up {S : Pm} {t : TS} {N : List Str} (h : ∀ vs G Q E, S vs G Q E → Es t { nx := fun _ G' => Q .non G', rt := Q } (start N vs) G) : ∀ vs H Q E, up S vs H Q E → t { nx := fun _ H' => Q .non H', rt := Q } (start N vs) H := by
  rintro vs H Q E ⟨G, Q0, E0, e, hS, lq, le⟩
  exact h vs G Q0 E0 hS H _ e ⟨fun _ G H e q => lq _ _ _ e q, fun v G H e q => lq _ _ _ e q, fun _ _ _ _ z => z.elim, fun _ _ _ _ z => z.elim⟩
end Lw

namespace Lw
open PySem PySem.Spec PyProof.Rows L2
/-! ## defs by name -/
section
variable (P : Program) (w : World) (K : PySem.W.Frag) (mg : Str → Option Value) (base : Heap)
/-- the module's def x keeps the promise sp -/
structure Has (CX : CXT) (k : Nat) (x : Str) (ps : List Str) (sp : Sp) : Prop where
  ex : ∃ f fd, mg x = some (.ref f) ∧ PySem.W.keepIn K (.ref f) = true ∧ Binds K fd ps [] ∧ FnOk P w K mg base CX k f fd ps sp
/-- the method m of the class at C keeps it -/
structure HasM (CX : CXT) (k : Nat) (C : Addr) (m : Str) (ps : List Str) (sp : Sp) : Prop where
  ex : ∃ f fd, Meth K C m f ∧ Binds K fd ps [] ∧ FnOk P w K mg base CX k f fd ps sp
/-- the class at C is made by an __init__ that keeps it -/
structure HasI (CX : CXT) (k : Nat) (C : Addr) (ps : List Str) (sp : Sp) : Prop where
  ex : ∃ f fd, Mk K C f ∧ Binds K fd ps [] ∧ FnOk P w K mg base CX k f fd ps sp
end
/-- what the top has at a def's name -/
structure Fnd (K : PySem.W.Frag) (mg : Str → Option Value) (x : Str) (st : Stmt) : Prop where
  ex : ∃ f fd, mg x = some (.ref f) ∧ Fun K x x st f fd
/-- .. at a method's -/
structure FndM (K : PySem.W.Frag) (C : Addr) (m qual : Str) (st : Stmt) : Prop where
  ex : ∃ f fd, Meth K C m f ∧ Fun K m qual st f fd
/-- .. at a class's __init__ -/
structure FndI (K : PySem.W.Frag) (C : Addr) (qual : Str) (st : Stmt) : Prop where
  ex : ∃ f fd, Mk K C f ∧ Fun K "__init__" qual st f fd
section
variable {P : Program} {w : World} {K : PySem.W.Frag} {mg : Str → Option Value} {base : Heap}
abbrev BindOk (x qual : Str) (st : Stmt) (ps : List Str) : Prop := ∀ (kV doc pm : Value) (an : Option Addr) (cdv ct : Value) (us : List Value), us.length = ps.length → bindArgs (PySem.W.fnOf x qual (defArgs st) (defBody st) (defScope st) .none kV doc pm an cdv ct) ⟨us, []⟩ = pure (ps.zip us)
theorem fnok0 {x qual : Str} {st : Stmt} {f : Addr} {fd : FuncData} {N ps : List Str} {k : Nat} {S : Pm} {t : TS} (F : Fun K x qual st f fd) (sc : FnScope N ps (defScope st))
    (len : ∀ vs G Q E, S vs G Q E → vs.length = ps.length)
    (der : ∀ (f : Addr) (cdv : Value) (A : Around) (outer : List Env) (s : Shared) (H : Hp) (E : XK), Room k (A.deeper (envOfC qual (defScope st) s.heap.objs.size f cdv)) → PSs (cxOf CX0 P w K mg base N qual (defScope st) f cdv A outer s H E).nox (defBody st) t)
    (pure : ∀ vs G Q E, S vs G Q E → Es t { nx := fun _ G' => Q .non G', rt := Q } (start N vs) G) : FnOk P w K mg base CX0 (k + 1) f fd ps (up S) :=
  F.ok sc (fun vs H Q E ⟨G, Q0, E0, _, h, _⟩ => len vs G Q0 E0 h) fun cdv A outer s H vs Q E hr h => ⟨t, der f cdv A outer s H E hr, body_up pure vs H Q E h⟩
theorem Has.mk0 {x : Str} {st : Stmt} {N ps : List Str} {k : Nat} {S : Pm} {t : TS} (F : Fnd K mg x st) (sc : FnScope N ps (defScope st)) (hb : BindOk x x st ps)
    (len : ∀ vs G Q E, S vs G Q E → vs.length = ps.length)
    (der : ∀ (f : Addr) (cdv : Value) (A : Around) (outer : List Env) (s : Shared) (H : Hp) (E : XK), Room k (A.deeper (envOfC x (defScope st) s.heap.objs.size f cdv)) → PSs (cxOf CX0 P w K mg base N x (defScope st) f cdv A outer s H E).nox (defBody st) t)
    (pure : ∀ vs G Q E, S vs G Q E → Es t { nx := fun _ G' => Q .non G', rt := Q } (start N vs) G) : Has P w K mg base CX0 (k + 1) x ps (up S) := by
  obtain ⟨f, fd, hm, F⟩ := F.ex
  exact ⟨f, fd, hm, F.kp, F.binds hb, fnok0 F sc len der pure⟩
theorem HasM.mk0 {C : Addr} {m qual : Str} {st : Stmt} {N ps : List Str} {k : Nat} {S : Pm} {t : TS} (F : FndM K C m qual st) (sc : FnScope N ps (defScope st)) (hb : BindOk m qual st ps)
    (len : ∀ vs G Q E, S vs G Q E → vs.length = ps.length)
    (der : ∀ (f : Addr) (cdv : Value) (A : Around) (outer : List Env) (s : Shared) (H : Hp) (E : XK), Room k (A.deeper (envOfC qual (defScope st) s.heap.objs.size f cdv)) → PSs (cxOf CX0 P w K mg base N qual (defScope st) f cdv A outer s H E).nox (defBody st) t)
    (pure : ∀ vs G Q E, S vs G Q E → Es t { nx := fun _ G' => Q .non G', rt := Q } (start N vs) G) : HasM P w K mg base CX0 (k + 1) C m ps (up S) := by
  obtain ⟨f, fd, hm, F⟩ := F.ex
  exact ⟨f, fd, hm, F.binds hb, fnok0 F sc len der pure⟩
theorem HasI.mk0 {C : Addr} {qual : Str} {st : Stmt} {N ps : List Str} {k : Nat} {S : Pm} {t : TS} (F : FndI K C qual st) (sc : FnScope N ps (defScope st)) (hb : BindOk "__init__" qual st ps)
    (len : ∀ vs G Q E, S vs G Q E → vs.length = ps.length)
    (der : ∀ (f : Addr) (cdv : Value) (A : Around) (outer : List Env) (s : Shared) (H : Hp) (E : XK), Room k (A.deeper (envOfC qual (defScope st) s.heap.objs.size f cdv)) → PSs (cxOf CX0 P w K mg base N qual (defScope st) f cdv A outer s H E).nox (defBody st) t)
    (pure : ∀ vs G Q E, S vs G Q E → Es t { nx := fun _ G' => Q .non G', rt := Q } (start N vs) G) : HasI P w K mg base CX0 (k + 1) C ps (up S) := by
  obtain ⟨f, fd, hm, F⟩ := F.ex
  exact ⟨f, fd, hm, F.binds hb, fnok0 F sc len der pure⟩
/-- a promise that is never asked for -/
theorem Has.never {x : Str} {st : Stmt} {ps : List Str} {CX : CXT} {k : Nat} {S : Pm} (F : Fnd K mg x st) (hb : BindOk x x st ps) (no : ∀ vs G Q E, ¬ S vs G Q E) : Has P w K mg base CX k x ps (up S) := by
  obtain ⟨f, fd, hm, F⟩ := F.ex
  exact ⟨f, fd, hm, F.kp, F.binds hb, ⟨fun vs H Q E ⟨_, _, _, _, z, _⟩ => (no _ _ _ _ z).elim, fun _ _ _ _ _ _ _ _ _ _ _ _ _ ⟨_, _, _, _, z, _⟩ => (no _ _ _ _ z).elim⟩⟩
end
section
variable {X : Cx} {CX : CXT} {k : Nat} {C : Addr} {ps : List Str} {sp : Sp} {E : XK} {x m : Str} {p pos apos : Pos} {e o : Expr} {es : List Expr} {ta : TE} {t : TA}
theorem pe_callH (h : Has X.prog X.w X.K X.mg X.base CX k x ps sp) (hr : Room k X.A) (hg : Gl X x) (hx : Passes CX X E) (ha : PA X (e :: es) t)
    (hdb : (x == ("__debug__" : Str)) = false := by decide) (he : starEach (e :: es) X.env = (false, eval e X.env) :: starEach es X.env := by rfl) (hpl : (backTo pos (starEach es X.env)).any (·.1) = false := by rfl) :
    PE X (.Call (.Name x p) (e :: es) [] pos) (tCall sp [] E t) := by
  obtain ⟨f, fd, hm, kp, b, F⟩ := h.ex
  exact pe_call F hr hg hm kp b .nil hx ha hdb he hpl
theorem pe_callH0 (h : Has X.prog X.w X.K X.mg X.base CX k x ps sp) (hr : Room k X.A) (hg : Gl X x) (hx : Passes CX X E)
    (hdb : (x == ("__debug__" : Str)) = false := by decide) : PE X (.Call (.Name x p) [] [] pos) (tCall sp [] E tNil) := by
  obtain ⟨f, fd, hm, kp, b, F⟩ := h.ex
  exact pe_call0 F hr hg hm kp b .nil hx hdb
theorem pe_methH {pl : Sem Bool} (ho : PE X o ta) (c : Cls X.K C) (h : HasM X.prog X.w X.K X.mg X.base CX k C m ps sp) (hr : Room k X.A) (hx : Passes CX X E) (ha : PA X (e :: es) t)
    (hst : starEach (e :: es) X.env = (false, eval e X.env) :: starEach es X.env := by rfl) (hpl : (backTo pos (starEach es X.env)).any (·.1) = false := by rfl)
    (ht : eval (.Call (.Attribute o m apos) (e :: es) [] pos) X.env = (do
      let ov ← eval o X.env
      standAt apos.atName
      let (f, first) ← holding [ov] (getMethod ov m pl)
      callWith pos f first (backTo pos (starEach (e :: es) X.env)) (backToKw pos (keywordEach [] X.env))) := by rfl) :
    PE X (.Call (.Attribute o m apos) (e :: es) [] pos) (tMeth C m sp [] E ta t) := by
  obtain ⟨f, fd, hm, b, F⟩ := h.ex
  exact pe_meth ho c hm F hr b .nil hx ha hst hpl ht
theorem pe_methH0 {pl : Sem Bool} (ho : PE X o ta) (c : Cls X.K C) (h : HasM X.prog X.w X.K X.mg X.base CX k C m ps sp) (hr : Room k X.A) (hx : Passes CX X E)
    (ht : eval (.Call (.Attribute o m apos) [] [] pos) X.env = (do
      let ov ← eval o X.env
      standAt apos.atName
      let (f, first) ← holding [ov] (getMethod ov m pl)
      callWith pos f first (backTo pos (starEach [] X.env)) (backToKw pos (keywordEach [] X.env))) := by rfl) :
    PE X (.Call (.Attribute o m apos) [] [] pos) (tMeth C m sp [] E ta tNil) := by
  obtain ⟨f, fd, hm, b, F⟩ := h.ex
  exact pe_meth0 ho c hm F hr b .nil hx ht
theorem pe_makeH (h : HasI X.prog X.w X.K X.mg X.base CX k C ps sp) (hr : Room (k + 1) X.A) (hg : Gl X x) (hm : X.mg x = some (.ref C)) (hx : Passes CX X E) (ha : PA X (e :: es) t)
    (hdb : (x == ("__debug__" : Str)) = false := by decide) (he : starEach (e :: es) X.env = (false, eval e X.env) :: starEach es X.env := by rfl) (hpl : (backTo pos (starEach es X.env)).any (·.1) = false := by rfl) :
    PE X (.Call (.Name x p) (e :: es) [] pos) (tMake C sp [] E t) := by
  obtain ⟨f, fd, M, b, F⟩ := h.ex
  exact pe_make M F hr hg hm b .nil hx ha hdb he hpl
theorem pe_makeH0 (h : HasI X.prog X.w X.K X.mg X.base CX k C ps sp) (hr : Room (k + 1) X.A) (hg : Gl X x) (hm : X.mg x = some (.ref C)) (hx : Passes CX X E)
    (hdb : (x == ("__debug__" : Str)) = false := by decide) : PE X (.Call (.Name x p) [] [] pos) (tMake C sp [] E tNil) := by
  obtain ⟨f, fd, M, b, F⟩ := h.ex
  exact pe_make0 M F hr hg hm b .nil hx hdb
theorem rm64 {j : Nat} {A : Around} (r : Room j A) : A.units + 64 < cLine := r.units
theorem rm65 {j : Nat} {A : Around} (r : Room j A) : A.units + 65 < cLine := by have := r.un; omega
theorem rm0 {j : Nat} {A : Around} (r : Room j A) : A.units < cLine := r.units0
end
end Lw

namespace Lw
open PySem PySem.Spec PyProof.Rows L2
/-! ## ready forms -/
theorem ifd {P A B : Prop} [Decidable P] (h1 : P → A) (h2 : ¬ P → B) : if decide P = true then A else B := by
  by_cases h : P
  · rw [if_pos (decide_eq_true h)]; exact h1 h
  · rw [if_neg (by simp [h])]; exact h2 h
theorem ifnd {P A B : Prop} [Decidable P] (h1 : ¬ P → A) (h2 : P → B) : if (!decide P) = true then A else B := by
  by_cases h : P
  · rw [if_neg (by simp [h])]; exact h2 h
  · rw [if_pos (by simp [h])]; exact h1 h
theorem ite_nt {A B : Prop} (b : B) : if (!true) = true then A else B := by rw [if_neg (by decide)]; exact b
theorem ite_nf {A B : Prop} (a : A) : if (!false) = true then A else B := by rw [if_pos (by decide)]; exact a
theorem ift {c : Bool} {A B : Prop} (h : c = true) (a : A) : if c = true then A else B := by rw [if_pos h]; exact a
theorem iff_ {c : Bool} {A B : Prop} (h : c = false) (b : B) : if c = true then A else B := by rw [h]; exact iteF b
theorem ifb {c : Bool} {A B : Prop} (h1 : c = true → A) (h2 : c = false → B) : if c = true then A else B := by
  cases c with
  | true => exact iteT (h1 rfl)
  | false => exact iteF (h2 rfl)
theorem sz1000 {n : Nat} (h : n ≤ 1000) : n ≤ sizeLine := Nat.le_of_lt (small1000 h)
theorem szM {n : Nat} (h : n ≤ 16000000) : n ≤ sizeLine := Nat.le_trans h (by decide)
theorem szlt {n : Nat} (h : n < 16000000) : n < sizeLine := Nat.lt_of_lt_of_le h (by decide)
theorem line62 {n : Nat} (h : n ≤ sizeLine) : -(2 ^ 62) ≤ (n : Int) ∧ (n : Int) < 2 ^ 62 := by
  have : n ≤ 16777216 := by rw [← sizeLine_eq]; exact h
  omega
section
variable {σ : L2.St} {G : Hp} {D : Ek} {K : PySem.W.Frag}
theorem sqL_upd {a l : Addr} {o : HO} {xs : List V} (h : SqL K G l xs) (n : l ≠ a) : SqL K (upd G a o) l xs := by
  rcases h with (h | ⟨q, h⟩) | h
  · exact .inl (.inl (by rw [upd_ne n]; exact h))
  · exact .inl (.inr ⟨q, by rw [upd_ne n]; exact h⟩)
  · exact .inr h
theorem upd_comm {a b : Addr} {o u : HO} (h : a ≠ b) : upd (upd G a o) b u = upd (upd G b u) a o := by
  funext c; unfold upd; split
  · rename_i h1; subst h1; rw [if_neg (Ne.symm h)]
  · rfl
theorem get_new {a p : Addr} {o u : HO} (h : G a = some o) (n : G p = none) : upd G p u a = some o := by rw [upd_ne (ne_of_none h n)]; exact h
theorem get_ne {a p : Addr} {o u : HO} (h : G a = some o) (n : a ≠ p) : upd G p u a = some o := by rw [upd_ne n]; exact h
theorem nul_ne {a p : Addr} {u : HO} (h : G a = none) (n : a ≠ p) : upd G p u a = none := by rw [upd_ne n]; exact h
theorem ne_new {a p : Addr} {o : HO} (h : G a = some o) (n : G p = none) : a ≠ p := ne_of_none h n
theorem new_ne {a p : Addr} {o : HO} (h : G a = some o) (n : G p = none) : p ≠ a := (ne_of_none h n).symm
theorem nul_upd {a p : Addr} {u : HO} (h : upd G p u a = none) : G a = none := by
  by_cases q : a = p
  · subst q; rw [upd_same] at h; cases h
  · rw [upd_ne q] at h; exact h
theorem nul_updN {a p : Addr} {u : HO} (h : upd G p u a = none) : a ≠ p := by
  rintro rfl; rw [upd_same] at h; cases h
theorem er_isN_non {Q : V → Hp → Prop} (q : Q (.bl true) G) : Er rIsN .non .non G Q := er_isN q
theorem er_isN_bl {b : Bool} {Q : V → Hp → Prop} (q : Q (.bl false) G) : Er rIsN (.bl b) .non G Q := er_isN q
theorem er_isN_int {b : Int} {Q : V → Hp → Prop} (q : Q (.bl false) G) : Er rIsN (.int b) .non G Q := er_isN q
theorem er_isN_str {b : Str} {Q : V → Hp → Prop} (q : Q (.bl false) G) : Er rIsN (.str b) .non G Q := er_isN q
theorem er_isN_ref {b : Addr} {Q : V → Hp → Prop} (q : Q (.bl false) G) : Er rIsN (.ref b) .non G Q := er_isN q
theorem er_notN_non {Q : V → Hp → Prop} (q : Q (.bl false) G) : Er rNotN .non .non G Q := er_notN q
theorem er_notN_bl {b : Bool} {Q : V → Hp → Prop} (q : Q (.bl true) G) : Er rNotN (.bl b) .non G Q := er_notN q
theorem er_notN_int {b : Int} {Q : V → Hp → Prop} (q : Q (.bl true) G) : Er rNotN (.int b) .non G Q := er_notN q
theorem er_notN_str {b : Str} {Q : V → Hp → Prop} (q : Q (.bl true) G) : Er rNotN (.str b) .non G Q := er_notN q
theorem er_notN_ref {b : Addr} {Q : V → Hp → Prop} (q : Q (.bl true) G) : Er rNotN (.ref b) .non G Q := er_notN q
theorem tru_bl {b : Bool} {R : Bool → Prop} (q : R b) : ∃ k, TruV K (.bl b) G k ∧ R k := ⟨b, rfl, q⟩
theorem tru_int {b : Int} {R : Bool → Prop} (q : R (b != 0)) : ∃ k, TruV K (.int b) G k ∧ R k := ⟨_, rfl, q⟩
theorem tru_non {R : Bool → Prop} (q : R false) : ∃ k, TruV K .non G k ∧ R k := ⟨_, rfl, q⟩
theorem ex_bl {b : Bool} {R : Bool → Prop} (q : R b) : ∃ c, V.bl b = .bl c ∧ R c := ⟨b, rfl, q⟩
theorem ex_int {b : Int} {R : Int → Prop} (q : R b) : ∃ c, V.int b = .int c ∧ R c := ⟨b, rfl, q⟩
theorem ex_str {b : Str} {R : Str → Prop} (q : R b) : ∃ c, V.str b = .str c ∧ R c := ⟨b, rfl, q⟩
theorem ex_strx {b : Str} {R : Prop} (q : R) : (∃ c, V.str b = .str c) ∧ R := ⟨⟨b, rfl⟩, q⟩
theorem ex_ints1 {b : Int} {R : Int → Prop} (q : R b) : ∃ c, [V.int b] = [.int c] ∧ R c := ⟨b, rfl, q⟩
theorem ex_ints2 {a b : Int} {R : Int → Int → Prop} (q : R a b) : ∃ c d, [V.int a, V.int b] = [.int c, .int d] ∧ R c d := ⟨a, b, rfl, q⟩
def EsU (t : TS) (D : Ek) (σ : L2.St) (G : Hp) : Prop := Es t D σ G
theorem es_unf {t : TS} (h : EsU t D σ G) : Es t D σ G := h
/-! sequences of either sort -/
def Sq (K : PySem.W.Frag) (G : Hp) (a : Addr) (xs : List V) : Prop := SqL K G a xs ∨ SqT K G a xs
theorem ec_lenU {p : Addr} {xs : List V} {Q : V → Hp → Prop} (h : Sq K G p xs) (q : xs.length ≤ sizeLine → Q (.int xs.length) G) : Ec (rLenU K) [.ref p] G Q := h.elim (fun h => ec_lenL h q) fun h => ec_lenT h q
theorem er_ixU {p : Addr} {i : Int} {xs : List V} {v : V} {Q : V → Hp → Prop} (h : Sq K G p xs) (a : atI xs i = some v) (q : Q v G) : Er (rIx K) (.ref p) (.int i) G Q := h.elim (fun h => er_ixL h a q) fun h => er_ixT h a q
/-! data -/
theorem dp_list {v : V} {ds : List PyData} (h : Dp K G v (.list ds)) : ∃ a xs, v = .ref a ∧ SqL K G a xs ∧ DpAll K G xs ds := by cases h with | lst h1 h2 => exact ⟨_, _, rfl, h1, h2⟩
theorem dp_tup {v : V} {ds : List PyData} (h : Dp K G v (.tuple ds)) : ∃ a xs, v = .ref a ∧ SqT K G a xs ∧ DpAll K G xs ds := by cases h with | tup h1 h2 => exact ⟨_, _, rfl, h1, h2⟩
theorem dps_len : ∀ {xs : List V} {ds : List PyData}, DpAll K G xs ds → xs.length = ds.length
  | _, _, .nil => rfl
  | _, _, .cons _ t => by rw [List.length_cons, List.length_cons, dps_len t]
theorem dps_get : ∀ {xs : List V} {ds : List PyData} {i : Nat} {d : PyData}, DpAll K G xs ds → ds[i]? = some d → ∃ x, xs[i]? = some x ∧ Dp K G x d
  | _, _, _, _, .nil, h => by cases h
  | _, _, 0, _, .cons h _, e => by cases e; exact ⟨_, rfl, h⟩
  | _, _, i + 1, _, .cons _ t, e => dps_get (i := i) t e
theorem dps_get' : ∀ {xs : List V} {ds : List PyData} {i : Nat} {x : V}, DpAll K G xs ds → xs[i]? = some x → ∃ d, ds[i]? = some d ∧ Dp K G x d
  | _, _, _, _, .nil, h => by cases h
  | _, _, 0, _, .cons h _, e => by cases e; exact ⟨_, rfl, h⟩
  | _, _, i + 1, _, .cons _ t, e => dps_get' (i := i) t e
theorem dps_app : ∀ {xs ys : List V} {ds es : List PyData}, DpAll K G xs ds → DpAll K G ys es → DpAll K G (xs ++ ys) (ds ++ es)
  | _, _, _, _, .nil, h => h
  | _, _, _, _, .cons h t, k => .cons h (dps_app t k)
theorem dps_one {v : V} {d : PyData} (h : Dp K G v d) : DpAll K G [v] [d] := .cons h .nil
theorem dps_ints : ∀ ns : List Int, DpAll K G (ns.map V.int) (ns.map PyData.int)
  | [] => .nil
  | n :: r => .cons (.int n) (dps_ints r)
/-! data without lists: stays whatever happens to other things than tuples -/
def Tx (G H : Hp) : Prop := ∀ a xs, Rd G a (.tup xs) → Rd H a (.tup xs)
theorem Tx.refl : Tx G G := fun _ _ h => h
theorem Tx.trans {H I : Hp} (a : Tx G H) (b : Tx H I) : Tx G I := fun x o h => b x o (a x o h)
theorem Ex.tx {H : Hp} (e : Ex G H) : Tx G H := fun _ _ h => e.rd h
def NoTup (G : Hp) (p : Addr) : Prop := ∀ xs, ¬ Rd G p (.tup xs)
theorem noTup_lst {p : Addr} {xs : List V} (h : G p = some (.lst xs)) : NoTup G p := by
  rintro ys (h' | ⟨o, h'⟩) <;> (rw [h] at h'; cases h')
theorem noTup_ins {p C dx : Addr} {fs : List (Str × V)} (h : G p = some (.ins C dx fs)) : NoTup G p := by
  rintro ys (h' | ⟨o, h'⟩) <;> (rw [h] at h'; cases h')
theorem noTup_nul {p : Addr} (h : G p = none) : NoTup G p := by
  rintro ys (h' | ⟨o, h'⟩) <;> (rw [h] at h'; cases h')
theorem Tx.upd {p : Addr} {o : HO} (h : NoTup G p) : Tx G (upd G p o) := fun a xs r => by
  have n : a ≠ p := fun e => h xs (e ▸ r)
  rcases r with r | ⟨q, r⟩
  · exact .inl (by rw [upd_ne n]; exact r)
  · exact .inr ⟨q, by rw [upd_ne n]; exact r⟩
theorem Tx.st {H : Hp} {a : Addr} {xs : List V} (e : Tx G H) (h : SqT K G a xs) : SqT K H a xs := h.elim (fun r => .inl (e _ _ r)) .inr
mutual
inductive Im (K : PySem.W.Frag) (G : Hp) : V → PyData → Prop
  | non : Im K G .non .none
  | bl (b : Bool) : Im K G (.bl b) (.bool b)
  | int (i : Int) : Im K G (.int i) (.int i)
  | str (x : Str) : Im K G (.str x) (.str x)
  | tup {a : Addr} {xs : List V} {ds : List PyData} : SqT K G a xs → Ims K G xs ds → Im K G (.ref a) (.tuple ds)
inductive Ims (K : PySem.W.Frag) (G : Hp) : List V → List PyData → Prop
  | nil : Ims K G [] []
  | cons {v : V} {vs : List V} {d : PyData} {ds : List PyData} : Im K G v d → Ims K G vs ds → Ims K G (v :: vs) (d :: ds)
end
mutual
theorem Im.dp : ∀ {v : V} {d : PyData}, Im K G v d → Dp K G v d
  | _, _, .non => .non
  | _, _, .bl b => .bl b
  | _, _, .int i => .int i
  | _, _, .str x => .str x
  | _, _, .tup s h => .tup s h.dps
theorem Ims.dps : ∀ {v : List V} {d : List PyData}, Ims K G v d → DpAll K G v d
  | _, _, .nil => .nil
  | _, _, .cons h t => .cons h.dp t.dps
end
mutual
theorem Tx.im {H : Hp} (e : Tx G H) : ∀ {v : V} {d : PyData}, Im K G v d → Im K H v d
  | _, _, .non => .non
  | _, _, .bl b => .bl b
  | _, _, .int i => .int i
  | _, _, .str x => .str x
  | _, _, .tup s h => .tup (e.st s) (e.ims h)
theorem Tx.ims {H : Hp} (e : Tx G H) : ∀ {v : List V} {d : List PyData}, Ims K G v d → Ims K H v d
  | _, _, .nil => .nil
  | _, _, .cons h t => .cons (e.im h) (e.ims t)
end
theorem im_tup {v : V} {ds : List PyData} (h : Im K G v (.tuple ds)) : ∃ a xs, v = .ref a ∧ SqT K G a xs ∧ Ims K G xs ds := by cases h with | tup h1 h2 => exact ⟨_, _, rfl, h1, h2⟩
theorem ims_len : ∀ {xs : List V} {ds : List PyData}, Ims K G xs ds → xs.length = ds.length
  | _, _, .nil => rfl
  | _, _, .cons _ t => by rw [List.length_cons, List.length_cons, ims_len t]
theorem ims_get : ∀ {xs : List V} {ds : List PyData} {i : Nat} {d : PyData}, Ims K G xs ds → ds[i]? = some d → ∃ x, xs[i]? = some x ∧ Im K G x d
  | _, _, _, _, .nil, h => by cases h
  | _, _, 0, _, .cons h _, e => by cases e; exact ⟨_, rfl, h⟩
  | _, _, i + 1, _, .cons _ t, e => ims_get (i := i) t e
theorem ims_get' : ∀ {xs : List V} {ds : List PyData} {i : Nat} {x : V}, Ims K G xs ds → xs[i]? = some x → ∃ d, ds[i]? = some d ∧ Im K G x d
  | _, _, _, _, .nil, h => by cases h
  | _, _, 0, _, .cons h _, e => by cases e; exact ⟨_, rfl, h⟩
  | _, _, i + 1, _, .cons _ t, e => ims_get' (i := i) t e
theorem ims_app : ∀ {xs ys : List V} {ds es : List PyData}, Ims K G xs ds → Ims K G ys es → Ims K G (xs ++ ys) (ds ++ es)
  | _, _, _, _, .nil, h => h
  | _, _, _, _, .cons h t, k => .cons h (ims_app t k)
theorem ims_one {v : V} {d : PyData} (h : Im K G v d) : Ims K G [v] [d] := .cons h .nil
theorem ims_ints : ∀ ns : List Int, Ims K G (ns.map V.int) (ns.map PyData.int)
  | [] => .nil
  | n :: r => .cons (.int n) (ims_ints r)
/-! loops with a name for a target -/
abbrev Bd (D : Ek) (N : L2.St → Hp → Prop) : Ek := { D with nx := N, ct := N, bk := D.nx }
theorem es_forR1 {ta : TA} {j : Nat} {tb : TS} (h : Ea ta σ G fun vs G1 => ∃ n : Int, vs = [.int n] ∧ (-(2 ^ 62) ≤ n ∧ n < 2 ^ 62) ∧ ∃ Pv : Nat → L2.St → Hp → Prop, Pv 0 σ G1 ∧
    (∀ (i : Nat) σ G, (i : Int) < n → Pv i σ G → Es tb (Bd D (Pv (i + 1))) (σ.set j (some (.int (i : Int)))) G) ∧ (∀ σ G, Pv n.toNat σ G → D.nx σ G)) : Es (tFor (iRng1 ta) (gName j) tb) D σ G := by
  refine es_for (ei_r1 fun H Q' e l => h H _ e fun vs G1 H1 e1 ⟨n, h1, ⟨h2, h3⟩, Pv, h4, h5, h6⟩ => l _ G1 H1 e1 ⟨n, h1, h2, h3, _, _, _, wk_range, Pv, h4, fun _ _ _ _ _ => trivial, fun i x σ G G' hi p y => ?_, h6⟩)
  obtain ⟨rfl, y⟩ := y
  have : x = .int (i : Int) := by rw [← Option.some.inj y, Int.zero_add]
  subst this
  exact eg_name (h5 i σ G' (by omega) p)
theorem es_forR2 {ta : TA} {j : Nat} {tb : TS} (h : Ea ta σ G fun vs G1 => ∃ lo n : Int, vs = [.int lo, .int n] ∧ (-(2 ^ 62) ≤ lo ∧ lo < 2 ^ 62 ∧ -(2 ^ 62) ≤ n ∧ n < 2 ^ 62) ∧ ∃ Pv : Nat → L2.St → Hp → Prop, Pv 0 σ G1 ∧
    (∀ (i : Nat) σ G, lo + (i : Int) < n → Pv i σ G → Es tb (Bd D (Pv (i + 1))) (σ.set j (some (.int (lo + (i : Int))))) G) ∧ (∀ σ G, Pv (n - lo).toNat σ G → D.nx σ G)) : Es (tFor (iRng2 ta) (gName j) tb) D σ G := by
  refine es_for (ei_r2 fun H Q' e l => h H _ e fun vs G1 H1 e1 ⟨lo, n, h1, h2, Pv, h4, h5, h6⟩ => l _ G1 H1 e1 ⟨lo, n, h1, h2, _, _, _, wk_range, Pv, h4, fun _ _ _ _ _ => trivial, fun i x σ G G' hi p y => ?_, h6⟩)
  obtain ⟨rfl, y⟩ := y
  have : x = .int (lo + (i : Int)) := (Option.some.inj y).symm
  subst this
  exact eg_name (h5 i σ G' (by omega) p)
theorem es_forL {tl : TE} {g : TG} {tb : TS} (h : Ee tl σ G fun v G1 => ∃ a xs, v = .ref a ∧ SqL K G1 a xs ∧ ∃ Pv : Nat → L2.St → Hp → Prop, Pv 0 σ G1 ∧ (∀ i σ G, Pv i σ G → SqL K G a xs) ∧
    (∀ i x σ G, xs[i]? = some x → Pv i σ G → Eg g x σ G fun σ2 G2 => Es tb (Bd D (Pv (i + 1))) σ2 G2) ∧ (∀ σ G, Pv xs.length σ G → D.nx σ G)) : Es (tFor (iList K tl) g tb) D σ G := by
  refine es_for (ei_list fun H Q' e l => h H _ e fun v G1 H1 e1 ⟨a, xs, h1, h2, Pv, h3, h4, h5, h6⟩ => l _ G1 H1 e1 ⟨a, xs, h1, h2, _, _, _, wk_list, Pv, h3, fun i σ G _ p => h4 i σ G p, fun i x σ G G' hi p y => ?_, h6⟩)
  obtain ⟨rfl, y⟩ := y
  exact h5 i x σ G' y p
theorem es_forT {tl : TE} {g : TG} {tb : TS} (h : Ee tl σ G fun v G1 => ∃ a xs, v = .ref a ∧ SqT K G1 a xs ∧ ∃ Pv : Nat → L2.St → Hp → Prop, Pv 0 σ G1 ∧ (∀ i σ G, Pv i σ G → SqT K G a xs) ∧
    (∀ i x σ G, xs[i]? = some x → Pv i σ G → Eg g x σ G fun σ2 G2 => Es tb (Bd D (Pv (i + 1))) σ2 G2) ∧ (∀ σ G, Pv xs.length σ G → D.nx σ G)) : Es (tFor (iTup K tl) g tb) D σ G := by
  refine es_for (ei_tup fun H Q' e l => h H _ e fun v G1 H1 e1 ⟨a, xs, h1, h2, Pv, h3, h4, h5, h6⟩ => l _ G1 H1 e1 ⟨a, xs, h1, h2, _, _, _, wk_tup, Pv, h3, fun i σ G _ p => h4 i σ G p, fun i x σ G G' hi p y => ?_, h6⟩)
  obtain ⟨rfl, y⟩ := y
  exact h5 i x σ G' y p
theorem es_forS {te : TE} {j : Nat} {tb : TS} (h : Ee te σ G fun v G1 => ∃ z, v = .str z ∧ ∃ Pv : Nat → L2.St → Hp → Prop, Pv 0 σ G1 ∧
    (∀ i c σ G, z.cps[i]? = some c → Pv i σ G → Es tb (Bd D (Pv (i + 1))) (σ.set j (some (.str ⟨#[c]⟩))) G) ∧ (∀ σ G, Pv z.cps.size σ G → D.nx σ G)) : Es (tFor (iStr te) (gName j) tb) D σ G := by
  refine es_for (ei_str fun H Q' e l => h H _ e fun v G1 H1 e1 ⟨z, h1, Pv, h3, h5, h6⟩ => l _ G1 H1 e1 ⟨z, h1, _, _, _, wk_str, Pv, h3, fun _ _ _ _ _ => trivial, fun i x σ G G' hi p y => ?_, h6⟩)
  obtain ⟨rfl, y⟩ := y
  obtain ⟨c, hc, rfl⟩ := Option.map_eq_some_iff.mp y
  exact eg_name (h5 i c σ G' hc p)
theorem es_forZ {ta : TA} {g1 g2 : TG} {tb : TS} (h : Ea ta σ G fun vs G1 => ∃ a b xs ys, vs = [.ref a, .ref b] ∧ SqL K G1 a xs ∧ SqL K G1 b ys ∧ ∃ Pv : Nat → L2.St → Hp → Prop, Pv 0 σ G1 ∧ (∀ i σ G, Pv i σ G → SqL K G a xs ∧ SqL K G b ys) ∧
    (∀ i x y σ G T, xs[i]? = some x → ys[i]? = some y → Pv i σ G → G T = none → Egs (gCons g1 (gCons g2 gNil)) [x, y] σ (upd G T (.tup [x, y])) fun σ2 G2 => Es tb (Bd D (Pv (i + 1))) σ2 G2) ∧ (∀ σ G, Pv (min xs.length ys.length) σ G → D.nx σ G)) :
    Es (tFor (iZip K ta) (gTup K 2 (gCons g1 (gCons g2 gNil))) tb) D σ G := by
  refine es_for (ei_zip fun H Q' e l => h H _ e fun vs G1 H1 e1 ⟨a, b, xs, ys, h1, h2, h3, Pv, h4, h5, h6, h7⟩ => l _ G1 H1 e1 ⟨a, b, xs, ys, h1, h2, h3, _, _, _, wk_zip rfl, Pv, h4, fun i σ G _ p => h5 i σ G p, fun i x σ G G' hi p y => ?_, h7⟩)
  obtain ⟨T, x1, y1, rfl, nT, rfl, e1, e2⟩ := y
  exact eg_tup (SqT.of upd_same) rfl (h6 i x1 y1 σ G T e1 e2 p nT)
theorem es_forEn {ta : TA} {g1 g2 : TG} {tb : TS} (h : Ea ta σ G fun vs G1 => ∃ a xs, vs = [.ref a] ∧ SqL K G1 a xs ∧ ∃ Pv : Nat → L2.St → Hp → Prop, Pv 0 σ G1 ∧ (∀ i σ G, Pv i σ G → SqL K G a xs) ∧
    (∀ (i : Nat) x σ G T, xs[i]? = some x → Pv i σ G → G T = none → Egs (gCons g1 (gCons g2 gNil)) [.int (i : Int), x] σ (upd G T (.tup [.int (i : Int), x])) fun σ2 G2 => Es tb (Bd D (Pv (i + 1))) σ2 G2) ∧ (∀ σ G, Pv xs.length σ G → D.nx σ G)) :
    Es (tFor (iEnum K ta) (gTup K 2 (gCons g1 (gCons g2 gNil))) tb) D σ G := by
  refine es_for (ei_enum fun H Q' e l => h H _ e fun vs G1 H1 e1 ⟨a, xs, h1, h2, Pv, h4, h5, h6, h7⟩ => l _ G1 H1 e1 ⟨a, xs, h1, h2, _, _, _, wk_enum, Pv, h4, fun i σ G _ p => h5 i σ G p, fun i x σ G G' hi p y => ?_, h7⟩)
  obtain ⟨T, x1, y1, rfl, nT, rfl, e1, e2⟩ := y
  cases e1
  exact eg_tup (SqT.of upd_same) rfl (h6 i y1 σ G T e2 p nT)
/-! comprehensions -/
theorem ee_lcZ {ta : TA} {g1 g2 : TG} {tt : TT} {te : TE} {vs : List Nat} {Q : V → Hp → Prop}
    (h : Ea ta σ G fun us G1 => ∃ a b xs ys, us = [.ref a, .ref b] ∧ SqL K G1 a xs ∧ SqL K G1 b ys ∧ ∀ p, G1 p = none → ∃ Pv : Nat → List V → Hp → Prop, Pv 0 [] G1 ∧ (∀ i acc G, Pv i acc G → G p = none ∧ acc.length < sizeLine ∧ SqL K G a xs ∧ SqL K G b ys) ∧
      (∀ i acc x y G T, xs[i]? = some x → ys[i]? = some y → Pv i acc G → upd G p (.lst acc) T = none → Egs (gCons g1 (gCons g2 gNil)) [x, y] (wipe σ vs) (upd (upd G p (.lst acc)) T (.tup [x, y])) fun σ2 G2 => wipe σ2 vs = wipe σ vs ∧ Et tt σ2 G2 fun b G3 =>
        if b = true then Ee te σ2 G3 fun y G4 => G4 p = some (.lst acc) ∧ ∃ G5, Ex (upd G5 p (.lst acc)) G4 ∧ Pv (i + 1) (acc ++ [y]) G5 else G3 p = some (.lst acc) ∧ ∃ G5, Ex (upd G5 p (.lst acc)) G3 ∧ Pv (i + 1) acc G5) ∧
      (∀ acc G, Pv (min xs.length ys.length) acc G → Q (.ref p) (upd G p (.lst acc)))) : Ee (tLc (iZip K ta) (gTup K 2 (gCons g1 (gCons g2 gNil))) tt te vs) σ G Q := by
  refine ee_lc (ei_zip fun H Q' e l => h H _ e fun us G1 H1 e1 ⟨a, b, xs, ys, h1, h2, h3, hh⟩ => l _ G1 H1 e1 ⟨a, b, xs, ys, h1, h2, h3, _, (fun G => SqL K G a xs ∧ SqL K G b ys), _, wk_zip (a := a) (b := b) (xs := xs) (ys := ys) rfl, fun G p o hg hn => ⟨(Ex.new hn).sl hg.1, (Ex.new hn).sl hg.2⟩, fun p hp => ?_⟩)
  obtain ⟨Pv, h4, h5, h6, h7⟩ := hh p hp
  refine ⟨Pv, h4, fun i acc G _ p => h5 i acc G p, fun i acc x G G' hi p y => ?_, h7⟩
  obtain ⟨T, x1, y1, rfl, nT, rfl, e1, e2⟩ := y
  exact eg_tup (SqT.of upd_same) rfl (h6 i acc x1 y1 G T e1 e2 p nT)
theorem ee_lcL {tl : TE} {g : TG} {tt : TT} {te : TE} {vs : List Nat} {Q : V → Hp → Prop}
    (h : Ee tl σ G fun v G1 => ∃ a xs, v = .ref a ∧ SqL K G1 a xs ∧ ∀ p, G1 p = none → ∃ Pv : Nat → List V → Hp → Prop, Pv 0 [] G1 ∧ (∀ i acc G, Pv i acc G → G p = none ∧ acc.length < sizeLine ∧ SqL K G a xs) ∧
      (∀ i acc x G, xs[i]? = some x → Pv i acc G → Eg g x (wipe σ vs) (upd G p (.lst acc)) fun σ2 G2 => wipe σ2 vs = wipe σ vs ∧ Et tt σ2 G2 fun b G3 =>
        if b = true then Ee te σ2 G3 fun y G4 => G4 p = some (.lst acc) ∧ ∃ G5, Ex (upd G5 p (.lst acc)) G4 ∧ Pv (i + 1) (acc ++ [y]) G5 else G3 p = some (.lst acc) ∧ ∃ G5, Ex (upd G5 p (.lst acc)) G3 ∧ Pv (i + 1) acc G5) ∧
      (∀ acc G, Pv xs.length acc G → Q (.ref p) (upd G p (.lst acc)))) : Ee (tLc (iList K tl) g tt te vs) σ G Q := by
  refine ee_lc (ei_list fun H Q' e l => h H _ e fun v G1 H1 e1 ⟨a, xs, h1, h2, hh⟩ => l _ G1 H1 e1 ⟨a, xs, h1, h2, _, (fun G => SqL K G a xs), _, wk_list (a := a) (xs := xs), fun G p o hg hn => (Ex.new hn).sl hg, fun p hp => ?_⟩)
  obtain ⟨Pv, h4, h5, h6, h7⟩ := hh p hp
  refine ⟨Pv, h4, fun i acc G _ p => h5 i acc G p, fun i acc x G G' hi p y => ?_, h7⟩
  obtain ⟨rfl, y⟩ := y
  exact h6 i acc x G y p
theorem ee_lcR1 {ta : TA} {j : Nat} {tt : TT} {te : TE} {vs : List Nat} {Q : V → Hp → Prop}
    (h : Ea ta σ G fun us G1 => ∃ n : Int, us = [.int n] ∧ (-(2 ^ 62) ≤ n ∧ n < 2 ^ 62) ∧ ∀ p, G1 p = none → ∃ Pv : Nat → List V → Hp → Prop, Pv 0 [] G1 ∧ (∀ i acc G, Pv i acc G → G p = none ∧ acc.length < sizeLine) ∧
      (∀ (i : Nat) acc G, (i : Int) < n → Pv i acc G → wipe ((wipe σ vs).set j (some (.int (i : Int)))) vs = wipe σ vs ∧ Et tt ((wipe σ vs).set j (some (.int (i : Int)))) (upd G p (.lst acc)) fun b G3 =>
        if b = true then Ee te ((wipe σ vs).set j (some (.int (i : Int)))) G3 fun y G4 => G4 p = some (.lst acc) ∧ ∃ G5, Ex (upd G5 p (.lst acc)) G4 ∧ Pv (i + 1) (acc ++ [y]) G5 else G3 p = some (.lst acc) ∧ ∃ G5, Ex (upd G5 p (.lst acc)) G3 ∧ Pv (i + 1) acc G5) ∧
      (∀ acc G, Pv n.toNat acc G → Q (.ref p) (upd G p (.lst acc)))) : Ee (tLc (iRng1 ta) (gName j) tt te vs) σ G Q := by
  refine ee_lc (ei_r1 fun H Q' e l => h H _ e fun us G1 H1 e1 ⟨n, h1, ⟨h2, h3⟩, hh⟩ => l _ G1 H1 e1 ⟨n, h1, h2, h3, _, _, _, wk_range, fun G p o hg hn => trivial, fun p hp => ?_⟩)
  obtain ⟨Pv, h4, h5, h6, h7⟩ := hh p hp
  refine ⟨Pv, h4, fun i acc G _ p => ⟨(h5 i acc G p).1, (h5 i acc G p).2, trivial⟩, fun i acc x G G' hi p y => ?_, h7⟩
  obtain ⟨rfl, y⟩ := y
  have : x = .int (i : Int) := by rw [← Option.some.inj y, Int.zero_add]
  subst this
  exact eg_name (h6 i acc G (by omega) p)
end
end Lw

namespace Lw
open PySem PySem.Spec PyProof.Rows L2
section
variable {σ : L2.St} {G : Hp} {D : Ek} {K : PySem.W.Frag}
def rInsertU : V → List V → Hp → VK → Prop := fun x vs H Q => ∃ (l : Addr) (xs : List V) (i : Int) (y : V), x = .ref l ∧ vs = [.int i, y] ∧ H l = some (.lst xs) ∧ xs.length < sizeLine ∧ 0 ≤ i ∧ i < 2 ^ 63 ∧
    Q .non (upd H l (.lst (xs.take i.toNat ++ [y] ++ xs.drop i.toNat)))
theorem mt_insertU {X : Cx} : MtR X "list.insert" rInsertU := mt_insert
theorem em_insert {l : Addr} {xs : List V} {i : Nat} {y : V} {Q : V → Hp → Prop} (h : G l = some (.lst xs)) (hz : xs.length < sizeLine) (hi : i < 2 ^ 63) (q : Q .non (upd G l (.lst (xs.take i ++ [y] ++ xs.drop i)))) : Em rInsertU (.ref l) [.int (i : Int), y] G Q := fun H Q' e k =>
  ⟨l, xs, i, y, rfl, rfl, e _ _ h, hz, Int.natCast_nonneg _, by omega, k _ _ _ e.put q⟩
theorem eg_lst {n : Nat} {t : TGs} {a : Addr} {xs : List V} {Q : L2.St → Hp → Prop} (h : SqL K G a xs) (hn : xs.length = n) (q : Egs t xs σ G Q) : Eg (gLst K n t) (.ref a) σ G Q := fun H Q' e l =>
  ⟨a, xs, rfl, e.sl h, hn, q H Q' e l⟩
theorem em_popAt {p : Addr} {xs : List V} {y : V} {i : Nat} {Q : V → Hp → Prop} (h : G p = some (.lst xs)) (hz : xs.length < 2 ^ 62) (hy : xs[i]? = some y) (q : Q y (upd G p (.lst (xs.eraseIdx i)))) : Em rPopAt (.ref p) [.int (i : Int)] G Q := fun H Q' e l => by
  have hi := (List.getElem?_eq_some_iff.mp hy).1
  exact ⟨p, xs, i, i, y, rfl, rfl, e _ _ h, by omega, by omega, by rw [seqIndex_of (by omega) (by omega)]; simp, hy, l _ _ _ e.put q⟩
theorem Eg.weak {G' : Hp} {g : TG} {v : V} {Q : L2.St → Hp → Prop} (e : Ex G G') (h : Eg g v σ G Q) : Eg g v σ G' Q := fun H D' x l => h H D' (e.trans x) l
theorem Er.weak {G' : Hp} {r : R2} {x y : V} {Q : V → Hp → Prop} (e : Ex G G') (h : Er r x y G Q) : Er r x y G' Q := fun H D' z l => h H D' (e.trans z) l
theorem Et.weak {G' : Hp} {t : TT} {Q : Bool → Hp → Prop} (e : Ex G G') (h : Et t σ G Q) : Et t σ G' Q := fun H D' z l => h H D' (e.trans z) l
theorem Ec.weak {G' : Hp} {r : List V → Hp → VK → Prop} {x : List V} {Q : V → Hp → Prop} (e : Ex G G') (h : Ec r x G Q) : Ec r x G' Q := fun H D' z l => h H D' (e.trans z) l
theorem Em.weak {G' : Hp} {r : V → List V → Hp → VK → Prop} {y : V} {x : List V} {Q : V → Hp → Prop} (e : Ex G G') (h : Em r y x G Q) : Em r y x G' Q := fun H D' z l => h H D' (e.trans z) l
theorem ex_swap {p p2 : Addr} {u o : HO} (hp : G p = none) : Ex (upd G p2 o) (upd (upd G p u) p2 o) := (Ex.new hp).put
theorem er_eqNI {i : Int} {Q : V → Hp → Prop} (q : Q (.bl false) G) : Er (rEqU K) .non (.int i) G Q := er_orL fun H Q' e l => ⟨rfl, l _ G H e (by rw [decide_eq_false (by intro z; cases z)]; exact q)⟩
/-! pieces of a heap, apart from one another -/
def Dis (F R : Hp) : Prop := ∀ a, F a = none ∨ R a = none
theorem Dis.symm {F R : Hp} (d : Dis F R) : Dis R F := fun a => (d a).symm
theorem Dis.put {F R : Hp} {p : Addr} {o : HO} (d : Dis F R) (h : R p = none) : Dis (upd F p o) R := fun a => by
  by_cases e : a = p
  · exact .inr (e ▸ h)
  · rw [upd_ne e]; exact d a
def Fr (F G F' G' : Hp) : Prop := ∀ R, Dis F R → Ex R G → Ex R G' ∧ Dis F' R
theorem Fr.refl {F : Hp} : Fr F G F G := fun _ d e => ⟨e, d⟩
theorem Fr.trans {F F1 F2 G1 G2 : Hp} (a : Fr F G F1 G1) (b : Fr F1 G1 F2 G2) : Fr F G F2 G2 := fun R d e => let ⟨e1, d1⟩ := a R d e; b R d1 e1
theorem Fr.new {F : Hp} {p : Addr} {o : HO} (h : G p = none) : Fr F G (upd F p o) (upd G p o) := fun R d e => ⟨e.trans (Ex.new h), d.put (e.nul h)⟩
theorem Fr.mut {F : Hp} {p : Addr} {o u : HO} (h : F p = some u) : Fr F G (upd F p o) (upd G p o) := fun R d e => by
  have n : R p = none := (d p).resolve_left (by rw [h]; simp)
  exact ⟨e.mut n, d.put n⟩
theorem Fr.junk {F G' : Hp} (h : Ex G G') : Fr F G F G' := fun R d e => ⟨e.trans h, d⟩
/-- the pieces are known and apart -/
structure Ap (L : List Hp) (G : Hp) : Prop where
  ex : ∀ F ∈ L, Ex F G
  dis : L.Pairwise Dis
theorem Ap.fr {L1 L2 : List Hp} {F F' G' : Hp} (a : Ap (L1 ++ F :: L2) G) (f : Fr F G F' G') (e : Ex F' G') : Ap (L1 ++ F' :: L2) G' := by
  have hp := List.pairwise_append.mp a.dis
  have hc := List.pairwise_cons.mp hp.2.1
  refine ⟨fun X hX => ?_, List.pairwise_append.mpr ⟨hp.1, List.pairwise_cons.mpr ⟨fun R hR => ?_, hc.2⟩, fun R hR X hX => ?_⟩⟩
  · rcases List.mem_append.mp hX with h | h
    · exact (f X (hp.2.2 X h F List.mem_cons_self).symm (a.ex X (List.mem_append_left _ h))).1
    · rcases List.mem_cons.mp h with rfl | h
      · exact e
      · exact (f X (hc.1 X h) (a.ex X (List.mem_append_right _ (List.mem_cons_of_mem _ h)))).1
  · exact (f R (hc.1 R hR) (a.ex R (List.mem_append_right _ (List.mem_cons_of_mem _ hR)))).2
  · rcases List.mem_cons.mp hX with rfl | h
    · exact ((f R (hp.2.2 R hR F List.mem_cons_self).symm (a.ex R (List.mem_append_left _ hR))).2).symm
    · exact hp.2.2 R hR X (List.mem_cons_of_mem _ h)
theorem Ap.junk {L : List Hp} {G' : Hp} (a : Ap L G) (e : Ex G G') : Ap L G' := ⟨fun F h => (a.ex F h).trans e, a.dis⟩
/-- a new piece -/
def one (p : Addr) (o : HO) : Hp := upd (fun _ => none) p o
theorem Ap.add {L : List Hp} {p : Addr} {o : HO} (a : Ap L G) (h : G p = none) : Ap (one p o :: L) (upd G p o) :=
  ⟨fun F hF => by
    rcases List.mem_cons.mp hF with rfl | hF
    · exact Ex.putL (fun _ _ z => by cases z) upd_same
    · exact (a.ex F hF).trans (Ex.new h),
   List.pairwise_cons.mpr ⟨fun R hR => (show Dis (one p o) R from (show Dis (fun _ => none) R from fun _ => .inl rfl).put ((a.ex R hR).nul h)), a.dis⟩⟩
theorem Ap.drop1 {L : List Hp} {F : Hp} (a : Ap (F :: L) G) : Ap L G := ⟨fun X h => a.ex X (List.mem_cons_of_mem _ h), (List.pairwise_cons.mp a.dis).2⟩
theorem Ap.perm {L L' : List Hp} (a : Ap L G) (p : L'.Perm L) : Ap L' G := ⟨fun F h => a.ex F (p.mem_iff.mp h), (p.pairwise_iff (fun d => Dis.symm d)).mpr a.dis⟩
end
end Lw

namespace Lw
open PySem PySem.Spec PyProof.Rows L2
/-! ## defs that may raise an own error, and a try that catches it -/
/-- an own class of errors -/
structure Xc (K : PySem.W.Frag) (C : Addr) : Prop where
  q : PySem.W.excIn K C [.type "ValueError", .type "Exception", .type "BaseException", .type "object"] "ValueError.__new__" = true
  k : PySem.W.keepIn K (.ref C) = true
  b : PySem.W.subIn K (.ref C) (.type "BaseException") = some true
  t : PySem.W.typeIn K (.ref C) = some (.type "type")
  c : PySem.W.isClsIn K C = true
  s : PySem.W.subIn K (.ref C) (.ref C) = some true
theorem Xc.ex {K : PySem.W.Frag} {S : Addr} (X : Xc K S) : PySem.W.exmOne K (.ref S) (.ref S) = some true := by
  have e1 : (PySem.W.subIn K (.ref S) (.type "BaseException") == some true) = true := by rw [X.b] <;> rfl
  have e2 : ((PySem.W.clsIn K S).isSome && PySem.W.typeIn K (.ref S) == some (.type "type")) = true := by
    have h2' : (PySem.W.clsIn K S).isSome = true := X.c
    rw [h2', X.t] <;> rfl
  show (if (PySem.W.subIn K (.ref S) (.type "BaseException") == some true) = true then (if ((PySem.W.clsIn K S).isSome && PySem.W.typeIn K (.ref S) == some (.type "type")) = true then PySem.W.subIn K (.ref S) (.ref S) else none) else none) = some true
  rw [if_pos e1, if_pos e2]
  exact X.s
/-- raise C('..') -/
def tRz (C : Addr) (E : XK) : TS := fun _ _ H => E (.ref C) none H
theorem ps_rz {X : Cx} {C : Addr} {E : XK} {x m : Str} {j : Nat} {p p2 pos pos2 : Pos} (hc : X.calm = true) (T : Xc X.K C) (gC : X.mg x = some (.ref C)) (tk : Takes X fun cls d _ H => E cls d H) (hg : Gl X x)
    (hdb : (x == ("__debug__" : Str)) = false := by decide) : PS X (.Raise (some (.Call (.Name x p) [.Constant (.str m) j p2] [] pos)) none pos2) (tRz C E) :=
  ps_raise hc tk (pmk_own PySem.F.excBase_ValueError T.q gC T.k (raises_own T.b T.t) hg hdb)
theorem es_rz {C : Addr} {E : XK} {D : Ek} {σ : L2.St} {G : Hp} (h : dn E (.ref C) none G) : Es (tRz C E) D σ G := fun H _ e _ => h H e
/-- what a try wishes of its body's calls -/
abbrev WA (W : WX) : XK := fun cls d H => ∀ σ, W cls d σ H
theorem pass_try {X : Cx} {W : WX} (tk : Takes X W) : Passes (L2.CX X.prog X.w) X (WA W) := passes_call tk fun _ _ σ _ h => h σ
theorem pass_own {X : Cx} {E : XK} (tk : Takes X fun cls d _ H => E cls d H) : Passes (L2.CX X.prog X.w) X E := passes_call tk fun _ _ _ _ h => h
/-- try: .. except C: .. -/
def tTryO (K : PySem.W.Frag) (C : Addr) (tb : WX → TS) (ts : TS) : TS := fun D σ H => tb (wOnly K (.ref C) (fun _ _ _ => ts) (fun _ _ _ _ => False) D) D σ H
theorem es_try {K : PySem.W.Frag} {C : Addr} {tb : WX → TS} {ts : TS} {D : Ek} {σ : L2.St} {G : Hp} (X : Xc K C) (h : ∀ W : WX, (∀ σ' G' H', Ex G' H' → Es ts D σ' G' → W (.ref C) none σ' H') → Es (tb W) D σ G) : Es (tTryO K C tb ts) D σ G := fun H D' e l =>
  h _ (fun σ' G' H' e' hs => ⟨true, X.ex, fun _ a _ => hs H' D' e' l, fun z => Bool.noConfusion z⟩) H D' e l
theorem dn_wa {W : WX} {C : Addr} {ts : TS} {D : Ek} {G : Hp} (hW : ∀ σ' G' H', Ex G' H' → Es ts D σ' G' → W (.ref C) none σ' H') (h : ∀ σ', Es ts D σ' G) : dn (WA W) (.ref C) none G := fun H e σ' => hW σ' G H e (h σ')
theorem dn_dn {E : XK} {E0 : XK} {c : Value} {d : Option Addr} {G : Hp} (h : E0 c d G) (le : ∀ c d G', E0 c d G' → dn E c d G') : dn E c d G := le _ _ _ h
section
variable {P : Program} {w : World} {K : PySem.W.Frag} {mg : Str → Option Value} {base : Heap}
theorem body_upX {S : Pm} {t : XK → TS} {N : List Str} (h : ∀ vs G Q E, S vs G Q (dn E) → Es (t E) { nx := fun _ G' => Q .non G', rt := Q } (start N vs) G)
    (hm : ∀ vs G Q E E', S vs G Q E → (∀ c d G', E c d G' → E' c d G') → S vs G Q E') : ∀ vs H Q E, up S vs H Q E → t E { nx := fun _ H' => Q .non H', rt := Q } (start N vs) H := by
  rintro vs H Q E ⟨G, Q0, E0, e, hS, lq, le⟩
  exact h vs G Q0 E (hm _ _ _ _ _ hS fun c d G' h H' e' => le c d G' H' e' h) H _ e ⟨fun _ G H e q => lq _ _ _ e q, fun v G H e q => lq _ _ _ e q, fun _ _ _ _ z => z.elim, fun _ _ _ _ z => z.elim⟩
theorem fnokX {x qual : Str} {st : Stmt} {f : Addr} {fd : FuncData} {N ps : List Str} {k : Nat} {S : Pm} {t : XK → TS} (F : Fun K x qual st f fd) (sc : FnScope N ps (defScope st))
    (len : ∀ vs G Q E, S vs G Q E → vs.length = ps.length)
    (der : ∀ (f : Addr) (cdv : Value) (A : Around) (outer : List Env) (s : Shared) (H : Hp) (E : XK), Room k (A.deeper (envOfC qual (defScope st) s.heap.objs.size f cdv)) → PSs (cxOf (L2.CX P w) P w K mg base N qual (defScope st) f cdv A outer s H E) (defBody st) (t E))
    (pure : ∀ vs G Q E, S vs G Q (dn E) → Es (t E) { nx := fun _ G' => Q .non G', rt := Q } (start N vs) G)
    (hm : ∀ vs G Q E E', S vs G Q E → (∀ c d G', E c d G' → E' c d G') → S vs G Q E') : FnOk P w K mg base (L2.CX P w) (k + 1) f fd ps (up S) :=
  F.okX sc (fun vs H Q E ⟨G, Q0, E0, _, h, _⟩ => len vs G Q0 E0 h) fun cdv A outer s H vs Q E hr h => ⟨t E, der f cdv A outer s H E hr, body_upX pure hm vs H Q E h⟩
theorem HasM.mkX {C : Addr} {m qual : Str} {st : Stmt} {N ps : List Str} {k : Nat} {S : Pm} {t : XK → TS} (F : FndM K C m qual st) (sc : FnScope N ps (defScope st)) (hb : BindOk m qual st ps)
    (len : ∀ vs G Q E, S vs G Q E → vs.length = ps.length)
    (der : ∀ (f : Addr) (cdv : Value) (A : Around) (outer : List Env) (s : Shared) (H : Hp) (E : XK), Room k (A.deeper (envOfC qual (defScope st) s.heap.objs.size f cdv)) → PSs (cxOf (L2.CX P w) P w K mg base N qual (defScope st) f cdv A outer s H E) (defBody st) (t E))
    (pure : ∀ vs G Q E, S vs G Q (dn E) → Es (t E) { nx := fun _ G' => Q .non G', rt := Q } (start N vs) G)
    (hm : ∀ vs G Q E E', S vs G Q E → (∀ c d G', E c d G' → E' c d G') → S vs G Q E') : HasM P w K mg base (L2.CX P w) (k + 1) C m ps (up S) := by
  obtain ⟨f, fd, hm', F⟩ := F.ex
  exact ⟨f, fd, hm', F.binds hb, fnokX F sc len der pure hm⟩
theorem Has.mkX {x : Str} {st : Stmt} {N ps : List Str} {k : Nat} {S : Pm} {t : XK → TS} (F : Fnd K mg x st) (sc : FnScope N ps (defScope st)) (hb : BindOk x x st ps)
    (len : ∀ vs G Q E, S vs G Q E → vs.length = ps.length)
    (der : ∀ (f : Addr) (cdv : Value) (A : Around) (outer : List Env) (s : Shared) (H : Hp) (E : XK), Room k (A.deeper (envOfC x (defScope st) s.heap.objs.size f cdv)) → PSs (cxOf (L2.CX P w) P w K mg base N x (defScope st) f cdv A outer s H E) (defBody st) (t E))
    (pure : ∀ vs G Q E, S vs G Q (dn E) → Es (t E) { nx := fun _ G' => Q .non G', rt := Q } (start N vs) G)
    (hm : ∀ vs G Q E E', S vs G Q E → (∀ c d G', E c d G' → E' c d G') → S vs G Q E') : Has P w K mg base (L2.CX P w) (k + 1) x ps (up S) := by
  obtain ⟨f, fd, hm', F⟩ := F.ex
  exact ⟨f, fd, hm', F.kp, F.binds hb, fnokX F sc len der pure hm⟩
end
/-- xs.f += y on an object -/
theorem es_fldaug {K : PySem.W.Frag} {ta tv : TE} {rd : V → V → Hp → VK → Prop} {f : Str} {D : Ek} {σ : L2.St} {G : Hp}
    (h : Ee ta σ G fun x G1 => ∃ a C dx fs v, x = .ref a ∧ G1 a = some (.ins C dx fs) ∧ Cls K C ∧ NoAttr K C f ∧ fs.lookup f = some v ∧
      Ee tv σ G1 fun y G2 => Eip rd v y G2 fun z G3 => ∃ dx' fs', G3 a = some (.ins C dx' fs') ∧ fs'.length < 1000 ∧ D.nx σ (upd G3 a (.ins C dx' (putF f z fs')))) : Es (sFldAug K ta tv rd f) D σ G := fun H D' e l =>
  h H _ e fun x G1 H1 e1 ⟨a, C, dx, fs, v, h1, h2, h3, h4, h5, h6⟩ => ⟨a, C, dx, fs, v, h1, e1 _ _ h2, h3, h4, h5, h6 H1 _ e1 fun y G2 H2 e2 h7 => h7 H2 _ e2 fun z G3 H3 e3 ⟨dx', fs', h8, h9, q⟩ => ⟨dx', fs', e3 _ _ h8, h9, l.nx _ _ _ e3.put q⟩⟩
theorem pe_globE {X : Cx} {x : Str} {v : V} {p : Pos} (hg : Gl X x) (h : ∃ u, RelV v u ∧ X.mg x = some u) (hdb : (x == ("__debug__" : Str)) = false := by decide) : PE X (.Name x p) (tC v) := by
  obtain ⟨u, r, m⟩ := h
  exact pe_glob hg m r hdb
end Lw

namespace Lw
open PySem PySem.Spec PyProof.Rows L2
/-! ## a list comprehension whose element lets an exception out of a call -/
section
variable {X : Cx} {pins : List (Addr × Obj)} {σ : L2.St} {H : Hp} {s s1 : Shared} {E : XK} {m : Str → Option Value} {ce : Env} {u : Value}
theorem block_out (I : Inv X pins σ H s) (hs : X.stack = X.env :: X.outer) (hf : X.env.frame = some X.env.locals) (tk : Takes X fun cls d _ H => E cls d H) (hcf : ce.frame = X.env.frame) (hn : s.heap.Ns ce.locals m) (f : FpOk X pins H ce.locals)
    (c : L2.CX X.prog X.w X.stack H s E u s1) : notedBy (model X.prog X.w) X.A ce (CompFails (model X.prog X.w) X.A X.xe ce) u s1 := by
  obtain ⟨f0, f1, f2, f3, f4, f5⟩ := f
  have hfr : X.A.frames = some (X.env :: X.outer) := by rw [I.ok.frames, hs]
  have nfr : ce.locals ∉ frs X.stack := fun hm => by
    rcases List.mem_cons.mp (I.stkSub _ hm) with z | z
    · exact f1 z
    · exact f2 z
  obtain ⟨a, B, H', cls, d, rfl, fl, hok, ub, na, os, ag, hE⟩ := c
  obtain ⟨G, g1, g2⟩ := restrict s1.heap fun b => (B.get? b).isSome || decide (b ∈ frs X.stack)
  have st : B.StaysIn s1.heap := fl.1
  have gB : ∀ b o, B.get? b = some o → G.get? b = some o := fun b o e => by
    rw [g1 b (by simp [e])]
    exact st b o e
  have gF : ∀ b, b ∈ frs X.stack → G.get? b = s1.heap.get? b := fun b hb => g1 b (by simp [hb])
  have og : ∀ b o, G.get? b = some o → s1.heap.get? b = some o ∧ ((B.get? b).isSome = true ∨ b ∈ frs X.stack) := fun b o e => by
    cases q : ((B.get? b).isSome || decide (b ∈ frs X.stack)) with
    | false => rw [g2 b q] at e; cases e
    | true =>
      rw [g1 b q] at e
      exact ⟨e, by simpa [Bool.or_eq_true] using q⟩
  obtain ⟨oC, es, ep, hoC, hdC, rC⟩ := id hn
  have hBC : B.get? ce.locals = some oC := ub.keep _ _ hoC f0 nfr
  have hC' : H' ce.locals = none := ub.free _ _ hoC f0
  have J : Inv X pins σ H' { s with heap := G, gens := s1.gens, drawn := s1.drawn, toks := s1.toks } :=
    I.call (ch := []) ⟨fun b o e n hb _ => gB b o (ub.keep b o e n hb), fun b o e n hb _ => by
        obtain ⟨sl, q⟩ := ub.slot b o e hb
        exact ⟨sl, by rw [gF b hb]; exact q⟩, fun b o e n _ => ub.free b o e n, fun b o e _ => by
        by_cases hb : b ∈ frs X.stack
        · obtain ⟨sl, q⟩ := ub.slot b o e hb
          exact ⟨_, by rw [gF b hb]; exact q⟩
        · obtain ⟨o', q⟩ := ub.there b o e hb
          exact ⟨o', gB b o' q⟩, ub.tups, ub.frzs, ub.tbls⟩ (hok.kept gB) ag (fun _ z => nomatch z)
  have J2 : Inv X pins σ H' { s with heap := PySem.W.hideAll G [ce.locals], gens := s1.gens, drawn := s1.drawn, toks := s1.toks } :=
    J.turned (t' := s1.toks) (fun b o hb e => PySem.W.hideAll_get _ e (by simpa using hb)) hC' f1 f3 f4 f5
  show wpAny _ _ (noteFrame (.ref a) ce) _ _ s1
  rw [noteFrame_env _ hcf]
  rw [hs] at fl
  refine HandSPX.looks_onZ Zc.steady hfr hf fl fun h2 hh up2 => ?_
  obtain ⟨k1, k2, k3, k4⟩ := hh
  have hn2 : h2.Ns ce.locals m := (hn.at fun o e => by rw [hoC] at e; cases e; exact k1 _ _ hBC)
  refine ⟨m, hn2, fun h3 m3 hn3 hs3 => ?_⟩
  obtain ⟨oe, vs, T, oT, ts, he, hz, hd, h1, hnT, hTe, hT, hdT, hts⟩ := k4
  have hC2 : h2.get? ce.locals = some oC := k1 _ _ hBC
  have nea : a ≠ ce.locals := fun z => by rw [z, hC2] at he; cases he; rw [hdC] at hd; cases hd
  have neT : T ≠ ce.locals := fun z => by rw [z, hC2] at hT; cases hT; rw [hdC] at hdT; cases hdT
  have he3 : h3.get? a = some oe := (hs3.2 a nea).trans he
  have hT3 : h3.get? T = some oT := (hs3.2 T neT).trans hT
  have bB : ∀ {b o}, (PySem.W.hideAll B [ce.locals]).get? b = some o → B.get? b = some o ∧ b ≠ ce.locals := fun {b o} e =>
    ⟨PySem.W.of_hideAll _ e, fun z => by
      have := PySem.W.hideAll_none (h := B) (l := [ce.locals]) (b := b) (by simp [z])
      rw [this] at e; cases e⟩
  have nB : ∀ {b}, B.get? b = none → (PySem.W.hideAll B [ce.locals]).get? b = none := fun {b} e => by
    cases q : (PySem.W.hideAll B [ce.locals]).get? b with
    | none => rfl
    | some o => rw [(bB q).1] at e; cases e
  have K3 : HandSPX.HeldZ (PySem.W.hideAll B [ce.locals]) (X.env :: X.outer) a (Zc cls d) X.env.locals h3 := by
    refine ⟨fun b o e => (hs3.2 b (bB e).2).trans (k1 b o (bB e).1), nB k2, ?_, oe, vs, T, oT, ts, he3, hz, hd, h1, nB hnT, hTe, hT3, hdT, hts⟩
    refine funFrames_none (Heap.FunFrames.sameBut hs3 hn3 k3) fun L hL => nB ?_
    have := k3.mem (by exact hL)
    exact this.1
  unfold PySem.passOn
  refine wpAny_bind (wpAny_field he3 hd h1 ?_)
  rw [if_neg (show ¬ ((Value.ref T == Value.none) = true) from by simp), hcf, hf]
  have fin : wpAny (model X.prog X.w) X.A (setFlight (.ref a) (some X.env.locals)) (fun _ s4 => wpAny (model X.prog X.w) X.A (throw (.ref a) : Sem Value) (fun _ _ => False) X.xe s4) X.xe { s1 with heap := h3 } := by
    refine HandSPX.setFlight_onZ K3 fun h4 hh4 up4 => wpAny_throw (tk _ _ ?_)
    refine ⟨a, PySem.W.hideAll B [ce.locals], _, pins, σ, H', cls, d, rfl, J2, fun b o e hb => ?_, fun b o e hnf => ?_, .inr (.inr (by rw [hs]; exact hh4)), na, os, ag, hE⟩
    · have e' : G.get? b = some o := PySem.W.of_hideAll _ e
      have nb : b ≠ ce.locals := fun z => by
        have := PySem.W.hideAll_none (h := G) (l := [ce.locals]) (b := b) (by simp [z])
        have e2 : (PySem.W.hideAll G [ce.locals]).get? b = some o := e
        rw [this] at e2; cases e2
      obtain ⟨e1, h⟩ := og b o e'
      refine PySem.W.hideAll_get _ ?_ (by simpa using nb)
      rcases h with h | h
      · obtain ⟨o', q⟩ := Option.isSome_iff_exists.mp h
        have z := st b o' q
        rw [e1] at z; cases z
        exact q
      · exact absurd h hb
    · have e' : G.get? b = some o := PySem.W.of_hideAll _ e
      have nb : b ≠ ce.locals := fun z => by
        have := PySem.W.hideAll_none (h := G) (l := [ce.locals]) (b := b) (by simp [z])
        have e2 : (PySem.W.hideAll G [ce.locals]).get? b = some o := e
        rw [this] at e2; cases e2
      obtain ⟨sl, q⟩ := up2 b o (og b o e').1 hnf
      obtain ⟨sl2, q2⟩ := up4 b _ ((hs3.2 b nb).trans q) hnf
      exact ⟨sl2, q2⟩
  first
    | exact wpAny_bind fin
    | exact wpAny_bind (wpAny_pure (wpAny_bind fin))
end
section
variable {X : Cx}
theorem pe_lcX {E : XK} {elt tg iter : Expr} {ifs : List Expr} {scope : Scope} {own : List (Str × Nat)} {pos : Pos} {wi : TI} {g : TG} {tt : TT} {te : TE} (hc : X.calm = true) (hsk : X.stack = X.env :: X.outer) (hfk : X.env.frame = some X.env.locals) (tk : Takes X fun cls d _ H => E cls d H)
    (hN : X.N.Nodup) (hi : PI X tg iter wi) (ok : BlkOk X.N X.env.scope scope own)
    (hg : ∀ (s : Shared) (H : Hp) (C : Addr) (cl : List (Str × Addr)) (fp : List Addr), PG (X.blk s H scope (compEnvC scope cl C X.env) fp) tg g) (ht : ∀ (s : Shared) (H : Hp) (C : Addr) (cl : List (Str × Addr)) (fp : List Addr), PTs (X.blk s H scope (compEnvC scope cl C X.env) fp) ifs tt)
    (he : ∀ (s : Shared) (H : Hp) (C : Addr) (cl : List (Str × Addr)) (fp : List Addr) (xe : Value → Shared → Prop), Passes (L2.CX X.prog X.w) ((X.blk s H scope (compEnvC scope cl C X.env) fp).wish xe) E → PE ((X.blk s H scope (compEnvC scope cl C X.env) fp).wish xe) elt te)
    (hs : ∀ x, foldedSetIterable iter X.env x = pure x := by intro _; rfl) :
    PE X (.ListComp elt [⟨tg, iter, ifs, 0⟩] scope pos) (tLc wi g tt te (own.map (·.2))) := by
  refine ⟨fun pins s σ H Q I h => ?_⟩
  rw [eval_ListComp]
  have hfree : ∀ y ∈ scope.names, y.2 = .free → ∃ c, X.env.cells.lookup y.1 = some c := fun y hy e => by
    rcases ok.free y hy e with k | k
    · exact I.ok.has _ (.inl k)
    · exact I.ok.has _ (.inr k)
  refine comprehension_at (use := none) rfl hs (closure_ok hfree) ok.kind (fun y hy e => by rw [ok.uniq y hy, e])
    (thn (hi.run pins s σ H _ I h) fun xv s1 hx => thn hx fun itv s2 h2 => ?_)
  obtain ⟨it, fp, tn, J, H2, e, I2, T, st2, f2, q⟩ := h2
  subst e
  refine wpAny_newObj_type (newEnv_comp ?_) (by show 0 ≤ sizeLine; decide)
  generalize hD : s2.heap.objs.size = D
  have hDn : H2 D = none := I2.hok.fresh (Nat.le_of_eq hD)
  obtain ⟨W, ⟨m0, w0⟩, turn⟩ := q D hDn
  generalize hs3 : ({ s2 with heap := s2.heap.push { cls := .type "list", data := .seq ([] : List Value).toArray } } : Shared) = s3
  have I3 : Inv X pins σ (upd H2 D (.lst [])) s3 := by
    rw [← hs3]
    refine I2.laid (t' := s2.toks) (fun b o e => Heap.get?_push_of_some _ e) (Nat.le_of_eq hD) ⟨Nat.zero_le _, [], 0, .nil, ?_⟩
    rw [← hD]
    exact Heap.get?_push_size _ rfl
  have h3 : s3.heap = s2.heap.push { cls := .type "list", data := .seq ([] : List Value).toArray } := by rw [← hs3]
  have sz : ∀ b ∈ fp, b < s2.heap.objs.size := fun b hb => by
    obtain ⟨o, e, _⟩ := T.obj _ _ st2 b hb
    exact Heap.lt_size e
  have f3 : ∀ b ∈ fp, FpOk X pins (upd H2 D (.lst [])) b ∧ b < s3.heap.objs.size := fun b hb => by
    have hlt := sz b hb
    refine ⟨⟨?_, (f2 b hb).2⟩, by rw [h3, Heap.size_push]; exact Nat.lt_succ_of_lt hlt⟩
    rw [upd_ne (by rw [← hD]; exact Nat.ne_of_lt hlt)]
    exact (f2 b hb).1
  have st3 : tn 0 s3.heap := T.keep _ _ _ st2 fun b _ o e => by rw [h3]; exact Heap.get?_push_of_some _ e
  have I4 := block_start I3 ok hN f3
  have pg := hg s3 (upd H2 D (.lst [])) s3.heap.objs.size (cellsFrom (s3.heap.objs.size + 1) scope.names (cloFrom X.env.cells scope.names [])) fp
  have pt := ht s3 (upd H2 D (.lst [])) s3.heap.objs.size (cellsFrom (s3.heap.objs.size + 1) scope.names (cloFrom X.env.cells scope.names [])) fp
  have pe := he s3 (upd H2 D (.lst [])) s3.heap.objs.size (cellsFrom (s3.heap.objs.size + 1) scope.names (cloFrom X.env.cells scope.names [])) fp
  show codeAny _ _ (.compStart (.ListComp elt [⟨tg, iter, ifs, 0⟩] scope pos) 0 (.ref it) (.ref D) (compEnvC scope (cellsFrom (s3.heap.objs.size + 1) scope.names (cloFrom X.env.cells scope.names [])) s3.heap.objs.size X.env)) (compEnds (model X.prog X.w) X.A X.xe none (EP X pins σ Q) (.ref D) (compEnvC scope (cellsFrom (s3.heap.objs.size + 1) scope.names (cloFrom X.env.cells scope.names [])) s3.heap.objs.size X.env)) { s3 with heap := pushCells (s3.heap.push { cls := .type "dict", data := .dict #[] }) scope.names }
  have nfp : ∀ b ∈ fp, (upd H2 D (.lst [])) b = none := fun b hb => (f3 b hb).1.1
  generalize hce : compEnvC scope (cellsFrom (s3.heap.objs.size + 1) scope.names (cloFrom X.env.cells scope.names [])) s3.heap.objs.size X.env = ce at I4 pg pt pe ⊢
  have cL : ce.locals = s3.heap.objs.size := by subst hce; rfl
  have cF : ce.frame = X.env.frame := by subst hce; rfl
  generalize hH3 : upd H2 D (.lst []) = H3 at I3 I4 pg pt pe w0 nfp f3
  generalize hs4 : ({ s3 with heap := pushCells (s3.heap.push { cls := .type "dict", data := .dict #[] }) scope.names } : Shared) = s4 at I4 ⊢
  have st4 : tn 0 s4.heap := T.keep _ _ _ st3 fun b _ o e => by rw [← hs4]; exact pushCells_keeps _ _ _ _ (Heap.get?_push_of_some _ e)
  have stat : ∀ {σ' : L2.St} {H' : Hp} {s' : Shared}, Inv (X.blk s3 H3 scope ce fp) [] σ' H' s' → (∀ b ∈ fp, H' b = none) → ∀ b ∈ fp, FpOk (X.blk s3 H3 scope ce fp) [] H' b := fun {σ' H' s'} I' hn b hb =>
    ⟨hn b hb, (I'.ok.exf b hb).1, I'.ok.exfs b hb, .inl hb, fun x c e => (I'.ok.exf b hb).2 x c e, fun p hp => absurd (show p ∈ ([] : List (Addr × Obj)) ++ [] from hp) (by simp)⟩
  -- back in the def's context
  have back : ∀ {pn : List (Addr × Obj)} {σ' : L2.St} {H5 : Hp} {s6 : Shared}, Inv (X.blk s3 H3 scope ce fp) pn σ' H5 s6 → Inv X pins σ H5 s6 ∧ FpOk X pins H5 ce.locals ∧ ∃ m, s6.heap.Ns ce.locals m := fun {pn σ' H5 s6} I6 => by
    have I7 : Inv X pins σ H5 s6 := I3.call' (ch := fp) I6.os I6.base I6.hok I6.bare fun b hb => ⟨(f3 b hb).1.2.2.2.1, (f3 b hb).1.2.1, (f3 b hb).1.2.2.2.2.1, (f3 b hb).1.2.2.2.2.2⟩
    have nC : H5 ce.locals = none := I6.free
    obtain ⟨m, hn, _⟩ := I6.loc
    exact ⟨I7, I3.fpOk (by rw [cL]; exact Nat.le_refl _) nC, m, hn⟩
  have loop : codeAny (model X.prog X.w) X.A (.compLoop (.ListComp elt [⟨tg, iter, ifs, 0⟩] scope pos) 0 (.ref it) (.ref D) ce) (compEnds (model X.prog X.w) X.A X.xe none (EP X pins σ Q) (.ref D) ce) s4 := by
    refine compLoop_any (fun n s' => ∃ i H', Inv (X.blk s3 H3 scope ce fp) [] (wipe σ (own.map (·.2))) H' s' ∧ tn i s'.heap ∧ (∀ b ∈ fp, H' b = none) ∧ W i n H') ?_ m0 ⟨0, H3, I4, st4, nfp, w0⟩
    rintro n s5 ⟨i, H5, I5, st5, n5, w5⟩
    rcases turn i n H5 w5 with ⟨stop, qq⟩ | ⟨go, Nx, hNx, step⟩
    · have td := T.done (X.blk s3 H3 scope ce fp) rfl rfl rfl hc i [] s5 _ H5 (fun _ _ => False) I5 (stat I5 n5) st5 stop
      refine thnF td fun r s6 ⟨hr, I6⟩ => ?_
      subst hr
      obtain ⟨I7, f, m, hn⟩ := back I6
      refine ⟨m, hn, fun h'' sb => ?_⟩
      obtain ⟨g0, g1, g2, g3, g4, g5⟩ := f
      exact ⟨.ref D, H5, I7.turned (t' := s6.toks) (fun b o hb e => (sb.2 b hb).trans e) g0 g1 g3 g4 g5, rfl, qq⟩
    · have ti := T.item (X.blk s3 H3 scope ce fp) rfl rfl rfl hc i [] s5 _ H5 (fun _ _ => False) I5 (stat I5 n5) st5 go
      refine thnF ti fun r s6 ⟨u, hr, h6⟩ => ?_
      subst hr
      refine thnF h6 fun _ s7 ⟨x, H7, I7, r7, y7, st7, n7⟩ => ?_
      have I7' := I7.pinned (stat I7 n7) (T.obj _ _ st7)
      refine thnF (pg.run _ s7 _ H7 x u _ I7' r7 (step x H7 y7)) fun _ s8 ⟨σ8, H8, I8, hw8, q8⟩ => ?_
      refine thnF (pt.run _ s8 σ8 H8 _ I8 q8) fun b s9 ⟨H9, I9, q9⟩ => ?_
      have fin : ∀ {s' : Shared} {H' : Hp}, Inv (X.blk s3 H3 scope ce fp) ([] ++ pinsAt fp s7.heap) σ8 H' s' → Nx H' → ∃ m, m < n ∧ ∃ i H', Inv (X.blk s3 H3 scope ce fp) [] (wipe σ (own.map (·.2))) H' s' ∧ tn i s'.heap ∧ (∀ b ∈ fp, H' b = none) ∧ W i m H' := fun {s' H'} I' nx => by
        obtain ⟨m', hm, w'⟩ := hNx H' nx
        have pin' : ∀ b ∈ fp, ∀ o, s7.heap.get? b = some o → s'.heap.get? b = some o ∧ H' b = none := fun b hb o e =>
          let z := I'.pin (b, o) (List.mem_append_right _ (List.mem_append_right _ (mem_pinsAt hb e)))
          ⟨z.1, z.2.1⟩
        have hl : (wipe σ (own.map (·.2))).length = σ8.length := by rw [← hw8, wipe_length]
        refine ⟨m', hm, i + 1, H', (I'.unpinned (pins := [])).weak hl (fun j v e => ?_), T.keep _ _ _ st7 fun b hb o e => (pin' b hb o e).1, fun b hb => ?_, w'⟩
        · rw [← hw8] at e
          exact (wipe_some e).1
        · obtain ⟨o, e, _⟩ := T.obj _ _ st7 b hb
          exact (pin' b hb o e).2
      cases b with
      | false =>
        simp only [Bool.false_eq_true, if_false] at q9 ⊢
        exact fin I9 q9
      | true =>
        simp only [if_true] at q9 ⊢
        have run := (pe (fun u s' => ∃ (pn : List (Addr × Obj)) (σ' : L2.St) (H' : Hp) (s0 : Shared), Inv (X.blk s3 H3 scope ce fp) pn σ' H' s0 ∧ L2.CX X.prog X.w X.stack H' s0 E u s') fun pn σ' H' s0 e s' I' c => ⟨pn, σ', H', s0, I'.unwish, c⟩).run _ s9 σ8 H9 _ (I9.wish _) q9
        refine wpAny_mono run (fun z s10 hz => ?_) fun u s' hu => ?_
        · obtain ⟨yv, H10, I10, r10, acc, hD10, hz10, nx⟩ := hz
          exact app_ok (X := X.blk s3 H3 scope ce fp) I10.unwish hD10 hz10 r10 fun s11 I11 => fin I11 nx
        · obtain ⟨pn, σ', H', s0, I', c⟩ := hu
          obtain ⟨I7, f, m, hn⟩ := back I'
          exact block_out I7 hsk hfk tk cF hn f c
  exact codeAny_compStart_list loop (T.self X.A 0 _ _ _ st4 loop)
end
end Lw

namespace Lw
open PySem PySem.Spec PyProof.Rows L2
/-! ## a method called in a try whose suite reads the slots -/
def tMethW (C : Addr) (m : Str) (sp : Sp) (E : L2.St → XK) (ta : TE) : TE := fun σ H Q => ta σ H fun x H1 => ∃ a dx fs, x = .ref a ∧ H1 a = some (.ins C dx fs) ∧ fs.lookup m = none ∧ sp [x] H1 Q (E σ)
section
variable {X : Cx} {CX : CXT} {k : Nat} {C : Addr} {ps : List Str} {sp : Sp} {E : L2.St → XK} {m : Str} {pos apos : Pos} {o : Expr} {ta : TE}
theorem pe_methW0 {pl : Sem Bool} (ho : PE X o ta) (c : Cls X.K C) (h : HasM X.prog X.w X.K X.mg X.base CX k C m ps sp) (hr : Room k X.A) (hx : ∀ σ, PassesAt CX X σ (E σ))
    (ht : eval (.Call (.Attribute o m apos) [] [] pos) X.env = (do
      let ov ← eval o X.env
      standAt apos.atName
      let (f, first) ← holding [ov] (getMethod ov m pl)
      callWith pos f first (backTo pos (starEach [] X.env)) (backToKw pos (keywordEach [] X.env))) := by rfl) :
    PE X (.Call (.Attribute o m apos) [] [] pos) (tMethW C m sp E ta) := by
  obtain ⟨f, fd, hm, hb, F⟩ := h.ex
  refine ⟨fun pins s σ H Q I h => ?_⟩
  refine PySem.W.methodCall_KW (pl := pl) (thn (ho.run pins s σ H _ I h) fun u s1 ⟨x, H1, I1, rx, a, dx, fs, ex, ea, l, q⟩ => ?_) ht
  subst ex
  obtain rfl : u = Value.ref a := rx
  refine getmeth_ok I1 ea c hm l ?_
  exact PySem.W.callWith_K0 (first := [.ref a]) I1.kIn hm.kp (run_fnS (us := [.ref a]) (vs := [.ref a]) (E := E) F hr hb (hx σ) I1 (.cons rfl .nil) q)
end
theorem ee_methW {C : Addr} {m : Str} {S : Pm} {E : L2.St → XK} {ta : TE} {σ : L2.St} {G : Hp} {Q : V → Hp → Prop}
    (h : Ee ta σ G fun x G1 => ∃ a dx fs, x = .ref a ∧ G1 a = some (.ins C dx fs) ∧ fs.lookup m = none ∧ S [x] G1 Q (dn (E σ))) : Ee (tMethW C m (up S) E ta) σ G Q := fun H Q' e l =>
  h H _ e fun x G1 H1 e1 ⟨a, dx, fs, h1, h2, h3, h4⟩ => ⟨a, dx, fs, h1, e1 _ _ h2, h3, ⟨G1, Q, dn (E σ), e1, h4, l, fun c d G' H' e' h' => h' H' e'⟩⟩
theorem dn_we {W : WX} {C : Addr} {ts : TS} {D : Ek} {σ : L2.St} {G : Hp} (hW : ∀ σ' G' H', Ex G' H' → Es ts D σ' G' → W (.ref C) none σ' H') (h : Es ts D σ G) : dn (WE W σ) (.ref C) none G := fun H e => hW σ G H e h
section
variable {K : PySem.W.Frag} {σ : L2.St} {G : Hp}
theorem ee_lcT {tl : TE} {g : TG} {tt : TT} {te : TE} {vs : List Nat} {Q : V → Hp → Prop}
    (h : Ee tl σ G fun v G1 => ∃ a xs, v = .ref a ∧ SqT K G1 a xs ∧ ∀ p, G1 p = none → ∃ Pv : Nat → List V → Hp → Prop, Pv 0 [] G1 ∧ (∀ i acc G, Pv i acc G → G p = none ∧ acc.length < sizeLine ∧ SqT K G a xs) ∧
      (∀ i acc x G, xs[i]? = some x → Pv i acc G → Eg g x (wipe σ vs) (upd G p (.lst acc)) fun σ2 G2 => wipe σ2 vs = wipe σ vs ∧ Et tt σ2 G2 fun b G3 =>
        if b = true then Ee te σ2 G3 fun y G4 => G4 p = some (.lst acc) ∧ ∃ G5, Ex (upd G5 p (.lst acc)) G4 ∧ Pv (i + 1) (acc ++ [y]) G5 else G3 p = some (.lst acc) ∧ ∃ G5, Ex (upd G5 p (.lst acc)) G3 ∧ Pv (i + 1) acc G5) ∧
      (∀ acc G, Pv xs.length acc G → Q (.ref p) (upd G p (.lst acc)))) : Ee (tLc (iTup K tl) g tt te vs) σ G Q := by
  refine ee_lc (ei_tup fun H Q' e l => h H _ e fun v G1 H1 e1 ⟨a, xs, h1, h2, hh⟩ => l _ G1 H1 e1 ⟨a, xs, h1, h2, _, (fun G => SqT K G a xs), _, wk_tup (a := a) (xs := xs), fun G p o hg hn => (Ex.new hn).st hg, fun p hp => ?_⟩)
  obtain ⟨Pv, h4, h5, h6, h7⟩ := hh p hp
  refine ⟨Pv, h4, fun i acc G _ p => h5 i acc G p, fun i acc x G G' hi p y => ?_, h7⟩
  obtain ⟨rfl, y⟩ := y
  exact h6 i acc x G y p
theorem ee_lcS {te0 : TE} {j : Nat} {tt : TT} {te : TE} {vs : List Nat} {Q : V → Hp → Prop}
    (h : Ee te0 σ G fun v G1 => ∃ z, v = .str z ∧ ∀ p, G1 p = none → ∃ Pv : Nat → List V → Hp → Prop, Pv 0 [] G1 ∧ (∀ i acc G, Pv i acc G → G p = none ∧ acc.length < sizeLine) ∧
      (∀ i acc c G, z.cps[i]? = some c → Pv i acc G → wipe ((wipe σ vs).set j (some (.str ⟨#[c]⟩))) vs = wipe σ vs ∧ Et tt ((wipe σ vs).set j (some (.str ⟨#[c]⟩))) (upd G p (.lst acc)) fun b G3 =>
        if b = true then Ee te ((wipe σ vs).set j (some (.str ⟨#[c]⟩))) G3 fun y G4 => G4 p = some (.lst acc) ∧ ∃ G5, Ex (upd G5 p (.lst acc)) G4 ∧ Pv (i + 1) (acc ++ [y]) G5 else G3 p = some (.lst acc) ∧ ∃ G5, Ex (upd G5 p (.lst acc)) G3 ∧ Pv (i + 1) acc G5) ∧
      (∀ acc G, Pv z.cps.size acc G → Q (.ref p) (upd G p (.lst acc)))) : Ee (tLc (iStr te0) (gName j) tt te vs) σ G Q := by
  refine ee_lc (ei_str fun H Q' e l => h H _ e fun v G1 H1 e1 ⟨z, h1, hh⟩ => l _ G1 H1 e1 ⟨z, h1, _, (fun _ => True), _, wk_str (z := z), fun G p o hg hn => trivial, fun p hp => ?_⟩)
  obtain ⟨Pv, h4, h5, h6, h7⟩ := hh p hp
  refine ⟨Pv, h4, fun i acc G _ p => ⟨(h5 i acc G p).1, (h5 i acc G p).2, trivial⟩, fun i acc x G G' hi p y => ?_, h7⟩
  obtain ⟨rfl, y⟩ := y
  obtain ⟨c, hc, rfl⟩ := Option.map_eq_some_iff.mp y
  exact eg_name (h6 i acc c G hc p)
end
/-- what does not come needs no wish -/
theorem pass_none {X : Cx} : Passes (L2.CX X.prog X.w) X E0 := fun _ _ _ _ _ _ _ c => by
  obtain ⟨_, _, _, _, _, _, _, _, _, _, _, _, z⟩ := c
  exact z.elim
end Lw

namespace Lw
open PySem PySem.Spec PyProof.Rows L2
/-! ### what is new in a heap; two pieces together -/
def newp (G G' : Hp) : Hp := fun b => match G b with
  | none => G' b
  | some _ => none
def un (F R : Hp) : Hp := fun b => match F b with
  | some o => some o
  | none => R b
theorem newp_of {G G' : Hp} {b : Addr} {o : HO} (h : newp G G' b = some o) : G b = none ∧ G' b = some o := by
  unfold newp at h
  split at h
  · rename_i e; exact ⟨e, h⟩
  · cases h
theorem newp_get {G G' : Hp} {b : Addr} {o : HO} (h : G b = none) (h' : G' b = some o) : newp G G' b = some o := by unfold newp; rw [h]; exact h'
theorem un_l {F R : Hp} : Ex F (un F R) := fun b o h => by unfold un; rw [h]
theorem un_r {F R : Hp} {b : Addr} {o : HO} (h : F b = none) (h' : R b = some o) : un F R b = some o := by unfold un; rw [h]; exact h'
theorem un_of {F R : Hp} {b : Addr} {o : HO} (h : un F R b = some o) : F b = some o ∨ R b = some o := by
  unfold un at h
  split at h
  · rename_i e; exact .inl (e.trans h)
  · exact .inr h
theorem un_ex {F G G' : Hp} (e : Ex F G) (e' : Ex G G') : Ex (un F (newp G G')) G' := fun b o h => by
  rcases un_of h with h | h
  · exact e' _ _ (e _ _ h)
  · exact (newp_of h).2
theorem un_fr {F G G' : Hp} (e' : Ex G G') : Fr F G (un F (newp G G')) G' := fun R d e => by
  refine ⟨e.trans e', fun b => ?_⟩
  cases h : R b with
  | none => exact .inr rfl
  | some o =>
    refine .inl ?_
    have hF := (d b).resolve_right (by rw [h]; simp)
    unfold un newp
    rw [hF, e _ _ h]
theorem un_grow {F G G' G'' : Hp} (e : Ex G' G'') : Ex (un F (newp G G')) (un F (newp G G'')) := fun b o h => by
  rcases un_of h with h' | h'
  · exact un_l _ _ h'
  · obtain ⟨h1, h2⟩ := newp_of h'
    cases hF : F b with
    | some u => have := un_l (R := newp G G') _ _ hF; rw [this] at h; cases h; exact un_l _ _ hF
    | none => exact un_r hF (newp_get h1 (e _ _ h2))
theorem un_at {F G G' : Hp} {b : Addr} {o : HO} (e : Ex F G) (h : G b = none) (h' : G' b = some o) : un F (newp G G') b = some o := un_r (e.nul h) (newp_get h h')
theorem Ap.alloc {T : Hp} {L : List Hp} {G G' : Hp} (a : Ap (T :: L) G) (e : Ex G G') : Ap (un T (newp G G') :: L) G' :=
  Ap.fr (L1 := []) a (un_fr e) (un_ex (a.ex T List.mem_cons_self) e)
theorem Ap.new1 {T : Hp} {L : List Hp} {G : Hp} {p : Addr} {o : HO} (a : Ap (T :: L) G) (h : G p = none) : Ap (upd T p o :: L) (upd G p o) :=
  Ap.fr (L1 := []) a (Fr.new h) (a.ex T List.mem_cons_self).put
theorem Ap.mut1 {T : Hp} {L : List Hp} {G : Hp} {p : Addr} {o u : HO} (a : Ap (T :: L) G) (h : T p = some u) : Ap (upd T p o :: L) (upd G p o) :=
  Ap.fr (L1 := []) a (Fr.mut h) (a.ex T List.mem_cons_self).put
theorem Ap.fr2 {T : Hp} {L : List Hp} {F F' G G' : Hp} (a : Ap (T :: F :: L) G) (f : Fr F G F' G') (e : Ex F' G') : Ap (T :: F' :: L) G' := Ap.fr (L1 := [T]) a f e
/-! ### File.write -/
theorem Ap.sub {L L' : List Hp} {G : Hp} (a : Ap L G) (h : L'.Sublist L) : Ap L' G := ⟨fun F hF => a.ex F (h.subset hF), a.dis.sublist h⟩
/-- all that is new, as a piece -/
theorem Ap.grab {T : Hp} {L : List Hp} {G G' : Hp} (a : Ap (T :: L) G) (e : Ex G G') : Ap (T :: newp G G' :: L) G' := by
  have b := a.junk e
  have d : ∀ F ∈ T :: L, Dis (newp G G') F := fun F hF x => by
    cases h : newp G G' x with
    | none => exact .inl rfl
    | some o => exact .inr ((a.ex F hF).nul (newp_of h).1)
  have n : Ap (newp G G' :: T :: L) G' := ⟨fun F hF => by
    rcases List.mem_cons.mp hF with rfl | hF
    · exact fun b o h => (newp_of h).2
    · exact b.ex F hF, List.pairwise_cons.mpr ⟨d, b.dis⟩⟩
  exact n.perm (List.Perm.swap _ _ _)
theorem Ap.add2 {T : Hp} {L : List Hp} {G : Hp} {p : Addr} {o : HO} (a : Ap (T :: L) G) (h : G p = none) : Ap (T :: one p o :: L) (upd G p o) := (a.add h).perm (List.Perm.swap _ _ _)
theorem one_at {p : Addr} {o : HO} : one p o p = some o := upd_same
end Lw

namespace Lw
open PySem PySem.Spec PyProof.Rows L2
/-! ### lists of ints, and lists of those, as data -/
theorem lay_ints : ∀ ns : List Int, PyData.canLayAll0 (ns.map PyData.int) = true := by
  intro ns; induction ns with
  | nil => rfl
  | cons n r ih => rw [List.map_cons]; simp only [PyData.canLayAll0, PyData.canLay0, ih, Bool.and_self, Bool.true_and]
theorem dep_ints : ∀ ns : List Int, PyData.depthAll (ns.map PyData.int) = 0 := by
  intro ns; induction ns with
  | nil => rfl
  | cons n r ih => rw [List.map_cons]; simp only [PyData.depthAll, PyData.depth, ih]; rfl
theorem sh_ints (ns : List Int) : SeqAt.shaped (.list (ns.map PyData.int)) = true := by
  unfold SeqAt.shaped
  simp only [PyData.canLay0, PyData.depth, lay_ints, dep_ints]
  decide
theorem eqv_all : ∀ ns ms : List Int, PyData.eqvAll (ns.map PyData.int) (ms.map PyData.int) = decide (ns = ms)
  | [], [] => by simp [PyData.eqvAll]
  | [], _ :: _ => by simp [PyData.eqvAll]
  | _ :: _, [] => by simp [PyData.eqvAll]
  | n :: ns, m :: ms => by
    rw [List.map_cons, List.map_cons, PyData.eqvAll, eqv_all ns ms, PyData.eqv]
    by_cases h : n = m <;> by_cases h' : ns = ms <;> simp [h, h']
theorem eqv_int2 (ns ms : List Int) : PyData.eqv (.list (ns.map PyData.int)) (.list (ms.map PyData.int)) = decide (ns = ms) := by rw [PyData.eqv]; exact eqv_all ns ms
theorem int_depth (n : Int) : (PyData.int n).depth < 8 := by simp [PyData.depth]
theorem ints_depth (ns : List Int) : (PyData.list (ns.map PyData.int)).depth < 8 := by simp [PyData.depth, dep_ints]
theorem dep_il : ∀ ds : List (List Int), PyData.depthAll (ds.map fun d => PyData.list (d.map PyData.int)) ≤ 1 := by
  intro ds; induction ds with
  | nil => simp [PyData.depthAll]
  | cons n r ih => rw [List.map_cons]; simp only [PyData.depthAll, PyData.depth, dep_ints]; omega
/-- two lists of ints compared -/
theorem er_neIs {K : PySem.W.Frag} {G : Hp} {Q : V → Hp → Prop} {p r : Addr} {xs ys : List Int} (h : SqL K G p (xs.map V.int)) (h' : SqL K G r (ys.map V.int)) (q : Q (.bl (!decide (xs = ys))) G) : Er (rNeU K) (.ref p) (.ref r) G Q :=
  er_neD (d := .list (xs.map PyData.int)) (d' := .list (ys.map PyData.int)) (.lst h (dps_ints xs)) (.lst h' (dps_ints ys)) (sh_ints xs) (sh_ints ys) (by rw [eqv_int2]; exact q)
theorem er_eqIs {K : PySem.W.Frag} {G : Hp} {Q : V → Hp → Prop} {p r : Addr} {xs ys : List Int} (h : SqL K G p (xs.map V.int)) (h' : SqL K G r (ys.map V.int)) (q : Q (.bl (decide (xs = ys))) G) : Er (rEqU K) (.ref p) (.ref r) G Q :=
  er_eqD (d := .list (xs.map PyData.int)) (d' := .list (ys.map PyData.int)) (.lst h (dps_ints xs)) (.lst h' (dps_ints ys)) (sh_ints xs) (sh_ints ys) (by rw [eqv_int2]; exact q)
end Lw

namespace Lw
open PySem PySem.Spec PyProof.Rows L2
/-! ## sorted(xs, key=lambda each: each[0]) -/
section
variable {prog : Program} {w : World} {A : Around}
/-- the lambda called with a tuple gives its first item, and keeps all that stands -/
theorem key_call {s : Shared} {f t c' : Addr} {name qual : Str} {params : Arguments} {scope : Scope} {p1 p2 pos : Pos} {j : Nat} {pm ctv v : Value} {its : Array Value} {k : PyData}
    (hlim : s.heap.NoLimit) (hdep : A.depth < recursionLimit)
    (hf : s.heap.get? f = some (PySem.W.kla_obj name qual params (.Subscript (.Name "each" p1) (.Constant (.int 0) j p2) pos) scope [] pm c' ctv))
    (hcode : s.heap.CodeRec (.ref c') qual)
    (hbind : bindArgs (PySem.W.kla_fn name qual params (.Subscript (.Name "each" p1) (.Constant (.int 0) j p2) pos) scope [] pm (.ref c') ctv) ⟨[Value.ref t], []⟩ = pure [(("each" : Str), Value.ref t)])
    (hk : scope.kind = .function) (hco : scope.isCoroutine = false) (hgen : scope.isGenerator = false) (hcell : ∀ x ∈ scope.names, x.2 ≠ .cell) (hl : scope.names.lookup ("each" : Str) = some .local)
    (ht : IsTup s.heap t its) (h0 : its[0]? = some v) (hr : Reads s.heap v k []) :
    wpAny (model prog w) A (PySem.call (.ref f) [.ref t]) (PySem.W.KeyPure k s) (fun _ _ => False) s := by
  have rc : codeAny (model prog w) A (.call (.ref f) ⟨[Value.ref t], []⟩) (fun r s' => ∃ u, r = .ok (.ret u) ∧ PySem.W.KeyPure k s u s') s := by
    refine PySem.W.kla_callFunE hdep hf rfl hco hgen rfl hcode ?_
    rw [hbind]
    refine wpAny_pure (wpAny_newFunctionEnv hcell (fun x hx => ?_) (fun h₁ hns hsb => ⟨hlim.fresh _ hsb, ?_⟩) hk)
    · rw [List.mem_singleton] at hx; subst hx; exact hl
    have kp : ∀ b o, s.heap.get? b = some o → h₁.get? b = some o := fun b o e => hsb.extBut b o (Nat.ne_of_lt (Heap.lt_size e)) (Heap.get?_push_of_some _ e)
    have ht' : IsTup h₁ t its := let ⟨o, a, b, n, d⟩ := ht; ⟨o, kp _ _ a, b, n, d⟩
    refine PySem.W.kla_codeExpr (Subscript_ (wpAny_Name (wpAny_loadName_local hk hl hns (by rfl) ?_) (by decide)))
    refine wpAny_Constant_int ?_
    refine subscriptTail_builtinR (x := v) ht'.typeIs slot_tuple_getitem.lookup (getItem_tuple (j := 0) ht' (by decide) (by decide) ?_ h0 ⟨rfl, ?_⟩)
    · have hz : 0 < its.size := (Array.getElem?_eq_some_iff.mp h0).1
      rw [seqIndex_of (by omega) (by omega)]; simp
    · exact ⟨v, rfl, h₁, _, rfl, kp, PyProof.Rows.Reads.keeps kp hr⟩
  refine wpAny_call (codeAny_mono rc fun r s' ⟨u, e, h⟩ => ?_)
  subst e
  exact h
end
end Lw

namespace Lw
open PySem PySem.Spec PyProof.Rows L2 LamX
/-- an item whose first part is a mark -/
def EntK (K : PySem.W.Frag) (H : Hp) (x : V) (k : Int × Int) : Prop := ∃ t m rest, x = .ref t ∧ SqT K H t (.ref m :: rest) ∧ SqT K H m [.int k.1, .int k.2]
abbrev EntsK (K : PySem.W.Frag) (H : Hp) (xs : List (V × (Int × Int))) : Prop := ∀ x ∈ xs, EntK K H x.1 x.2
/-- the order of marks -/
def mkLe (p q : V × (Int × Int)) : Bool := decide (p.2.1 < q.2.1 ∨ (p.2.1 = q.2.1 ∧ p.2.2 ≤ q.2.2))
def tSortL (K : PySem.W.Frag) (T : List (Addr × Str)) (t : TA) : TE := fun σ H Q => t σ H fun vs H1 => ∃ (a : Addr) (xs : List (V × (Int × Int))), vs = [.ref a] ∧ SqL K H1 a (xs.map (·.1)) ∧ EntsK K H1 xs ∧ Tabs T H1 ∧
  ∀ H2 p, ExtN H1 H2 → Tabs T H2 → H2 p = none → Q (.ref p) (upd H2 p (.lst ((xs.mergeSort mkLe).map (·.1))))
theorem extN_rd {H H' : Hp} (e : ExtN H H') {a : Addr} {u : HO} (h : Rd H a u) (n : ∀ ps, u ≠ .tbl ps) : Rd H' a u := by
  rcases h with h | ⟨o, h⟩
  · exact .inl (e _ _ h n)
  · exact .inr ⟨o, e _ _ h (fun ps z => by cases z)⟩
theorem extN_sl {K : PySem.W.Frag} {H H' : Hp} (e : ExtN H H') {a : Addr} {xs : List V} (h : SqL K H a xs) : SqL K H' a xs := h.elim (fun r => .inl (extN_rd e r (fun ps z => by cases z))) .inr
theorem extN_st {K : PySem.W.Frag} {H H' : Hp} (e : ExtN H H') {a : Addr} {xs : List V} (h : SqT K H a xs) : SqT K H' a xs := h.elim (fun r => .inl (extN_rd e r (fun ps z => by cases z))) .inr
theorem EntK.ext {K : PySem.W.Frag} {H H' : Hp} {x : V} {k : Int × Int} (h : EntK K H x k) (e : ExtN H H') : EntK K H' x k := by
  obtain ⟨t, m, r, h1, h2, h3⟩ := h
  exact ⟨t, m, r, h1, extN_st e h2, extN_st e h3⟩
/-- what an item reads as, by the heap -/
def RowK (h : Heap) (v : Value) (x : V × (Int × Int)) : Prop := RelV x.1 v ∧ ∃ (t : Addr) (its : Array Value) (u : Value), v = .ref t ∧ IsTup h t its ∧ its[0]? = some u ∧ Reads h u (.tuple [.int x.2.1, .int x.2.2]) []
theorem RowK.of {X : Cx} {pins : List (Addr × Obj)} {σ : L2.St} {H : Hp} {s : Shared} {v : Value} {x : V × (Int × Int)} (I : Inv X pins σ H s) (h : EntK X.K H x.1 x.2) (r : RelV x.1 v) : RowK s.heap v x := by
  obtain ⟨t, m, rest, e, h2, h3⟩ := h
  refine ⟨r, t, ?_⟩
  rw [e] at r
  obtain ⟨its, rv, it, hz⟩ := I.tuple h2
  obtain ⟨jts, rw', jt, hz'⟩ := I.tuple h3
  cases rv with
  | cons h0 ht =>
    rename_i u us
    refine ⟨(u :: us).toArray, u, r, it, by simp, ?_⟩
    obtain rfl : u = Value.ref m := h0
    obtain ⟨o, a1, a2, n, a3⟩ := jt
    cases rw' with
    | cons j1 jr =>
      cases jr with
      | cons j2 jn =>
        cases jn
        obtain ⟨t1, rfl⟩ := j1
        obtain ⟨t2, rfl⟩ := j2
        exact .tuple (as := []) a1 a2 a3 (.cons (as := []) (bs := []) (.int _ _) (.cons (as := []) (bs := []) (.int _ _) .nil))
theorem rows_of {X : Cx} {pins : List (Addr × Obj)} {σ : L2.St} {H : Hp} {s : Shared} (I : Inv X pins σ H s) : ∀ {vs : List Value} {xs : List (V × (Int × Int))}, EntsK X.K H xs → Vals (xs.map (·.1)) vs → PySem.W.EachIs (RowK s.heap) vs xs
  | _, [], _, r => by cases r; exact .nil
  | _, x :: xs, h, r => by
    rw [List.map_cons] at r
    cases r with
    | cons h0 ht => exact .cons (RowK.of I (h x List.mem_cons_self) h0) (rows_of I (fun y hy => h y (List.mem_cons_of_mem _ hy)) ht)
theorem vals_of_rows {h : Heap} : ∀ {vs : List Value} {xs : List (V × (Int × Int))}, PySem.W.EachIs (RowK h) vs xs → Vals (xs.map (·.1)) vs
  | _, _, .nil => .nil
  | _, _, .cons h0 t => .cons h0.1 (vals_of_rows t)
section
variable {X : Cx}
/-- the scope of the lambda -/
structure LamK (scope : Scope) : Prop where
  kind : scope.kind = .function
  co : scope.isCoroutine = false
  gen : scope.isGenerator = false
  own : ∀ y ∈ scope.names, y.2 ≠ .cell
  nofree : ∀ y ∈ scope.names, y.2 ≠ .free
  at_ : scope.names.lookup ("each" : Str) = some .local
  clo : ∀ cells : List (Str × Addr), cloFrom cells scope.names [] = []
theorem pe_sortL {T : List (Addr × Str)} {c P : Addr} {e : Expr} {es : List Expr} {t : TA} {params : Arguments} {scope : Scope} {x : Str} {p p1 p2 p3 lpos kpos pos : Pos} {j k : Nat} (hr : Room k X.A)
    (TB : TabB X.base X.mg c P) (hcode : X.env.code = .ref c) (hmT : (P, X.env.qual ++ "<lambda>") ∈ T) (hu : ∀ q ∈ T, q.1 = P → q.2 = X.env.qual ++ "<lambda>") (hg : Gl X x) (hm : X.mg x = none) (hv : bootBuiltins x = some (.builtin "sorted")) (ha : PA X (e :: es) t)
    (L : LamK scope) (hdef : defaultsOf params X.env = ([], []))
    (hbind : ∀ (qual : Str) (pm cdv ctv u : Value), bindArgs (PySem.W.kla_fn "<lambda>" qual params (.Subscript (.Name "each" p1) (.Constant (.int 0) j p2) p3) scope [] pm cdv ctv) ⟨[u], []⟩ = pure [(("each" : Str), u)])
    (hn : x ≠ "__name__" := by decide) (hdb : (x == ("__debug__" : Str)) = false := by decide)
    (hb : backTo pos (starEach (e :: es) X.env) = (false, eval e X.env) :: backTo pos (starEach es X.env) := by rfl) (hpl : (backTo pos (starEach (e :: es) X.env)).any (·.1) = false := by rfl) :
    PE X (.Call (.Name x p) (e :: es) [⟨some "key", .Lambda params (.Subscript (.Name "each" p1) (.Constant (.int 0) j p2) p3) scope lpos, kpos⟩] pos) (tSortL X.K T t) := by
  refine ⟨fun pins s σ H Q I h => ?_⟩
  refine wpAny_Call_Name_kw (ld_blt I hg hm hv ?_ hn hdb)
  refine PyProof.Rows.callWith_kw (thn (ha.run pos pins s σ H _ I h) fun us s1 ⟨vs, H1, I1, r1, a, xs, ev, hs, hE, hT, q⟩ => ?_) hb hpl (by rfl) (by rfl)
  subst ev
  obtain rfl := Vals.ref1 r1
  show wpAny _ _ (evalAll [do let v ← eval (.Lambda params (.Subscript (.Name "each" p1) (.Constant (.int 0) j p2) p3) scope lpos) X.env; standAt pos; pure v]) _ _ s1
  refine wpAny_evalAll_cons (wpAny_bind (lam_make2 I1 TB hcode hmT hu hT hdef (fun y hy e => absurd e (L.nofree y hy)) fun f c' pm ctv H2 s2 I2 eN hT2 hf hfn hfr hco => ?_))
  refine wpAny_bind (wpAny_standAt (wpAny_pure (wpAny_evalAll_nil ?_)))
  show wpAny _ _ (PySem.call (.builtin "sorted") [.ref a] [(Str.ofString "key", .ref f)]) _ _ s2
  rw [L.clo] at hf
  have hs2 := extN_sl eN hs
  obtain ⟨its, rv, hl, hz⟩ := I2.list hs2
  have hE2 : EntsK X.K H2 xs := fun y hy => (hE y hy).ext eN
  obtain ⟨⟨oc, vs, t1, hoc, hdc, hvc⟩, _, _⟩ := I2.hok c' _ hco
  rw [List.length_map] at hz
  refine PySem.W.sorted_key_data (b := false) (R := RowK s2.heap) (fun x : V × (Int × Int) => .tuple [.int x.2.1, .int x.2.2]) hl.isList (rows_of I2 hE2 rv) (PySem.W.AllAlike.of fun _ _ => by simp [PySem.W.alike, PySem.W.alikeAll]) (PySem.W.Sortable.tuples fun _ => ⟨_, _, rfl⟩) hz (fun y _ => ?_)
    (PyProof.Rows.ksk_s1 _ _) (fun _ => PyProof.Rows.ksk_l1 _ _) (fun _ => PyProof.Rows.ksk_t1 _ _) (fun v y hR _ h tk kp => ?_) fun out c3 h' tk kp hfree hD hlen eo => ?_
  · have hd : (PyData.tuple [.int y.2.1, .int y.2.2]).depth = 1 := by simp [PyData.depth, PyData.depthAll]
    have := hr.un
    omega
  · obtain ⟨_, t, jts, u, rfl, it, h0, hrd⟩ := hR
    refine key_call (s := { s2 with heap := h, toks := tk }) (I2.nolimit.keeps kp) ?_ (kp _ _ hf) ⟨c', oc, vs, t1, rfl, kp _ _ hoc, hdc, hvc⟩ (hbind _ _ _ _ _) L.kind L.co L.gen L.own L.at_ (it.keeps kp) h0 (PyProof.Rows.Reads.keeps kp hrd)
    have := hr.dp
    show X.A.depth < recursionLimit
    omega
  · rw [PySem.W.dataLe_ii (β := V × (Int × Int)) (fun y => y.2.1) (fun y => y.2.2)] at eo
    have hl2 : ((xs.mergeSort mkLe).map (·.1)).length ≤ sizeLine := by rw [List.length_map, (List.mergeSort_perm _ _).length_eq]; exact hz
    exact ⟨.ref _, upd H2 (s2.heap.objs.size + 1) (.lst ((xs.mergeSort mkLe).map (·.1))), I2.laid (t' := tk) kp (Nat.le_succ _) ⟨hl2, _, c3, vals_of_rows eo, hD⟩, rfl, q H2 _ eN hT2 (I2.hok.fresh (Nat.le_succ _))⟩
end
end Lw

namespace Lw
open PySem PySem.Spec PyProof.Rows L2
/-! ## {k: v for ..} whose keys are tuples -/
theorem d_dictSetT {X : Cx} {pins : List (Addr × Obj)} {σ : L2.St} {H : Hp} {s : Shared} {E : Value → Shared → Prop} {D b : Addr} {kvs : List (List L2.Key × V)} {k : List L2.Key} {v : V} {u r : Value} {Q : Unit → Shared → Prop} (hu : X.A.units + 1 < cLine) (I : Inv X pins σ H s) (hD : H D = some (.dT kvs)) (hz : kvs.length < sizeLine)
    (hb : H b = some (.tup (k.map kV))) (ry : RelV (.ref b) u) (rv : RelV v r) (h : ∀ s', Inv X pins σ (upd H D (.dT (putK kvs k v))) s' → Q () s') : wpAny (model X.prog X.w) X.A (dictSet D u r) Q E s := by
  cases (show u = Value.ref b from ry)
  obtain ⟨z, hd, xs, rel, dd⟩ := dt_of I.hok hD
  have hzx : xs.length ≤ sizeLine := by rw [← Paired.length rel]; exact z
  have hl : (putK kvs k v).length ≤ sizeLine := by have := length_putK kvs k v; omega
  refine wpAny_dictSet_heap (hsz := hzx) (show X.A.units < cLine by omega) (key_of I.hok hb) dd fun h' dd' hs => h _ ?_
  obtain ⟨q, es, ep, hq, h2, h3, h4, _, h5⟩ := dd'
  refine d_write I (by rw [hD]; exact True.intro) hs ⟨q, hq⟩ ⟨hl, hd, _, (rel.put k hb rv).keeps fun c ys ec => ?_, q, es, ep, hq, h2, h3, h4, h5⟩
  rw [upd_ne (ne_of ec hD (fun z => nomatch z))]
  exact ec
section
variable {X : Cx}
def tDcT (wi : TI) (g : TG) (tt : TT) (tk tv : TE) (vs : List Nat) : TE := fun σ H Q => wi σ H fun J H1 => ∀ D, H1 D = none → ∃ W : Nat → Nat → Hp → Prop, (∃ m, W 0 m (upd H1 D (.dT []))) ∧ ∀ i m H, W i m H →
  (J.stop i H ∧ Q (.ref D) H) ∨ (J.go i H ∧ ∃ Nx : Hp → Prop, (∀ H', Nx H' → ∃ m', m' < m ∧ W (i + 1) m' H') ∧ ∀ x H', J.yld i H x H' → g x (wipe σ vs) H' fun σ2 H2 => wipe σ2 vs = wipe σ vs ∧ tt σ2 H2 fun b H3 =>
    if b = true then tk σ2 H3 fun y H4 => tv σ2 H4 fun z H5 => ∃ kvs k b, y = .ref b ∧ H5 b = some (.tup (k.map kV)) ∧ H5 D = some (.dT kvs) ∧ kvs.length < sizeLine ∧ Nx (upd H5 D (.dT (putK kvs k z))) else Nx H3)
theorem dcT_core {pins : List (Addr × Obj)} {s : Shared} {σ : L2.St} {H : Hp} {Q : VK} {kx vx tg iter : Expr} {ifs : List Expr} {scope : Scope} {own : List (Str × Nat)} {pos pos' : Pos} {wi : TI} {g : TG} {tt : TT} {tk tv : TE} {use : Option (Value → Sem Unit)} {Qf : Value → Shared → Prop}
    (hc : X.calm = true) (hroom : X.A.units + 1 < cLine) (hN : X.N.Nodup) (I : Inv X pins σ H s) (hi : PI X tg iter wi) (ok : BlkOk X.N X.env.scope scope own)
    (hg : ∀ (s : Shared) (H : Hp) (C : Addr) (cl : List (Str × Addr)) (fp : List Addr), PG (X.blk s H scope (compEnvC scope cl C X.env) fp) tg g) (ht : ∀ (s : Shared) (H : Hp) (C : Addr) (cl : List (Str × Addr)) (fp : List Addr), PTs (X.blk s H scope (compEnvC scope cl C X.env) fp) ifs tt)
    (hk : ∀ (s : Shared) (H : Hp) (C : Addr) (cl : List (Str × Addr)) (fp : List Addr), PE (X.blk s H scope (compEnvC scope cl C X.env) fp) kx tk)
    (he : ∀ (s : Shared) (H : Hp) (C : Addr) (cl : List (Str × Addr)) (fp : List Addr), PE (X.blk s H scope (compEnvC scope cl C X.env) fp) vx tv) (hs : ∀ x, foldedSetIterable iter X.env x = pure x)
    (h : tDcT wi g tt tk tv (own.map (·.2)) σ H Q)
    (hRR : ∀ D C s' m H', Inv X pins σ H' s' → Q (.ref D) H' → s'.heap.Ns C m → FpOk X pins H' C → compPost (model X.prog X.w) X.A X.xe use Qf (.ref D) C (.ok .next) s') :
    wpAny (model X.prog X.w) X.A (comprehension (.DictComp kx vx [⟨tg, iter, ifs, 0⟩] scope pos) scope X.env pos' newDict false (eval iter X.env) use) Qf X.xe s := by
  have hfree : ∀ y ∈ scope.names, y.2 = .free → ∃ c, X.env.cells.lookup y.1 = some c := fun y hy e => by
    rcases ok.free y hy e with k | k
    · exact I.ok.has _ (.inl k)
    · exact I.ok.has _ (.inr k)
  refine wpAny_comprehension_free (use := use) rfl hs (closure_ok hfree) ok.kind (fun y hy e => by rw [ok.uniq y hy, e])
    (thn (hi.run pins s σ H _ I h) fun xv s1 hx => thn hx fun itv s2 h2 => ?_)
  obtain ⟨it, fp, tn, J, H2, e, J2, T, sv2, f2, q⟩ := h2
  subst e
  refine wpAny_newObj_type (newEnv_comp ?_)
  generalize hD : s2.heap.objs.size = D
  have hDq : H2 D = none := J2.hok.fresh (Nat.le_of_eq hD)
  obtain ⟨W, ⟨m0, w0⟩, trn⟩ := q D hDq
  -- the new list
  generalize hs3 : ({ s2 with heap := s2.heap.push { cls := .type "dict", data := .dict #[] } } : Shared) = s3
  have J3 : Inv X pins σ (upd H2 D (.dT [])) s3 := by
    rw [← hs3]
    refine J2.laid (t' := s2.toks) (fun b o e => Heap.get?_push_of_some _ e) (Nat.le_of_eq hD) ?_
    rw [← hD]
    exact dt_empty s2.heap J2.big
  have h3 : s3.heap = s2.heap.push { cls := .type "dict", data := .dict #[] } := by rw [← hs3]
  have sz : ∀ b ∈ fp, b < s2.heap.objs.size := fun b hb => by
    obtain ⟨o, e, _⟩ := T.obj _ _ sv2 b hb
    exact Heap.lt_size e
  have f3 : ∀ b ∈ fp, FpOk X pins (upd H2 D (.dT [])) b ∧ b < s3.heap.objs.size := fun b hb => by
    have hlt := sz b hb
    refine ⟨⟨?_, (f2 b hb).2⟩, by rw [h3, Heap.size_push]; exact Nat.lt_succ_of_lt hlt⟩
    rw [upd_ne (by rw [← hD]; exact Nat.ne_of_lt hlt)]
    exact (f2 b hb).1
  have sv3 : tn 0 s3.heap := T.keep _ _ _ sv2 fun b _ o e => by rw [h3]; exact Heap.get?_push_of_some _ e
  have J4 := block_start J3 ok hN f3
  have pg := hg s3 (upd H2 D (.dT [])) s3.heap.objs.size (cellsFrom (s3.heap.objs.size + 1) scope.names (cloFrom X.env.cells scope.names [])) fp
  have pt := ht s3 (upd H2 D (.dT [])) s3.heap.objs.size (cellsFrom (s3.heap.objs.size + 1) scope.names (cloFrom X.env.cells scope.names [])) fp
  have pk := hk s3 (upd H2 D (.dT [])) s3.heap.objs.size (cellsFrom (s3.heap.objs.size + 1) scope.names (cloFrom X.env.cells scope.names [])) fp
  have pe := he s3 (upd H2 D (.dT [])) s3.heap.objs.size (cellsFrom (s3.heap.objs.size + 1) scope.names (cloFrom X.env.cells scope.names [])) fp
  show codeAny _ _ (.compStart (.DictComp kx vx [⟨tg, iter, ifs, 0⟩] scope pos) 0 (.ref it) (.ref D) (compEnvC scope (cellsFrom (s3.heap.objs.size + 1) scope.names (cloFrom X.env.cells scope.names [])) s3.heap.objs.size X.env)) (compPost (model X.prog X.w) X.A X.xe use Qf (.ref D) s3.heap.objs.size) { s3 with heap := pushCells (s3.heap.push { cls := .type "dict", data := .dict #[] }) scope.names }
  have nfq : ∀ b ∈ fp, (upd H2 D (.dT [])) b = none := fun b hb => (f3 b hb).1.1
  generalize hce : compEnvC scope (cellsFrom (s3.heap.objs.size + 1) scope.names (cloFrom X.env.cells scope.names [])) s3.heap.objs.size X.env = ce at J4 pg pt pk pe ⊢
  have cL : ce.locals = s3.heap.objs.size := by subst hce; rfl
  generalize hH3 : upd H2 D (.dT []) = H3 at J3 J4 pg pt pk pe w0 nfq f3
  generalize hs4 : ({ s3 with heap := pushCells (s3.heap.push { cls := .type "dict", data := .dict #[] }) scope.names } : Shared) = s4 at J4 ⊢
  have sv4 : tn 0 s4.heap := T.keep _ _ _ sv3 fun b _ o e => by rw [← hs4]; exact pushCells_keeps _ _ _ _ (Heap.get?_push_of_some _ e)
  have stat : ∀ {σ' : L2.St} {H' : Hp} {s' : Shared}, Inv (X.blk s3 H3 scope ce fp) [] σ' H' s' → (∀ b ∈ fp, H' b = none) → ∀ b ∈ fp, FpOk (X.blk s3 H3 scope ce fp) [] H' b := fun {σ' H' s'} I' hn b hb =>
    ⟨hn b hb, (I'.ok.exf b hb).1, I'.ok.exfs b hb, .inl hb, fun x c e => (I'.ok.exf b hb).2 x c e, fun p hp => absurd (show p ∈ ([] : List (Addr × Obj)) ++ [] from hp) (by simp)⟩
  have loop : codeAny (model X.prog X.w) X.A (.compLoop (.DictComp kx vx [⟨tg, iter, ifs, 0⟩] scope pos) 0 (.ref it) (.ref D) ce) (compPost (model X.prog X.w) X.A X.xe use Qf (.ref D) s3.heap.objs.size) s4 := by
    refine compLoop_anyD (fun n s' => ∃ i H', Inv (X.blk s3 H3 scope ce fp) [] (wipe σ (own.map (·.2))) H' s' ∧ tn i s'.heap ∧ (∀ b ∈ fp, H' b = none) ∧ W i n H') ?_ m0 ⟨0, H3, J4, sv4, nfq, w0⟩
    rintro n s5 ⟨i, H5, J5, sv5, n5, w5⟩
    rcases trn i n H5 w5 with ⟨stop, qq⟩ | ⟨go, Nx, hNx, step⟩
    · have td := T.done (X.blk s3 H3 scope ce fp) rfl rfl rfl hc i [] s5 _ H5 (fun _ _ => False) J5 (stat J5 n5) sv5 stop
      refine thnF td fun r s6 ⟨hr, J6⟩ => ?_
      subst hr
      -- back in the def's context
      have J7 : Inv X pins σ H5 s6 := J3.call' (ch := fp) J6.os J6.base J6.hok J6.bare fun b hb => ⟨(f3 b hb).1.2.2.2.1, (f3 b hb).1.2.1, (f3 b hb).1.2.2.2.2.1, (f3 b hb).1.2.2.2.2.2⟩
      have nC : H5 s3.heap.objs.size = none := by
        have z : H5 ce.locals = none := J6.free
        rw [cL] at z
        exact z
      obtain ⟨m, hn, _⟩ := J6.loc
      have hn : s6.heap.Ns ce.locals m := hn
      rw [cL] at hn
      exact hRR D s3.heap.objs.size s6 m H5 J7 qq hn (J3.fpOk (Nat.le_refl _) nC)
    · have ti := T.item (X.blk s3 H3 scope ce fp) rfl rfl rfl hc i [] s5 _ H5 (fun _ _ => False) J5 (stat J5 n5) sv5 go
      refine thnF ti fun r s6 ⟨u, hr, h6⟩ => ?_
      subst hr
      refine thnF h6 fun _ s7 ⟨x, H7, J7, r7, y7, sv7, n7⟩ => ?_
      have J7' := J7.pinned (stat J7 n7) (T.obj _ _ sv7)
      refine thnF (pg.run _ s7 _ H7 x u _ J7' r7 (step x H7 y7)) fun _ s8 ⟨σ8, H8, J8, hw8, q8⟩ => ?_
      refine thnF (pt.run _ s8 σ8 H8 _ J8 q8) fun b s9 ⟨H9, J9, q9⟩ => ?_
      -- the trn's end
      have fin : ∀ {s' : Shared} {H' : Hp}, Inv (X.blk s3 H3 scope ce fp) ([] ++ pinsAt fp s7.heap) σ8 H' s' → Nx H' → ∃ m, m < n ∧ ∃ i H', Inv (X.blk s3 H3 scope ce fp) [] (wipe σ (own.map (·.2))) H' s' ∧ tn i s'.heap ∧ (∀ b ∈ fp, H' b = none) ∧ W i m H' := fun {s' H'} I' nx => by
        obtain ⟨m', hm, w'⟩ := hNx H' nx
        have pin' : ∀ b ∈ fp, ∀ o, s7.heap.get? b = some o → s'.heap.get? b = some o ∧ H' b = none := fun b hb o e =>
          let z := I'.pin (b, o) (List.mem_append_right _ (List.mem_append_right _ (mem_pinsAt hb e)))
          ⟨z.1, z.2.1⟩
        have hl : (wipe σ (own.map (·.2))).length = σ8.length := by rw [← hw8, wipe_length]
        refine ⟨m', hm, i + 1, H', (I'.unpinned (pins := [])).weak hl (fun j v e => ?_), T.keep _ _ _ sv7 fun b hb o e => (pin' b hb o e).1, fun b hb => ?_, w'⟩
        · rw [← hw8] at e
          exact (wipe_some e).1
        · obtain ⟨o, e, _⟩ := T.obj _ _ sv7 b hb
          exact (pin' b hb o e).2
      cases b with
      | false =>
        simp only [Bool.false_eq_true, if_false] at q9 ⊢
        exact fin J9 q9
      | true =>
        simp only [if_true] at q9 ⊢
        refine thnF (pk.run _ s9 σ8 H9 _ J9 q9) fun z s10 ⟨yk, H10, J10, r10, q10⟩ => ?_
        refine thnF (pe.run _ s10 σ8 H10 _ J10 q10) fun z2 s11 ⟨yv, H11, J11, r11, kvs, k, b, ek, hb, hD11, hz11, nx⟩ => ?_
        subst ek
        exact d_dictSetT (X := X.blk s3 H3 scope ce fp) hroom J11 hD11 hz11 hb r10 r11 fun s12 J12 => fin J12 nx
  exact codeAny_compStart_dict loop (T.self X.A 0 _ _ _ sv4 loop)
/-- as a value -/
theorem pe_dcT {kx vx tg iter : Expr} {ifs : List Expr} {scope : Scope} {own : List (Str × Nat)} {pos : Pos} {wi : TI} {g : TG} {tt : TT} {tk tv : TE} (hc : X.calm = true) (hroom : X.A.units + 1 < cLine) (hN : X.N.Nodup) (hi : PI X tg iter wi) (ok : BlkOk X.N X.env.scope scope own)
    (hg : ∀ (s : Shared) (H : Hp) (C : Addr) (cl : List (Str × Addr)) (fp : List Addr), PG (X.blk s H scope (compEnvC scope cl C X.env) fp) tg g) (ht : ∀ (s : Shared) (H : Hp) (C : Addr) (cl : List (Str × Addr)) (fp : List Addr), PTs (X.blk s H scope (compEnvC scope cl C X.env) fp) ifs tt)
    (hk : ∀ (s : Shared) (H : Hp) (C : Addr) (cl : List (Str × Addr)) (fp : List Addr), PE (X.blk s H scope (compEnvC scope cl C X.env) fp) kx tk)
    (he : ∀ (s : Shared) (H : Hp) (C : Addr) (cl : List (Str × Addr)) (fp : List Addr), PE (X.blk s H scope (compEnvC scope cl C X.env) fp) vx tv) (hs : ∀ x, foldedSetIterable iter X.env x = pure x := by intro _; rfl) :
    PE X (.DictComp kx vx [⟨tg, iter, ifs, 0⟩] scope pos) (tDcT wi g tt tk tv (own.map (·.2))) := by
  refine ⟨fun pins s σ H Q I h => ?_⟩
  rw [arm_eval_DictComp]
  refine dcT_core hc hroom hN I hi ok hg ht hk he hs h fun D C s' m H' I' q hn f => ⟨m, hn, fun h'' sb => ?_⟩
  obtain ⟨f0, f1, f2, f3, f4, f5⟩ := f
  exact ⟨.ref D, H', I'.turned (t' := s'.toks) (fun b o hb e => (sb.2 b hb).trans e) f0 f1 f3 f4 f5, rfl, q⟩
end
end Lw

namespace Lw
open PySem PySem.Spec PyProof.Rows L2
/-! ## marks of near numbers have different hashes -/
def rol (a : Nat) : Nat := (a * 2147483648) % 18446744073709551616 + a / 8589934592
def ror (a : Nat) : Nat := (a % 2147483648) * 8589934592 + a / 2147483648
theorem ror_at {a h l : Nat} (hl : l < 2147483648) (e : a = h * 2147483648 + l) : ror a = l * 8589934592 + h := by
  unfold ror; omega
theorem rol_at {a h l : Nat} (hl : l < 8589934592) (e : a = h * 8589934592 + l) : rol a = l * 2147483648 + h := by
  unfold rol
  have e1 : a / 8589934592 = h := by omega
  have e2 : a * 2147483648 = h * 18446744073709551616 + l * 2147483648 := by omega
  rw [e1, e2]; omega
theorem spl' (a : Nat) (ha : a < 18446744073709551616) : ∃ h l, l < 8589934592 ∧ h < 2147483648 ∧ a = h * 8589934592 + l := ⟨a / 8589934592, a % 8589934592, by omega, by omega, by omega⟩
theorem ror_rol {a : Nat} (h : a < 18446744073709551616) : ror (rol a) = a := by
  obtain ⟨x, y, h1, h2, e⟩ := spl' a h
  rw [ror_at h2 (rol_at h1 e), e]
theorem rol_lt {a : Nat} (h : a < 18446744073709551616) : rol a < 18446744073709551616 := by
  obtain ⟨x, y, h1, h2, e⟩ := spl' a h
  rw [rol_at h1 e]; omega
def md (x : Int) : Int := x % 18446744073709551616
theorem spl (a : Nat) (ha : a < 18446744073709551616) : ∃ h l, l < 2147483648 ∧ h < 8589934592 ∧ a = h * 2147483648 + l := ⟨a / 2147483648, a % 2147483648, by omega, by omega, by omega⟩
theorem md_add (x k : Int) : md (x + k * 18446744073709551616) = md x := by unfold md; omega
theorem ror_diff {x y : Nat} (hx : x < 18446744073709551616) (hy : y < 18446744073709551616) {t : Nat} (ht : md (x - y) = t) :
    md (ror x - ror y) = md (ror t) ∨ md (ror x - ror y) = md (ror t + 1) ∨ md (ror x - ror y) = md (ror t - 8589934592) ∨ md (ror x - ror y) = md (ror t + 1 - 8589934592) := by
  have htl : t < 18446744073709551616 := by unfold md at ht; omega
  have h1 : (x : Int) - y = t ∨ (x : Int) - y = t - 18446744073709551616 := by unfold md at ht; omega
  obtain ⟨a, b, b1, a1, ex⟩ := spl x hx
  obtain ⟨c, d, d1, c1, ey⟩ := spl y hy
  obtain ⟨f, g, g1, f1, et⟩ := spl t htl
  rw [ror_at b1 ex, ror_at d1 ey, ror_at g1 et]
  have key : ((b : Int) - d = g ∧ ((a : Int) - c = f ∨ (a : Int) - c = f - 8589934592)) ∨ ((b : Int) - d = g - 2147483648 ∧ ((a : Int) - c = f + 1 ∨ (a : Int) - c = f + 1 - 8589934592)) := by omega
  rcases key with ⟨k1, k2 | k2⟩ | ⟨k1, k2 | k2⟩
  · exact .inl (congrArg md (by omega))
  · exact .inr (.inr (.inl (congrArg md (by omega))))
  · refine .inr (.inl ?_)
    rw [← md_add _ 1]
    exact congrArg md (by omega)
  · refine .inr (.inr (.inr ?_))
    rw [← md_add _ 1]
    exact congrArg md (by omega)
/-- what the differences may be -/
def backR (ts : List Int) : List Int := ts.flatMap fun t => if t = 0 then [0] else [md (ror t.toNat), md (ror t.toNat + 1), md (ror t.toNat - 8589934592), md (ror t.toNat + 1 - 8589934592)]
def backM (c : Int) (ts : List Int) : List Int := ts.map fun t => md (t * c)
theorem md_md (x : Int) : md (md x) = md x := by unfold md; omega
theorem md_lt (x : Int) : 0 ≤ md x ∧ md x < 18446744073709551616 := by unfold md; omega
theorem backR_ok {x y : Nat} (hx : x < 18446744073709551616) (hy : y < 18446744073709551616) {ts : List Int} (h : md (rol x - rol y) ∈ ts) : md (x - y) ∈ backR ts := by
  unfold backR
  refine List.mem_flatMap.mpr ⟨_, h, ?_⟩
  by_cases h0 : md (rol x - rol y) = 0
  · rw [if_pos h0]
    have hx' := rol_lt hx
    have hy' := rol_lt hy
    have : rol x = rol y := by unfold md at h0; omega
    have : x = y := by rw [← ror_rol hx, ← ror_rol hy, this]
    subst this
    unfold md; simp
  · rw [if_neg h0]
    obtain ⟨t, ht⟩ := Int.eq_ofNat_of_zero_le (md_lt (rol x - rol y)).1
    have q := ror_diff (rol_lt hx) (rol_lt hy) ht
    rw [ror_rol hx, ror_rol hy] at q
    rw [ht]
    simp only [List.mem_cons, List.not_mem_nil, or_false, Int.toNat_natCast, show ((t : Int)).toNat = t from Int.toNat_natCast t]
    exact q
theorem backM_ok {x y p c : Int} (hpc : md (p * c) = 1) {ts : List Int} (h : md (md (x * p) - md (y * p)) ∈ ts) : md (x - y) ∈ backM c ts := by
  unfold backM
  refine List.mem_map.mpr ⟨_, h, ?_⟩
  unfold md at *
  have e1 : (x * p % 18446744073709551616 - y * p % 18446744073709551616) % 18446744073709551616 = ((x - y) * p) % 18446744073709551616 := by
    rw [← Int.sub_emod, Int.sub_mul]
  rw [e1, Int.mul_emod, Int.emod_emod, ← Int.mul_emod, Int.mul_assoc, Int.mul_emod, hpc, Int.mul_one, Int.emod_emod]
end Lw

namespace Lw
open PySem PySem.Spec PyProof.Rows L2
def p1 : Nat := 11400714785074694791
def p2 : Nat := 14029467366897019727
def p5 : Nat := 2870177450012600261
def i1 : Int := 614540362697595703
def i2 : Int := 839798700976720815
def k0 : Nat := 2 ^^^ (2870177450012600261 ^^^ 3527539)
/-- the sum of a pair's parts -/
def hs (n r : Nat) : Nat := (rol ((rol ((p5 + n * p2) % 18446744073709551616) * p1 % 18446744073709551616 + r * p2) % 18446744073709551616) * p1 % 18446744073709551616 + k0) % 18446744073709551616
def fin (c : Nat) : Int := if c = 18446744073709551615 then 1546275796 else if c < 9223372036854775808 then c else c - 18446744073709551616
def bound : Int := 10000000000000000
def endL : List Int := backR (backM i1 [0, 1546275797, 18446744073709551616 - 1546275797])
def candL (d : Int) : List Int := backM i2 (backR (backM i1 (endL.map fun t => md (t - d * p2))))
def okL (d : Int) : Bool := (candL d).all fun v => if v = 0 then decide (d = 0) else decide (bound < v ∧ v < 18446744073709551616 - bound)
theorem okL_all : ([-7, -6, -5, -4, -3, -2, -1, 0, 1, 2, 3, 4, 5, 6, 7] : List Int).all okL = true := by decide +kernel
theorem fin_inj {a b : Nat} (ha : a < 18446744073709551616) (hb : b < 18446744073709551616) (h : fin a = fin b) : md (a - b) ∈ ([0, 1546275797, 18446744073709551616 - 1546275797] : List Int) := by
  have : ((a : Int) - b = 0) ∨ ((a : Int) - b = 18446744073709551616 - 1546275797 - 3 + 3) ∨ ((a : Int) - b = -(18446744073709551616 - 1546275797)) := by
    unfold fin at h
    split at h <;> split at h <;> (try split at h) <;> (try split at h) <;> omega
  unfold md
  simp only [List.mem_cons, List.not_mem_nil, or_false]
  omega
theorem hs_lt (n r : Nat) : hs n r < 18446744073709551616 := by unfold hs; omega
theorem md_cast (a : Nat) : ((a % 18446744073709551616 : Nat) : Int) = md (a : Int) := by unfold md; omega
theorem md_l (x y : Int) : md (md x - y) = md (x - y) := by unfold md; omega
theorem md_3 (x y z : Int) : md (md (md x - md y) - z) = md (x - y - z) := by unfold md; omega
theorem inv1 : md ((p1 : Int) * i1) = 1 := by decide
theorem inv2 : md ((p2 : Int) * i2) = 1 := by decide
theorem md_r (x y : Int) : md (x - md y) = md (x - y) := by unfold md; omega
theorem mem_of_eq {a b : Int} {L : List Int} (h : a ∈ L) (e : b = a) : b ∈ L := e ▸ h
theorem hs_inj {n m r q : Nat} (hr : r < 8) (hq : q < 8) (hb : ((n : Int) - m).natAbs ≤ 10000000000000000) (h : fin (hs n r) = fin (hs m q)) : n = m ∧ r = q := by
  have h1 := fin_inj (hs_lt _ _) (hs_lt _ _) h
  unfold hs at h1
  have lt : ∀ a : Nat, a % 18446744073709551616 < 18446744073709551616 := fun a => by omega
  generalize ea : (p5 + n * p2) % 18446744073709551616 = a1 at h1
  generalize ea' : (p5 + m * p2) % 18446744073709551616 = a1' at h1
  have la : a1 < 18446744073709551616 := by rw [← ea]; exact lt _
  have la' : a1' < 18446744073709551616 := by rw [← ea']; exact lt _
  generalize ec : rol a1 * p1 % 18446744073709551616 = a3 at h1
  generalize ec' : rol a1' * p1 % 18446744073709551616 = a3' at h1
  generalize eb : (a3 + r * p2) % 18446744073709551616 = b1 at h1
  generalize eb' : (a3' + q * p2) % 18446744073709551616 = b1' at h1
  have lb : b1 < 18446744073709551616 := by rw [← eb]; exact lt _
  have lb' : b1' < 18446744073709551616 := by rw [← eb']; exact lt _
  generalize ef : rol b1 * p1 % 18446744073709551616 = b3 at h1
  generalize ef' : rol b1' * p1 % 18446744073709551616 = b3' at h1
  have h2 : md ((b3 : Int) - b3') ∈ ([0, 1546275797, 18446744073709551616 - 1546275797] : List Int) := mem_of_eq h1 (by rw [md_cast, md_cast, md_l, md_r]; refine congrArg md ?_; push_cast; omega)
  have h3 : md ((rol b1 : Int) - rol b1') ∈ backM i1 [0, 1546275797, 18446744073709551616 - 1546275797] := by
    refine backM_ok (p := p1) inv1 (mem_of_eq h2 ?_)
    rw [← ef, ← ef', md_cast, md_cast]; push_cast; rfl
  have h4 : md ((b1 : Int) - b1') ∈ endL := backR_ok lb lb' h3
  have h5 : md ((a3 : Int) - a3') ∈ endL.map fun t => md (t - ((r : Int) - q) * p2) := by
    refine List.mem_map.mpr ⟨_, h4, ?_⟩
    rw [← eb, ← eb', md_cast, md_cast, md_3]
    refine congrArg md ?_
    push_cast
    rw [Int.sub_mul]
    omega
  have h6 : md ((rol a1 : Int) - rol a1') ∈ backM i1 (endL.map fun t => md (t - ((r : Int) - q) * p2)) := by
    refine backM_ok (p := p1) inv1 (mem_of_eq h5 ?_)
    rw [← ec, ← ec', md_cast, md_cast]; push_cast; rfl
  have h7 := backR_ok la la' h6
  have h8 : md ((n : Int) - m) ∈ candL ((r : Int) - q) := by
    refine backM_ok (p := p2) inv2 (mem_of_eq h7 ?_)
    rw [← ea, ← ea', md_cast, md_cast, md_l, md_r]
    refine Eq.trans ?_ (md_l _ _).symm
    refine Eq.trans ?_ (md_r _ _).symm
    refine congrArg md ?_
    push_cast
    omega
  have hd : ((r : Int) - q) ∈ ([-7, -6, -5, -4, -3, -2, -1, 0, 1, 2, 3, 4, 5, 6, 7] : List Int) := by
    simp only [List.mem_cons, List.not_mem_nil, or_false]; omega
  have h9 := List.all_eq_true.mp (List.all_eq_true.mp okL_all _ hd) _ h8
  by_cases h0 : md ((n : Int) - m) = 0
  · rw [if_pos h0] at h9
    have := of_decide_eq_true h9
    unfold md at h0
    omega
  · rw [if_neg h0] at h9
    have := of_decide_eq_true h9
    unfold md bound at this
    omega
end Lw

namespace Lw
open PySem PySem.Spec PyProof.Rows L2
theorem hashInt_small {n : Int} (h0 : 0 ≤ n) (h1 : n < 2305843009213693951) : hashInt n = n := by
  obtain ⟨k, rfl⟩ := Int.eq_ofNat_of_zero_le h0
  have hm : k % 2305843009213693951 = k := Nat.mod_eq_of_lt (by omega)
  have hn : ((k : Int)).natAbs = k := Int.natAbs_natCast k
  have e : rawHash (k : Int) = k := by
    unfold rawHash
    dsimp only
    rw [if_neg (show ¬ ((k : Int) < 0) by omega), hn]
    rw [show ((k : Int) % ((2 ^ 61 - 1 : Nat) : Int)) = ((k % 2305843009213693951 : Nat) : Int) from (Int.natCast_emod _ _).symm, hm]
    exact if_neg (by simp)
  unfold hashInt
  rw [e]
  exact if_neg (by simp)
theorem fin_range (c : Nat) (h : c < 18446744073709551616) : -9223372036854775808 ≤ fin c ∧ fin c < 9223372036854775808 ∧ fin c ≠ -1 := by
  unfold fin
  by_cases h1 : c = 18446744073709551615
  · rw [if_pos h1]; decide
  · rw [if_neg h1]
    by_cases h2 : c < 9223372036854775808
    · rw [if_pos h2]; omega
    · rw [if_neg h2]; omega
theorem reduce_fin (c : Nat) (h : c < 18446744073709551616) : reduceHash (fin c) = fin c := by
  obtain ⟨h1, h2, h3⟩ := fin_range c h
  unfold reduceHash
  rw [if_pos (by rw [Bool.and_eq_true, decide_eq_true_eq, decide_eq_true_eq]; exact ⟨h1, h2⟩), if_neg (by simpa using h3)]
theorem tuple_hs (n r : Nat) (hn : n < 18446744073709551616) (hr : r < 18446744073709551616) : Builtin.Tuple.tupleHashOf [(n : Int), (r : Int)] = fin (hs n r) := by
  have e1 : ((n : Int) % ((18446744073709551616 : Nat) : Int)).toNat = n := by omega
  have e2 : ((r : Int) % ((18446744073709551616 : Nat) : Int)).toNat = r := by omega
  unfold Builtin.Tuple.tupleHashOf
  dsimp only
  rw [List.foldl_cons, List.foldl_cons, List.foldl_nil]
  rw [show (2 ^ 64 : Nat) = 18446744073709551616 from rfl]
  rw [e1, e2]
  change (if (hs n r == 18446744073709551616 - 1) = true then (1546275796 : Int) else if hs n r < 2 ^ 63 then ((hs n r : Nat) : Int) else ((hs n r : Nat) : Int) - ((18446744073709551616 : Nat) : Int)) = fin (hs n r)
  generalize hs n r = c
  unfold fin
  by_cases h1 : c = 18446744073709551615
  · rw [if_pos h1, if_pos (by rw [h1]; rfl)]
  · rw [if_neg h1, if_neg (by simpa using h1)]
    rfl
/-- the mark's key, its hash -/
def mkK (m : Int × Int) : List L2.Key := [.inl m.1, .inl m.2]
def MkR (m : Int × Int) : Prop := 0 ≤ m.1 ∧ m.1 < 10000000000000000 ∧ 0 ≤ m.2 ∧ m.2 < 8
theorem key_hash {P : Program} {w : World} {m : Int × Int} (h : MkR m) : (tupleKind (mixKind P w)).hash (mkK m) = fin (hs m.1.toNat m.2.toNat) := by
  obtain ⟨a, b⟩ := m
  obtain ⟨h1, h2, h3, h4⟩ := h
  dsimp only at h1 h2 h3 h4
  show reduceHash (Builtin.Tuple.tupleHashOf [hashInt a, hashInt b]) = _
  rw [hashInt_small h1 (by omega), hashInt_small h3 (by omega)]
  obtain ⟨n, rfl⟩ := Int.eq_ofNat_of_zero_le h1
  obtain ⟨r, rfl⟩ := Int.eq_ofNat_of_zero_le h3
  rw [tuple_hs n r (by omega) (by omega), reduce_fin _ (hs_lt _ _)]
  rfl
theorem mkK_inj {a b : Int × Int} (h : mkK a = mkK b) : a = b := by
  unfold mkK at h
  injection h with h1 h2
  injection h2 with h2 _
  injection h1 with h1
  injection h2 with h2
  exact Prod.ext h1 h2
theorem hash_inj {P : Program} {w : World} {a b : Int × Int} (ha : MkR a) (hb : MkR b) (h : (tupleKind (mixKind P w)).hash (mkK a) = (tupleKind (mixKind P w)).hash (mkK b)) : a = b := by
  rw [key_hash ha, key_hash hb] at h
  obtain ⟨h1, h2, h3, h4⟩ := ha
  obtain ⟨k1, k2, k3, k4⟩ := hb
  obtain ⟨e1, e2⟩ := hs_inj (by omega) (by omega) (by omega) h
  exact Prod.ext (by omega) (by omega)
theorem hash_nodup {P : Program} {w : World} : ∀ {ms : List (Int × Int)}, (∀ m ∈ ms, MkR m) → ms.Nodup → (ms.map fun m => (tupleKind (mixKind P w)).hash (mkK m)).Nodup
  | [], _, _ => List.nodup_nil
  | a :: r, h, n => by
    rw [List.nodup_cons] at n
    rw [List.map_cons, List.nodup_cons]
    refine ⟨fun hm => ?_, hash_nodup (fun m hm => h m (List.mem_cons_of_mem _ hm)) n.2⟩
    obtain ⟨b, hb, e⟩ := List.mem_map.mp hm
    have := hash_inj (h b (List.mem_cons_of_mem _ hb)) (h a List.mem_cons_self) e
    subst this
    exact n.1 hb
end Lw

namespace Lw
open PySem PySem.Spec PyProof.Rows L2
/-! ## d.update(d2), keys that are marks -/
def mergeT (kvs more : List (List L2.Key × V)) : List (List L2.Key × V) := more.foldl (fun acc kv => putK acc kv.1 kv.2) kvs
theorem mergeT_len : ∀ (more kvs : List (List L2.Key × V)), (mergeT kvs more).length ≤ kvs.length + more.length
  | [], _ => Nat.le_refl _
  | p :: r, kvs => by
    have h1 := mergeT_len r (putK kvs p.1 p.2)
    have h2 := length_putK kvs p.1 p.2
    show (mergeT (putK kvs p.1 p.2) r).length ≤ _
    rw [List.length_cons]; omega
theorem KT.merge {H : Hp} : ∀ {more : List (List L2.Key × V)} {ys : List (List L2.Key × Addr × Value)} {kvs : List (List L2.Key × V)} {xs : List (List L2.Key × Addr × Value)}, KT H more ys → KT H kvs xs → KT H (mergeT kvs more) (storedAllH xs ys)
  | _, _, _, _, .nil, h => h
  | _, _, _, _, .cons (a := p) (b := q) h0 t, h => by
    obtain ⟨e, hb, rv⟩ := h0
    have h1 := h.put p.1 hb rv
    rw [show storedH _ p.1 q.2.1 q.2.2 = storedH _ q.1 q.2.1 q.2.2 from by rw [e]] at h1
    have h2 := KT.merge t h1
    exact h2
def rUpdT : V → List V → Hp → VK → Prop := fun x xs H Q => ∃ (d o : Addr) (kvs : List (List L2.Key × V)) (ms : List (Int × Int)) (f : Int × Int → V), x = .ref d ∧ xs = [.ref o] ∧ d ≠ o ∧ H d = some (.dT kvs) ∧ H o = some (.dT (ms.map fun m => (mkK m, f m))) ∧ ms.Nodup ∧ (∀ m ∈ ms, MkR m) ∧ kvs.length + ms.length ≤ sizeLine ∧
  Q .non (upd H d (.dT (mergeT kvs (ms.map fun m => (mkK m, f m)))))
theorem mt_updT {X : Cx} (hu : X.A.units + 1 < cLine) : MtR X "dict.update" rUpdT := by
  intro pins s σ H x xs v us Q I rx rxs h
  obtain ⟨d, o, kvs, ms, f, rfl, rfl, hdo, hd, ho, hn, hm, hz, q⟩ := h
  cases rx
  obtain rfl := Vals.ref1 rxs
  obtain ⟨z, hds, xs', rel, dd⟩ := dt_of I.hok hd
  obtain ⟨z2, hos, ys', rel2, dd2⟩ := dt_of I.hok ho
  have l1 := Paired.length rel
  have l2 := Paired.length rel2
  rw [List.length_map] at l2
  have keys : ∀ {a : List (List L2.Key × V)} {b : List (List L2.Key × Addr × Value)}, KT H a b → a.map (·.1) = b.map (·.1) := by
    intro a b r
    induction r with
    | nil => rfl
    | cons h t ih => rw [List.map_cons, List.map_cons, ih, h.1]
  refine call_update_dictH (tupleKind_room_in1 hu) hdo hos dd dd2 (.inr ⟨fun x hx => ?_, ?_⟩) (by rw [← l1, ← l2]; exact hz) fun h' dd' ho' hs => ?_
  · obtain ⟨_, _, _, _, _, _, _, his, _⟩ := dd2
    exact (his x hx).typeIs
  · have e : ys'.map (fun x => (tupleKind (mixKind X.prog X.w)).hash x.1) = ms.map fun m => (tupleKind (mixKind X.prog X.w)).hash (mkK m) := by
      have k := congrArg (List.map (tupleKind (mixKind X.prog X.w)).hash) (keys rel2)
      simp only [List.map_map, Function.comp_def] at k
      exact k.symm
    rw [e]
    exact hash_nodup hm hn
  · have hl : (mergeT kvs (ms.map fun m => (mkK m, f m))).length ≤ sizeLine := by
      have := mergeT_len (ms.map fun m => (mkK m, f m)) kvs
      rw [List.length_map] at this; omega
    obtain ⟨q', es, ep, hq, h2, h3, h4, _, h5⟩ := dd'
    refine ⟨.non, _, d_write (ob := .dT (mergeT kvs (ms.map fun m => (mkK m, f m)))) (t' := s.toks) I (by rw [hd]; exact True.intro) hs ⟨q', hq⟩ ⟨hl, hds, _, (KT.merge rel2 rel).keeps fun c ys ec => ?_, q', es, ep, hq, h2, h3, h4, h5⟩, rfl, q⟩
    rw [upd_ne (ne_of ec hd (fun z => nomatch z))]
    exact ec
/-! known heaps -/
section
variable {σ : L2.St} {G : Hp} {D : Ek} {K : PySem.W.Frag}
theorem em_updT {d o : Addr} {kvs : List (List L2.Key × V)} {ms : List (Int × Int)} {f : Int × Int → V} {Q : V → Hp → Prop} (hd : G d = some (.dT kvs)) (ho : G o = some (.dT (ms.map fun m => (mkK m, f m)))) (hdo : d ≠ o) (hn : ms.Nodup) (hm : ∀ m ∈ ms, MkR m) (hz : kvs.length + ms.length ≤ sizeLine)
    (q : Q .non (upd G d (.dT (mergeT kvs (ms.map fun m => (mkK m, f m)))))) : Em rUpdT (.ref d) [.ref o] G Q := fun H Q' e l => ⟨d, o, kvs, ms, f, rfl, rfl, hdo, e _ _ hd, e _ _ ho, hn, hm, hz, l _ _ _ e.put q⟩
theorem ty_dT {p : Addr} {kvs : List (List L2.Key × V)} (h : G p = some (.dT kvs)) : tyV K "dict" (.ref p) G := .inr (.inr (.inl ⟨rfl, .inr ⟨kvs, h⟩⟩))
theorem ee_dnewT {Q : V → Hp → Prop} (q : ∀ p, G p = none → Q (.ref p) (upd G p (.dT []))) : Ee tDNewT σ G Q := fun H Q' e l p hp => l _ _ _ e.put (q p (e.nul hp))
theorem ee_dnewK {Q : V → Hp → Prop} (q : ∀ p, G p = none → Q (.ref p) (upd G p (.dK []))) : Ee tDNewK σ G Q := fun H Q' e l p hp => l _ _ _ e.put (q p (e.nul hp))
theorem dget_up {G H : Hp} {a : Addr} {y : V} {r : Option V} (e : Ex G H) (h : DGet G a y r) : DGet H a y r := by
  rcases h with ⟨kvs, k, h1, h2, h3⟩ | ⟨kvs, k, b, h1, h2, h3, h4⟩
  · exact .inl ⟨kvs, k, e.rd h1, h2, h3⟩
  · exact .inr ⟨kvs, k, b, e.rd h1, h2, e _ _ h3, h4⟩
theorem ee_dget {td ty : TE} {Q : V → Hp → Prop} (h : Ee td σ G fun x G1 => Ee ty σ G1 fun y G2 => ∃ a v, x = .ref a ∧ DGet G2 a y (some v) ∧ Q v G2) : Ee (tDGet td ty) σ G Q := fun H Q' e l =>
  h H _ e fun x G1 H1 e1 h1 => h1 H1 _ e1 fun y G2 H2 e2 ⟨a, v, h2, h3, q⟩ => ⟨a, v, h2, dget_up e2 h3, l _ _ _ e2 q⟩
theorem ee_din {ty td : TE} {Q : V → Hp → Prop} (h : Ee ty σ G fun y G1 => Ee td σ G1 fun x G2 => ∃ a o, x = .ref a ∧ DGet G2 a y o ∧ Q (.bl o.isSome) G2) : Ee (tDIn ty td) σ G Q := fun H Q' e l =>
  h H _ e fun x G1 H1 e1 h1 => h1 H1 _ e1 fun y G2 H2 e2 ⟨a, v, h2, h3, q⟩ => ⟨a, v, h2, dget_up e2 h3, l _ _ _ e2 q⟩
theorem ee_dnotIn {ty td : TE} {Q : V → Hp → Prop} (h : Ee ty σ G fun y G1 => Ee td σ G1 fun x G2 => ∃ a o, x = .ref a ∧ DGet G2 a y o ∧ Q (.bl (!o.isSome)) G2) : Ee (tDNotIn ty td) σ G Q := fun H Q' e l =>
  h H _ e fun x G1 H1 e1 h1 => h1 H1 _ e1 fun y G2 H2 e2 ⟨a, v, h2, h3, q⟩ => ⟨a, v, h2, dget_up e2 h3, l _ _ _ e2 q⟩
theorem es_dputK {td ty tv : TE} (h : Ee tv σ G fun v G1 => Ee td σ G1 fun x G2 => Ee ty σ G2 fun y G3 => ∃ a kvs k, x = .ref a ∧ G3 a = some (.dK kvs) ∧ y = kV k ∧ kvs.length < sizeLine ∧ D.nx σ (upd G3 a (.dK (putK kvs k v)))) : Es (sDPut td ty tv) D σ G := fun H D' e l =>
  h H _ e fun v G1 H1 e1 h1 => h1 H1 _ e1 fun x G2 H2 e2 h2 => h2 H2 _ e2 fun y G3 H3 e3 ⟨a, kvs, k, h3, h4, h5, h6, q⟩ => ⟨a, _, h3, .inl ⟨kvs, k, e3 _ _ h4, h5, h6, rfl⟩, l.nx _ _ _ e3.put q⟩
theorem es_dputT {td ty tv : TE} (h : Ee tv σ G fun v G1 => Ee td σ G1 fun x G2 => Ee ty σ G2 fun y G3 => ∃ a kvs k b, x = .ref a ∧ G3 a = some (.dT kvs) ∧ y = .ref b ∧ G3 b = some (.tup (k.map kV)) ∧ kvs.length < sizeLine ∧ D.nx σ (upd G3 a (.dT (putK kvs k v)))) : Es (sDPut td ty tv) D σ G := fun H D' e l =>
  h H _ e fun v G1 H1 e1 h1 => h1 H1 _ e1 fun x G2 H2 e2 h2 => h2 H2 _ e2 fun y G3 H3 e3 ⟨a, kvs, k, b, h3, h4, h5, h6, h7, q⟩ => ⟨a, _, h3, .inr ⟨kvs, k, b, e3 _ _ h4, h5, e3 _ _ h6, h7, rfl⟩, l.nx _ _ _ e3.put q⟩
theorem ee_dcT {wi : TI} {g : TG} {tt : TT} {tk tv : TE} {vs : List Nat} {Q : V → Hp → Prop}
    (h : Ei wi σ G fun J G1 => ∃ n Gd Y, Wk J n Gd Y ∧ (∀ G p o, Gd G → G p = none → Gd (upd G p o)) ∧ ∀ p, G1 p = none → ∃ Pv : Nat → List (List L2.Key × V) → Hp → Prop, Pv 0 [] G1 ∧ (∀ i acc G, i ≤ n → Pv i acc G → G p = none ∧ acc.length < sizeLine ∧ Gd G) ∧
      (∀ i acc x G G', i < n → Pv i acc G → Y i (upd G p (.dT acc)) x G' → Eg g x (wipe σ vs) G' fun σ2 G2 => wipe σ2 vs = wipe σ vs ∧ Et tt σ2 G2 fun b G3 =>
        if b = true then Ee tk σ2 G3 fun y G4 => Ee tv σ2 G4 fun z G5 => ∃ k c, y = .ref c ∧ G5 c = some (.tup (k.map kV)) ∧ G5 p = some (.dT acc) ∧ ∃ G6, Ex (upd G6 p (.dT acc)) G5 ∧ Pv (i + 1) (putK acc k z) G6 else G3 p = some (.dT acc) ∧ ∃ G5, Ex (upd G5 p (.dT acc)) G3 ∧ Pv (i + 1) acc G5) ∧
      (∀ acc G, Pv n acc G → Q (.ref p) (upd G p (.dT acc)))) : Ee (tDcT wi g tt tk tv vs) σ G Q := fun H Q' e l => by
  refine h H _ e ?_
  rintro J G1 H1 e1 ⟨n, Gd, Y, wk, gd, hh⟩ p hp
  obtain ⟨Pv, h0, hG, hs, hd⟩ := hh p (e1.nul hp)
  refine ⟨fun i m H => m = n - i ∧ i ≤ n ∧ ∃ G acc, Ex (upd G p (.dT acc)) H ∧ Pv i acc G, ⟨n, by simp, Nat.zero_le _, G1, [], e1.put, h0⟩, ?_⟩
  rintro i m H2 ⟨rfl, hi, G2, acc, e2, pv⟩
  obtain ⟨gp, gz, gg⟩ := hG i acc G2 hi pv
  have q := gd _ p (.dT acc) gg gp
  by_cases hlt : i < n
  · refine .inr ⟨wk.goes i _ H2 hlt q e2, fun H' => ∃ G acc, Ex (upd G p (.dT acc)) H' ∧ Pv (i + 1) acc G, fun H' ⟨G', acc', e', p'⟩ => ⟨n - (i + 1), by omega, rfl, hlt, G', acc', e', p'⟩, fun x H' y => ?_⟩
    obtain ⟨G3, e3, y3⟩ := wk.yields i _ H2 x H' hlt q e2 y
    refine hs i acc x G2 G3 hlt pv y3 H' _ e3 fun σ4 G4 H4 e4 ⟨hw, h4⟩ => ⟨hw, ?_⟩
    refine h4 H4 _ e4 fun b G5 H5 e5 h5 => ?_
    cases b with
    | true =>
      refine h5 H5 _ e5 fun y G6 H6 e6 h6 => h6 H6 _ e6 fun z G7 H7 e7 ⟨k, c, ey, hc, ha, G8, e8, p8⟩ => ⟨acc, k, c, ey, e7 _ _ hc, e7 _ _ ha, gz, G8, _, ?_, p8⟩
      have := (e8.trans e7).put (p := p) (o := .dT (putK acc k z))
      rwa [upd_upd] at this
    | false =>
      obtain ⟨ha, G7, e7, p7⟩ := h5
      exact ⟨G7, acc, e7.trans e5, p7⟩
  · have en : i = n := by omega
    subst en
    exact .inl ⟨wk.stops _ H2 q e2, l _ _ _ e2 (hd acc G2 pv)⟩
end
end Lw

namespace Lw
open PySem PySem.Spec PyProof.Rows L2
/-! ## for i, c in enumerate(text) -/
def Itx (x : Str) : It := ⟨fun i _ => i < x.cps.size, fun i H v H' => ∃ T c, v = .ref T ∧ H T = none ∧ H' = upd H T (.tup [.int (i : Nat), .str ⟨#[c]⟩]) ∧ x.cps[i]? = some c, fun i _ => x.cps.size = i⟩
theorem drawsS {P : Program} {w : World} {A : Around} (hh : A.handled = none) (it : Addr) (x : Str) (t : Tok) :
    Draws P w A it [it] x.cps.size (fun i v => ∃ c u, x.cps[i]? = some c ∧ v = .str ⟨#[c]⟩ u) (fun i h => h.IsStrIter it (strIterType x) x t i) := by
  unfold strIterType
  split
  · exact Draws.strAscii hh it x t
  · exact Draws.strWide hh it x t
theorem turn_enumS {P : Program} {w : World} {K : PySem.W.Frag} {elts : List Expr} {kk : Nat} {tpos : Pos} (x : Str) (t : Tok) (e it : Addr) :
    Turn P w K (.Tuple elts kk tpos) (Itx x) [e, it] e (fun i h => (∃ old, IsEnum h e it ((i : Nat) : Int) old) ∧ h.IsStrIter it (strIterType x) x t i ∧ e ≠ it) where
  mem := by simp
  obj := fun i h st b hb => by
    obtain ⟨⟨old, he⟩, ⟨o, ho, hc, hd⟩, _⟩ := st
    have e' : b = e ∨ b = it := by simpa using hb
    rcases e' with z | z
    · rw [z]; exact ⟨_, he, fun v q => nomatch q⟩
    · rw [z]; exact ⟨o, ho, fun v q => by rw [hd] at q; cases q⟩
  keep := fun i h h' st k => let ⟨⟨old, he⟩, ⟨o, ho, r⟩, hne⟩ := st; ⟨⟨old, k e (by simp) _ he⟩, ⟨o, k it (by simp) _ ho, r⟩, hne⟩
  item := by
    intro X hP hw hK hc i pins s σ H E I hf st hg
    subst hP hw hK
    obtain ⟨⟨old, he⟩, hit, hne⟩ := st
    have hel : e < s.heap.objs.size := Heap.lt_size he
    have hil : it < s.heap.objs.size := by obtain ⟨_, q, _⟩ := hit; exact Heap.lt_size q
    have D := drawsS (P := X.prog) (w := X.w) (A := X.A.in1) (show X.A.in1.handled = none from I.ok.hd hc) it x t
    refine wpAny_pyNext_enum_itemD D he hit hg hne (by simpa using hne) fun v h' tk hv ho hit' hT hsz hk => ?_
    obtain ⟨c, u, hcx, rfl⟩ := hv
    refine ⟨_, rfl, wpAny_letOwnedTupleGo_enum (s := { s with heap := h', toks := tk + 1 }) ho fun h'' he' sb => ?_⟩
    have hT2 : h''.get? s.heap.objs.size = some { cls := .type "tuple", data := .seq #[.int i tk, .str ⟨#[c]⟩ u] } := (sb.2 _ (Nat.ne_of_gt hel)).trans hT
    have new : ObjOk X.prog X.w (upd H s.heap.objs.size (.tup [.int (i : Nat), .str ⟨#[c]⟩])) h'' s.heap.objs.size (.tup [.int (i : Nat), .str ⟨#[c]⟩]) :=
      ⟨by show 2 ≤ sizeLine; decide, [.int i tk, .str ⟨#[c]⟩ u], .cons ⟨_, rfl⟩ (.cons ⟨_, rfl⟩ .nil), ⟨_, hT2, rfl, _, rfl⟩⟩
    have I1 : Inv X pins σ (upd H s.heap.objs.size (.tup [.int (i : Nat), .str ⟨#[c]⟩])) { s with heap := h'', toks := tk + 1 } :=
      I.turnedNew (ch := [e, it]) (fun b ob hb q => (sb.2 b (fun z => hb (by simp [z]))).trans (hk b ob (fun z => hb (by simp [z])) (fun z => hb (by simp [z])) q)) hf (Nat.le_refl _) new
    refine ⟨.ref s.heap.objs.size, _, I1, rfl, ⟨_, c, rfl, I.hok.fresh (Nat.le_refl _), rfl, hcx⟩, ⟨⟨.str ⟨#[c]⟩ u, ?_⟩, ?_, hne⟩, fun b hb => ?_⟩
    · have e1 : ((i + 1 : Nat) : Int) = (i : Int) + 1 := by omega
      rw [e1]; exact he'
    · obtain ⟨o, q, r⟩ := hit'
      exact ⟨o, (sb.2 it (Ne.symm hne)).trans q, r⟩
    · have hb' : b < s.heap.objs.size := by
        have e' : b = e ∨ b = it := by simpa using hb
        rcases e' with z | z
        · rw [z]; exact hel
        · rw [z]; exact hil
      rw [upd_ne (Nat.ne_of_lt hb')]
      exact (hf b hb).1
  done := by
    intro X hP hw hK hc i pins s σ H E I hf st hg
    subst hP hw hK
    obtain ⟨⟨old, he⟩, hit, hne⟩ := st
    have hg : x.cps.size = i := hg
    subst hg
    obtain ⟨f0, f1, f2, f3, f4, f5⟩ := hf it (by simp)
    have D := drawsS (P := X.prog) (w := X.w) (A := X.A.in1) (show X.A.in1.handled = none from I.ok.hd hc) it x t
    exact wpAny_pyNext_enum_endD D he hit fun h' eb => ⟨rfl, I.turned (t' := s.toks) (fun b o hb q => eb b o hb q) f0 f1 f3 f4 f5⟩
  self := fun A i s Q E st h => let ⟨⟨_, he⟩, _⟩ := st; wpAny_pyIter_enum he h
def iEnumS (ta : TA) : TI := fun σ H R => ta σ H fun vs H1 => ∃ x, vs = [.str x] ∧ R (Itx x) H1
theorem pi_enumS {X : Cx} {e : Expr} {ta : TA} {p pos tpos : Pos} {elts : List Expr} {kk : Nat} (hg : Gl X "enumerate") (hm : X.mg "enumerate" = none) (ha : PA X [e] ta) (hs : starEach [e] X.env = [(false, eval e X.env)] := by rfl) :
    PI X (.Tuple elts kk tpos) (.Call (.Name "enumerate" p) [e] [] pos) (iEnumS ta) := by
  refine ⟨fun pins s σ H R I h => ?_⟩
  refine Call_ (ld_blt I hg hm boot_enumerate (PyProof.Rows.callWith_type1 (thn (ha.run pos pins s σ H _ I h) fun us s1 ⟨vs, H1, I1, r1, q1⟩ => ?_) hs rfl))
  obtain ⟨x, ex, q⟩ := q1
  subst ex
  obtain ⟨u, rfl, hu⟩ := vals1 r1
  obtain ⟨t, rfl⟩ := hu
  refine call_enumerate_str fun h' he hit hsz hk => wpAny_pyIter_enum he ?_
  have I2 : Inv X pins σ H1 { s1 with heap := h' } := I1.kept (t' := s1.toks) hk
  refine ⟨s1.heap.objs.size + 1, [s1.heap.objs.size + 1, s1.heap.objs.size], _, _, H1, rfl, I2, turn_enumS x t (s1.heap.objs.size + 1) s1.heap.objs.size, ⟨⟨.none, he⟩, hit, Nat.succ_ne_self _⟩, fun b hb => ?_, q⟩
  have e' : b = s1.heap.objs.size + 1 ∨ b = s1.heap.objs.size := by simpa using hb
  have hle : s1.heap.objs.size ≤ b := by
    rcases e' with z | z
    · rw [z]; exact Nat.le_add_right _ _
    · rw [z]; exact Nat.le_refl _
  exact I1.fpOk hle (I1.hok.fresh hle)
theorem wk_enumS {z : Str} : Wk (Itx z) z.cps.size (fun _ => True) (YP (fun i => some (.int (i : Nat))) (fun i => z.cps[i]?.map fun c => .str ⟨#[c]⟩)) := by
  refine ⟨fun _ _ _ hi _ _ => hi, fun _ _ _ _ => rfl, fun i G H v H' _ _ e y => ?_⟩
  obtain ⟨T, c, h1, h2, h3, h4⟩ := y
  exact ⟨upd G T (.tup [.int (i : Nat), .str ⟨#[c]⟩]), by rw [h3]; exact e.put, T, .int (i : Nat), .str ⟨#[c]⟩, h1, e.nul h2, rfl, rfl, by show Option.map _ _ = _; rw [h4]; rfl⟩
section
variable {σ : L2.St} {G : Hp} {D : Ek} {K : PySem.W.Frag}
theorem ei_enumS {ta : TA} {R : It → Hp → Prop} (h : Ea ta σ G fun vs G1 => ∃ x, vs = [.str x] ∧ R (Itx x) G1) : Ei (iEnumS ta) σ G R := fun H R' e l =>
  h H _ e fun vs G1 H1 e1 ⟨x, h1, q⟩ => ⟨x, h1, l _ _ _ e1 q⟩
theorem es_forEnS {ta : TA} {g1 g2 : TG} {tb : TS} (h : Ea ta σ G fun vs G1 => ∃ z, vs = [.str z] ∧ ∃ Pv : Nat → L2.St → Hp → Prop, Pv 0 σ G1 ∧
    (∀ (i : Nat) c σ G T, z.cps[i]? = some c → Pv i σ G → G T = none → Egs (gCons g1 (gCons g2 gNil)) [.int (i : Int), .str ⟨#[c]⟩] σ (upd G T (.tup [.int (i : Int), .str ⟨#[c]⟩])) fun σ2 G2 => Es tb (Bd D (Pv (i + 1))) σ2 G2) ∧ (∀ σ G, Pv z.cps.size σ G → D.nx σ G)) :
    Es (tFor (iEnumS ta) (gTup K 2 (gCons g1 (gCons g2 gNil))) tb) D σ G := by
  refine es_for (ei_enumS fun H Q' e l => h H _ e fun vs G1 H1 e1 ⟨z, h1, Pv, h4, h6, h7⟩ => l _ G1 H1 e1 ⟨z, h1, _, _, _, wk_enumS, Pv, h4, fun _ _ _ _ _ => trivial, fun i x σ G G' hi p y => ?_, h7⟩)
  obtain ⟨T, x1, y1, rfl, nT, rfl, e1, e2⟩ := y
  cases e1
  obtain ⟨c, hc, rfl⟩ := Option.map_eq_some_iff.mp e2
  exact eg_tup (SqT.of upd_same) rfl (h6 i c σ G T hc p nT)
/-! text * int -/
def rRepS : R2 := fun x y H Q => ∃ (z : Str) (k : Int), x = .str z ∧ y = .int k ∧ MulOk z k ∧ Q (.str (PySem.Txt.mul z k)) H
theorem op_repS {X : Cx} : OpR X (binaryOp .Mult) rRepS := by
  intro pins s σ H x y v u Q I rx ry h
  obtain ⟨z, k, rfl, rfl, ok, q⟩ := h
  obtain ⟨t, rfl⟩ := rx
  obtain ⟨u', rfl⟩ := ry
  exact SB.mul ok fun t' k' => ⟨.str (PySem.Txt.mul z k), H, I.tok _, ⟨t', rfl⟩, q⟩
theorem er_repS {z : Str} {k : Int} {Q : V → Hp → Prop} (ok : MulOk z k) (q : Q (.str (PySem.Txt.mul z k)) G) : Er rRepS (.str z) (.int k) G Q := fun H Q' e l => ⟨z, k, rfl, rfl, ok, l _ _ _ e q⟩
/-! xs[::-1], xs.index(y) -/
theorem ee_revL {te : TE} {Q : V → Hp → Prop} (h : Ee te σ G fun x G1 => ∃ a xs, x = .ref a ∧ SqL K G1 a xs ∧ ∀ p, G1 p = none → Q (.ref p) (upd G1 p (.lst xs.reverse))) : Ee (tRevL K te) σ G Q := fun H Q' e l =>
  h H _ e fun x G1 H1 e1 ⟨a, xs, h1, h2, q⟩ => ⟨a, xs, h1, e1.sl h2, fun p hp => l _ _ _ e1.put (q p (e1.nul hp))⟩
theorem em_indexD {a : Addr} {y : V} {d : PyData} {ds : List PyData} {j : Nat} {z : PyData} {Q : V → Hp → Prop} (h : Dp K G (.ref a) (.list ds)) (hy : Dp K G y d) (s1 : SeqAt.shaped (.list ds) = true) (s2 : SeqAt.shaped d = true) (hj : ds[j]? = some z) (he : PyData.eqv z d = true)
    (hn : ∀ (m : Nat) (z' : PyData), m < j → ds[m]? = some z' → PyData.eqv z' d = false) (q : Q (.int (j : Nat)) G) : Em (rIndexD K) (.ref a) [y] G Q := fun H Q' e l =>
  ⟨a, y, d, ds, j, z, rfl, rfl, e.dp h, e.dp hy, s1, s2, hj, he, hn, l _ _ _ e q⟩
end
end Lw

namespace Lw
open PySem PySem.Spec PyProof.Rows L2 LamX
/-! ## data without lists whose tuples stand in the known heap itself -/
def Tz (G H : Hp) : Prop := ∀ a xs, G a = some (.tup xs) → H a = some (.tup xs)
mutual
inductive Iz (G : Hp) : V → PyData → Prop
  | non : Iz G .non .none
  | bl (b : Bool) : Iz G (.bl b) (.bool b)
  | int (i : Int) : Iz G (.int i) (.int i)
  | str (x : Str) : Iz G (.str x) (.str x)
  | tup {a : Addr} {xs : List V} {ds : List PyData} : G a = some (.tup xs) → Izs G xs ds → Iz G (.ref a) (.tuple ds)
inductive Izs (G : Hp) : List V → List PyData → Prop
  | nil : Izs G [] []
  | cons {v : V} {vs : List V} {d : PyData} {ds : List PyData} : Iz G v d → Izs G vs ds → Izs G (v :: vs) (d :: ds)
end
section
variable {K : PySem.W.Frag} {G H I : Hp}
theorem Tz.refl : Tz G G := fun _ _ h => h
theorem Tz.trans (a : Tz G H) (b : Tz H I) : Tz G I := fun x o h => b x o (a x o h)
theorem Ex.tz (e : Ex G H) : Tz G H := fun _ _ h => e _ _ h
theorem Tz.updN {p : Addr} {o : HO} (h : ∀ xs, G p ≠ some (.tup xs)) : Tz G (upd G p o) := fun a xs e => by
  rw [upd_ne (fun z => h xs (by rw [← z]; exact e))]; exact e
theorem Tz.mutL {p : Addr} {o : HO} {ys : List V} (h : G p = some (.lst ys)) : Tz G (upd G p o) := Tz.updN fun xs z => by rw [h] at z; cases z
theorem Tz.mutT {p : Addr} {o : HO} {kvs : List (List L2.Key × V)} (h : G p = some (.dT kvs)) : Tz G (upd G p o) := Tz.updN fun xs z => by rw [h] at z; cases z
theorem Tz.mutK {p : Addr} {o : HO} {kvs : List (L2.Key × V)} (h : G p = some (.dK kvs)) : Tz G (upd G p o) := Tz.updN fun xs z => by rw [h] at z; cases z
mutual
theorem Iz.im : ∀ {v : V} {d : PyData}, Iz G v d → Im K G v d
  | _, _, .non => .non
  | _, _, .bl b => .bl b
  | _, _, .int i => .int i
  | _, _, .str x => .str x
  | _, _, .tup s h => .tup (SqT.of s) h.ims
theorem Izs.ims : ∀ {v : List V} {d : List PyData}, Izs G v d → Ims K G v d
  | _, _, .nil => .nil
  | _, _, .cons h t => .cons h.im t.ims
end
mutual
theorem Tz.iz (e : Tz G H) : ∀ {v : V} {d : PyData}, Iz G v d → Iz H v d
  | _, _, .non => .non
  | _, _, .bl b => .bl b
  | _, _, .int i => .int i
  | _, _, .str x => .str x
  | _, _, .tup s h => .tup (e _ _ s) (e.izs h)
theorem Tz.izs (e : Tz G H) : ∀ {v : List V} {d : List PyData}, Izs G v d → Izs H v d
  | _, _, .nil => .nil
  | _, _, .cons h t => .cons (e.iz h) (e.izs t)
end
theorem Iz.dp {v : V} {d : PyData} (h : Iz G v d) : Dp K G v d := h.im.dp
theorem Izs.dps {v : List V} {d : List PyData} (h : Izs G v d) : DpAll K G v d := h.ims.dps
theorem iz_tup {v : V} {ds : List PyData} (h : Iz G v (.tuple ds)) : ∃ a xs, v = .ref a ∧ G a = some (.tup xs) ∧ Izs G xs ds := by cases h with | tup h1 h2 => exact ⟨_, _, rfl, h1, h2⟩
theorem izs_len : ∀ {xs : List V} {ds : List PyData}, Izs G xs ds → xs.length = ds.length
  | _, _, .nil => rfl
  | _, _, .cons _ t => by rw [List.length_cons, List.length_cons, izs_len t]
theorem izs_get : ∀ {xs : List V} {ds : List PyData} {i : Nat} {d : PyData}, Izs G xs ds → ds[i]? = some d → ∃ x, xs[i]? = some x ∧ Iz G x d
  | _, _, _, _, .nil, h => by cases h
  | _, _, 0, _, .cons h _, e => by cases e; exact ⟨_, rfl, h⟩
  | _, _, i + 1, _, .cons _ t, e => izs_get (i := i) t e
theorem izs_get' : ∀ {xs : List V} {ds : List PyData} {i : Nat} {x : V}, Izs G xs ds → xs[i]? = some x → ∃ d, ds[i]? = some d ∧ Iz G x d
  | _, _, _, _, .nil, h => by cases h
  | _, _, 0, _, .cons h _, e => by cases e; exact ⟨_, rfl, h⟩
  | _, _, i + 1, _, .cons _ t, e => izs_get' (i := i) t e
theorem izs_app : ∀ {xs ys : List V} {ds es : List PyData}, Izs G xs ds → Izs G ys es → Izs G (xs ++ ys) (ds ++ es)
  | _, _, _, _, .nil, h => h
  | _, _, _, _, .cons h t, k => .cons h (izs_app t k)
theorem izs_one {v : V} {d : PyData} (h : Iz G v d) : Izs G [v] [d] := .cons h .nil
theorem izs_take : ∀ {xs : List V} {ds : List PyData} (n : Nat), Izs G xs ds → Izs G (xs.take n) (ds.take n)
  | _, _, 0, _ => .nil
  | _, _, _ + 1, .nil => .nil
  | _, _, n + 1, .cons h t => .cons h (izs_take n t)
theorem izs_drop : ∀ {xs : List V} {ds : List PyData} (n : Nat), Izs G xs ds → Izs G (xs.drop n) (ds.drop n)
  | _, _, 0, h => h
  | _, _, _ + 1, .nil => .nil
  | _, _, n + 1, .cons _ t => izs_drop n t
theorem izs_ints : ∀ ns : List Int, Izs G (ns.map V.int) (ns.map PyData.int)
  | [] => .nil
  | n :: r => .cons (.int n) (izs_ints r)
theorem izs_bls : ∀ ns : List Bool, Izs G (ns.map V.bl) (ns.map PyData.bool)
  | [] => .nil
  | n :: r => .cons (.bl n) (izs_bls r)
end
/-! ## a move that keeps all but the tables -/
structure Up (T : List (Addr × Str)) (G G' : Hp) : Prop where
  get : ∀ a o, G a = some o → (∀ ps, o ≠ .tbl ps) → G' a = some o
  tab : Tabs T G → Tabs T G'
section
variable {T : List (Addr × Str)} {K : PySem.W.Frag} {G H I : Hp}
theorem Up.refl : Up T G G := ⟨fun _ _ h _ => h, id⟩
theorem Up.trans (a : Up T G H) (b : Up T H I) : Up T G I := ⟨fun x o h n => b.get x o (a.get x o h n) n, fun t => b.tab (a.tab t)⟩
theorem Ex.upm (e : Ex G H) : Up T G H := ⟨fun x o h _ => e x o h, fun t => t.ext e⟩
theorem Up.lst {a : Addr} {xs : List V} (e : Up T G H) (h : G a = some (.lst xs)) : H a = some (.lst xs) := e.get _ _ h fun ps z => by cases z
theorem Up.tup {a : Addr} {xs : List V} (e : Up T G H) (h : G a = some (.tup xs)) : H a = some (.tup xs) := e.get _ _ h fun ps z => by cases z
theorem Up.ins {a C dx : Addr} {fs : List (Str × V)} (e : Up T G H) (h : G a = some (.ins C dx fs)) : H a = some (.ins C dx fs) := e.get _ _ h fun ps z => by cases z
theorem Up.tz (e : Up T G H) : Tz G H := fun _ _ h => e.tup h
theorem Up.li {a : Addr} {xs : List Int} (e : Up T G H) (h : G a = some (.lst (xs.map V.int))) : H a = some (.lst (xs.map V.int)) := e.lst h
theorem Up.extN (e : Up T G H) : ExtN G H := fun b o h n => e.get b o h n
/-- a list that is not known of the older heap is changed -/
theorem Up.mut {p : Addr} {o u : HO} (e : Up T G H) (hp : H p = some u) (hu : ∀ ps, u ≠ .tbl ps) (hu2 : ∀ q c, u ≠ CodeO c q) (n : ∀ o, G p = some o → ∃ ps, o = .tbl ps) : Up T G (upd H p o) := ⟨fun a w h nt => by
  have : a ≠ p := fun z => by
    obtain ⟨ps, e'⟩ := n w (z ▸ h)
    exact nt ps e'
  rw [upd_ne this]; exact e.get a w h nt, fun t => by
  intro q hq
  obtain ⟨ps, h1, h2, h3⟩ := e.tab t q hq
  have n1 : q.1 ≠ p := fun z => by rw [z, hp] at h1; exact hu ps (Option.some.inj h1)
  refine ⟨ps, by rw [upd_ne n1]; exact h1, h2, fun pos cv hc => ?_⟩
  obtain ⟨c, e1, e2⟩ := h3 pos cv hc
  have n2 : c ≠ p := fun z => by rw [z, hp] at e2; exact hu2 _ _ (Option.some.inj e2)
  exact ⟨c, e1, by rw [upd_ne n2]; exact e2⟩⟩
theorem codeO_lst {c : Addr} {q : Str} {xs : List V} : HO.lst xs ≠ CodeO c q := fun z => by unfold CodeO at z; cases z
theorem Up.mutL {p : Addr} {o : HO} {xs : List V} (e : Up T G H) (hp : H p = some (.lst xs)) (n : ∀ o, G p = some o → ∃ ps, o = .tbl ps) : Up T G (upd H p o) :=
  e.mut hp (fun ps z => by cases z) (fun q c => codeO_lst) n
/-- nothing but a table may be known there -/
def Nn (G : Hp) (p : Addr) : Prop := ∀ o, G p = some o → ∃ ps, o = .tbl ps
theorem Nn.of {p : Addr} (h : G p = none) : Nn G p := fun o e => by rw [h] at e; cases e
theorem Up.nn {p : Addr} (e : Up T G H) (h : H p = none) : Nn G p := fun o e' => by
  cases o with
  | tbl ps => exact ⟨ps, rfl⟩
  | _ => have := e.get _ _ e' (fun ps z => by cases z); rw [h] at this; cases this
theorem Up.nn2 {p : Addr} (e : Up T G H) (h : Nn H p) : Nn G p := fun o e' => by
  cases o with
  | tbl ps => exact ⟨ps, rfl⟩
  | _ => have := e.get _ _ e' (fun ps z => by cases z); exact (h _ this).imp fun ps z => z
theorem Nn.ne {p a : Addr} {xs : List V} (h : Nn G p) (ha : G a = some (.lst xs)) : a ≠ p := fun z => by
  obtain ⟨ps, e⟩ := h _ (z ▸ ha); cases e
theorem ee_sortL {σ : L2.St} {t : TA} {Q : V → Hp → Prop} (h : Ea t σ G fun vs G1 => ∃ (a : Addr) (xs : List (V × (Int × Int))), vs = [.ref a] ∧ SqL K G1 a (xs.map (·.1)) ∧ EntsK K G1 xs ∧ Tabs T G1 ∧
    ∀ G2 p, Up T G1 G2 → Tabs T G2 → G2 p = none → Q (.ref p) (upd G2 p (.lst ((xs.mergeSort mkLe).map (·.1))))) : Ee (tSortL K T t) σ G Q := fun H Q' e l =>
  h H _ e fun vs G1 H1 e1 ⟨a, xs, h1, h2, h3, h4, q⟩ => ⟨a, xs, h1, e1.sl h2, fun x hx => (h3 x hx).ext (ExtN.of e1), h4.ext e1, fun H2 p eN t2 hp =>
    l _ _ _ (Ex.refl _) (q H2 p ⟨fun a o h n => eN a o (e1 a o h) n, fun _ => t2⟩ t2 hp)⟩
end
/-! ## pieces without tables -/
structure Aq (L : List Hp) (G : Hp) : Prop where
  ap : Ap L G
  nt : ∀ F ∈ L, ∀ a ps, F a ≠ some (.tbl ps)
section
variable {T : List (Addr × Str)} {L : List Hp} {F F' G G' : Hp} {p : Addr} {o u : HO}
theorem Aq.ex (a : Aq L G) (h : F ∈ L) : Ex F G := a.ap.ex F h
theorem Aq.up (a : Aq L G) (e : Up T G G') : Aq L G' := ⟨⟨fun F hF x o h => e.get x o (a.ap.ex F hF x o h) fun ps z => a.nt F hF x ps (by rw [← z]; exact h), a.ap.dis⟩, a.nt⟩
theorem Aq.junk (a : Aq L G) (e : Ex G G') : Aq L G' := ⟨a.ap.junk e, a.nt⟩
theorem one_of {q : Addr} {w : HO} (h : one p o q = some w) : q = p ∧ w = o := by
  unfold one at h
  by_cases z : q = p
  · subst z; rw [upd_same] at h; exact ⟨rfl, (Option.some.inj h).symm⟩
  · rw [upd_ne z] at h; cases h
theorem Aq.add (a : Aq L G) (h : G p = none) (n : ∀ ps, o ≠ .tbl ps) : Aq (one p o :: L) (upd G p o) := ⟨a.ap.add h, fun F hF x ps e => by
  rcases List.mem_cons.mp hF with rfl | hF
  · exact n ps (one_of e).2.symm
  · exact a.nt F hF x ps e⟩
theorem upd_nt {x : Addr} (h : ∀ ps, F x ≠ some (.tbl ps)) (n : ∀ ps, o ≠ .tbl ps) : ∀ ps, upd F p o x ≠ some (.tbl ps) := fun ps e => by
  by_cases z : x = p
  · subst z; rw [upd_same] at e; exact n ps (Option.some.inj e)
  · rw [upd_ne z] at e; exact h ps e
/-- the first piece gets a new object -/
theorem Aq.new1 (a : Aq (F :: L) G) (h : G p = none) (n : ∀ ps, o ≠ .tbl ps) : Aq (upd F p o :: L) (upd G p o) := ⟨a.ap.new1 h, fun X hX x => by
  rcases List.mem_cons.mp hX with rfl | hX
  · exact upd_nt (a.nt F List.mem_cons_self x) n
  · exact a.nt X (List.mem_cons_of_mem _ hX) x⟩
theorem Aq.mut1 (a : Aq (F :: L) G) (h : F p = some u) (n : ∀ ps, o ≠ .tbl ps) : Aq (upd F p o :: L) (upd G p o) := ⟨a.ap.mut1 h, fun X hX x => by
  rcases List.mem_cons.mp hX with rfl | hX
  · exact upd_nt (a.nt F List.mem_cons_self x) n
  · exact a.nt X (List.mem_cons_of_mem _ hX) x⟩
theorem Aq.perm {L' : List Hp} (a : Aq L G) (q : L'.Perm L) : Aq L' G := ⟨a.ap.perm q, fun X hX => a.nt X (q.mem_iff.mp hX)⟩
theorem Aq.sub {L' : List Hp} (a : Aq L G) (h : L'.Sublist L) : Aq L' G := ⟨a.ap.sub h, fun X hX => a.nt X (h.subset hX)⟩
theorem Aq.fr (a : Aq (F :: L) G) (f : Fr F G F' G') (e : Ex F' G') (n : ∀ x ps, F' x ≠ some (.tbl ps)) : Aq (F' :: L) G' := ⟨Ap.fr (L1 := []) a.ap f e, fun X hX x => by
  rcases List.mem_cons.mp hX with rfl | hX
  · exact n x
  · exact a.nt X (List.mem_cons_of_mem _ hX) x⟩
theorem Aq.nil : Aq [] G := ⟨⟨fun F h => by simp at h, .nil⟩, fun F h => by simp at h⟩
end
end Lw

namespace Lw
open PySem PySem.Spec PyProof.Rows L2 LamX
/-! ## a def whose code object is known -/
structure FunC (K : PySem.W.Frag) (x qual : Str) (st : Stmt) (c f : Addr) (fd : FuncData) : Prop where
  ex : ∃ (oc : Value) (od : Option Addr) (kV doc pm : Value) (an : Option Addr) (ct : Value) (osl : Array (Option Value)),
    fd = PySem.W.fnOf x qual (defArgs st) (defBody st) (defScope st) .none kV doc pm an (.ref c) ct ∧ K.lookup f = some ⟨oc, od, .func fd, osl⟩ ∧ PySem.W.codeIn K (.ref c) qual = true
  kp : PySem.W.keepIn K (.ref f) = true
theorem funC_mk {K : PySem.W.Frag} {x qual : Str} {st : Stmt} {c f : Addr} {oc : Value} {od an : Option Addr} {osl : Array (Option Value)} {kV doc pm ct : Value}
    (l : K.lookup f = some ⟨oc, od, .func (PySem.W.fnOf x qual (defArgs st) (defBody st) (defScope st) .none kV doc pm an (.ref c) ct), osl⟩) (h : PySem.W.codeIn K (.ref c) qual = true) (k : PySem.W.keepIn K (.ref f) = true) :
    FunC K x qual st c f (PySem.W.fnOf x qual (defArgs st) (defBody st) (defScope st) .none kV doc pm an (.ref c) ct) := ⟨⟨oc, od, kV, doc, pm, an, ct, osl, rfl, l, h⟩, k⟩
theorem FunC.fn {K : PySem.W.Frag} {x qual : Str} {st : Stmt} {c f : Addr} {fd : FuncData} (F : FunC K x qual st c f fd) : Fun K x qual st f fd := by
  obtain ⟨oc, od, kV, doc, pm, an, ct, osl, e, l, h⟩ := F.ex
  exact ⟨⟨oc, od, kV, doc, pm, an, .ref c, ct, osl, e, l, h⟩, F.kp⟩
structure FndC (K : PySem.W.Frag) (mg : Str → Option Value) (x : Str) (st : Stmt) (c : Addr) : Prop where
  ex : ∃ f fd, mg x = some (.ref f) ∧ FunC K x x st c f fd
structure FndMC (K : PySem.W.Frag) (C : Addr) (m qual : Str) (st : Stmt) (c : Addr) : Prop where
  ex : ∃ f fd, Meth K C m f ∧ FunC K m qual st c f fd
section
variable {P : Program} {w : World} {K : PySem.W.Frag} {mg : Str → Option Value} {base : Heap}
theorem fnok0C {x qual : Str} {st : Stmt} {c f : Addr} {fd : FuncData} {N ps : List Str} {k : Nat} {S : Pm} {t : TS} (F : FunC K x qual st c f fd) (sc : FnScope N ps (defScope st))
    (len : ∀ vs G Q E, S vs G Q E → vs.length = ps.length)
    (der : ∀ (f : Addr) (A : Around) (outer : List Env) (s : Shared) (H : Hp) (E : XK), Room k (A.deeper (envOfC qual (defScope st) s.heap.objs.size f (.ref c))) → PSs (cxOf CX0 P w K mg base N qual (defScope st) f (.ref c) A outer s H E).nox (defBody st) t)
    (pure : ∀ vs G Q E, S vs G Q E → Es t { nx := fun _ G' => Q .non G', rt := Q } (start N vs) G) : FnOk P w K mg base CX0 (k + 1) f fd ps (up S) := by
  obtain ⟨oc, od, kV, doc, pm, an, ct, osl, rfl, lk, hcd⟩ := F.ex
  exact fn_of lk hcd sc (fun vs H Q E ⟨G, Q0, E0, _, h, _⟩ => len vs G Q0 E0 h) fun A outer s H vs Q E hr h => ⟨t, (der f A outer s H E hr).nox, body_up pure vs H Q E h⟩
theorem Has.mk0C {x : Str} {st : Stmt} {c : Addr} {N ps : List Str} {k : Nat} {S : Pm} {t : TS} (F : FndC K mg x st c) (sc : FnScope N ps (defScope st)) (hb : BindOk x x st ps)
    (len : ∀ vs G Q E, S vs G Q E → vs.length = ps.length)
    (der : ∀ (f : Addr) (A : Around) (outer : List Env) (s : Shared) (H : Hp) (E : XK), Room k (A.deeper (envOfC x (defScope st) s.heap.objs.size f (.ref c))) → PSs (cxOf CX0 P w K mg base N x (defScope st) f (.ref c) A outer s H E).nox (defBody st) t)
    (pure : ∀ vs G Q E, S vs G Q E → Es t { nx := fun _ G' => Q .non G', rt := Q } (start N vs) G) : Has P w K mg base CX0 (k + 1) x ps (up S) := by
  obtain ⟨f, fd, hm, F⟩ := F.ex
  exact ⟨f, fd, hm, F.kp, F.fn.binds hb, fnok0C F sc len der pure⟩
theorem HasM.mk0C {C : Addr} {m qual : Str} {st : Stmt} {c : Addr} {N ps : List Str} {k : Nat} {S : Pm} {t : TS} (F : FndMC K C m qual st c) (sc : FnScope N ps (defScope st)) (hb : BindOk m qual st ps)
    (len : ∀ vs G Q E, S vs G Q E → vs.length = ps.length)
    (der : ∀ (f : Addr) (A : Around) (outer : List Env) (s : Shared) (H : Hp) (E : XK), Room k (A.deeper (envOfC qual (defScope st) s.heap.objs.size f (.ref c))) → PSs (cxOf CX0 P w K mg base N qual (defScope st) f (.ref c) A outer s H E).nox (defBody st) t)
    (pure : ∀ vs G Q E, S vs G Q E → Es t { nx := fun _ G' => Q .non G', rt := Q } (start N vs) G) : HasM P w K mg base CX0 (k + 1) C m ps (up S) := by
  obtain ⟨f, fd, hm, F⟩ := F.ex
  exact ⟨f, fd, hm, F.fn.binds hb, fnok0C F sc len der pure⟩
end
/-! ## for k in range(n, 0, -1) -/
theorem es_forR3 {σ : L2.St} {G : Hp} {D : Ek} {ta : TA} {j : Nat} {tb : TS} (h : Ea ta σ G fun vs G1 => ∃ (lo hi c : Int) (n : Nat), vs = [.int lo, .int hi, .int c] ∧ RgC lo hi c n ∧ ∃ Pv : Nat → L2.St → Hp → Prop, Pv 0 σ G1 ∧
    (∀ (i : Nat) σ G, i < n → Pv i σ G → Es tb (Bd D (Pv (i + 1))) (σ.set j (some (.int (lo + (i : Nat) * c)))) G) ∧ (∀ σ G, Pv n σ G → D.nx σ G)) : Es (tFor (iRng3 ta) (gName j) tb) D σ G := by
  refine es_for (ei_r3 fun H Q' e l => h H _ e fun vs G1 H1 e1 ⟨lo, hi, c, n, h1, h2, Pv, h4, h5, h6⟩ => l _ G1 H1 e1 ⟨lo, hi, c, n, h1, h2, _, _, _, wk_rangeC, Pv, h4, fun _ _ _ _ _ => trivial, fun i x σ G G' hi p y => ?_, h6⟩)
  obtain ⟨rfl, y⟩ := y
  have : x = .int (lo + (i : Nat) * c) := (Option.some.inj y).symm
  subst this
  exact eg_name (h5 i σ G' hi p)
end Lw

namespace Lw
open PySem PySem.Spec PyProof.Rows L2
/-! ## documents in plain Lean: deeds, forces, marks, rows -/
abbrev Mk := Int × Int
inductive De
  | back (n : Int)
  | change (m : Str) (rm : List Mk) (bh : Option Mk) (n : Int) (t : Str)
def mP (m : Mk) : PyData := .tuple [.int m.1, .int m.2]
def bP : Option Mk → PyData
  | none => .none
  | some m => mP m
def deD : De → PyData
  | .back n => .tuple [.str (Str.ofString "back"), .int n]
  | .change m rm bh n t => .tuple [.str (Str.ofString "change"), .str m, .tuple (rm.map mP), bP bh, .int n, .str t]
def isBack : De → Int → Bool
  | .back n, p => decide (n = p)
  | .change .., _ => false
def isCh (m : Str) : De → Bool
  | .back _ => false
  | .change m' .. => decide (m' = m)
def rmOf : De → List Mk
  | .back _ => []
  | .change _ rm .. => rm
/-- what is in force: the first deed has the place p -/
def taken (fs : List Bool) (r : List De) (p : Int) : Bool := (fs.zip r).any fun x => x.1 && isBack x.2 p
def frc : List De → Int → List Bool
  | [], _ => []
  | _ :: r, p => (!taken (frc r (p + 1)) r p) :: frc r (p + 1)
theorem frc_len : ∀ (r : List De) (p : Int), (frc r p).length = r.length
  | [], _ => rfl
  | _ :: r, p => by rw [frc, List.length_cons, List.length_cons, frc_len r]
theorem frc_drop : ∀ (r : List De) (p : Int) (k : Nat), frc (r.drop k) (p + k) = (frc r p).drop k
  | r, p, 0 => by simp
  | [], p, k + 1 => by simp [frc]
  | d :: r, p, k + 1 => by
    rw [List.drop_succ_cons, frc, List.drop_succ_cons, ← frc_drop r (p + 1) k]
    congr 1
    omega
theorem frc_at {r : List De} {k : Nat} {d : De} (h : r[k]? = some d) : frc (r.drop k) (1 + k) = (!taken (frc (r.drop (k + 1)) (1 + (k + 1 : Nat))) (r.drop (k + 1)) (1 + k)) :: frc (r.drop (k + 1)) (1 + (k + 1 : Nat)) := by
  have hk := (List.getElem?_eq_some_iff.mp h).1
  have e : r.drop k = d :: r.drop (k + 1) := by
    rw [List.drop_eq_getElem_cons hk]
    rw [List.getElem?_eq_getElem hk] at h
    rw [Option.some.inj h]
  rw [e, frc]
  have : (1 : Int) + k + 1 = 1 + (k + 1 : Nat) := by omega
  rw [this]
/-- what a change inserts -/
def ins (r : Int) : Option Mk → Int → List Nat → List (Mk × Option Mk × Nat)
  | _, _, [] => []
  | b, n, c :: cs => ((n, r), b, c) :: ins r (some (n, r)) (n + 1) cs
def insD (r : Int) : De → List (Mk × Option Mk × Nat)
  | .back _ => []
  | .change _ _ bh n t => ins r bh n t.cps.toList
structure Ent where
  mr : Mk
  bh : Option Mk
  ch : Nat
  fo : Bool
def chgR (k : Int) (row : List De) (m : Str) : List (Int × De × Bool) := ((row.zip (frc row 1)).filter fun x => isCh m x.1).map fun x => (k, x.1, x.2)
def chg (rows : List (List De)) (m : Str) : List (Int × De × Bool) := (List.range 8).flatMap fun (k : Nat) => chgR (k : Int) (rows.getD k []) m
def entsOf (x : Int × De × Bool) : List Ent := (insD x.1 x.2.1).map fun e => ⟨e.1, e.2.1, e.2.2, x.2.2⟩
def rmsOf (x : Int × De × Bool) : List Mk := if x.2.2 then rmOf x.2.1 else []
def found (cs : List (Int × De × Bool)) : List Ent := cs.flatMap entsOf
def removed (cs : List (Int × De × Bool)) : List Mk := cs.flatMap rmsOf
def eLe (a b : Ent) : Bool := decide (a.mr.1 < b.mr.1 ∨ (a.mr.1 = b.mr.1 ∧ a.mr.2 ≤ b.mr.2))
def pin (acc : List Ent) (e : Ent) : List Ent := match e.bh with
  | none => e :: acc
  | some b => acc.take ((acc.map (·.mr)).idxOf b + 1) ++ [e] ++ acc.drop ((acc.map (·.mr)).idxOf b + 1)
def plc (es : List Ent) : List Ent := es.foldl pin []
def rowOf (rows : List (List De)) (m : Str) : List (Mk × Nat × Bool) := (plc ((found (chg rows m)).mergeSort eLe)).map fun e => (e.mr, e.ch, e.fo && !(removed (chg rows m)).contains e.mr)
def rowD (x : Mk × Nat × Bool) : PyData := .tuple [mP x.1, .str ⟨#[x.2.1]⟩, .bool x.2.2]
def lstD (l : Int) : De → Int
  | .back _ => l
  | .change _ _ _ n t => max l (n + t.length)
def lst (rows : List (List De)) : Int := rows.foldl (fun l row => row.foldl lstD l) 0
/-! ### what is wanted of the deeds -/
/-- the mark b is one of a change of m at k -/
def InDe (k : Int) (m : Str) (b : Mk) : De → Prop
  | .back _ => False
  | .change m' _ _ n t => m' = m ∧ b.2 = k ∧ n ≤ b.1 ∧ b.1 < n + t.length
def HasMk (rows : List (List De)) (m : Str) (b : Mk) : Prop := ∃ k : Nat, k < 8 ∧ ∃ d ∈ rows.getD k [], InDe k m b d
/-- ahead of one another -/
def Befo : De → De → Prop
  | .change _ _ _ n t, .change _ _ _ n' _ => n + t.length ≤ n'
  | _, _ => True
def Clo (rows : List (List De)) : Prop := ∀ k, ∀ d ∈ rows.getD k [], match d with
  | .back _ => True
  | .change m _ bh n _ => ∀ b, bh = some b → b.1 < n ∧ HasMk rows m b
def DeOk (B : Int) : De → Prop
  | .back _ => True
  | .change m rm bh n t => 1 ≤ n ∧ n + t.length ≤ B ∧ (∀ x ∈ rm, MkR x) ∧ rm.length ≤ 100 ∧ t.length ≤ 100 ∧ (∀ b, bh = some b → MkR b) ∧ m.length ≤ 100 ∧ PyData.strOk m = true ∧ PyData.strOk t = true
structure Wf (B : Int) (rows : List (List De)) : Prop where
  len : rows.length = 8
  ok : ∀ k, ∀ d ∈ rows.getD k [], DeOk B d
  bef : ∀ k, (rows.getD k []).Pairwise Befo
  clo : Clo rows
  sm : ∀ k, (rows.getD k []).length ≤ 100
/-! ### what follows -/
theorem ins_spec : ∀ (cs : List Nat) (r : Int) (b : Option Mk) (n : Int) (i : Nat) (c : Nat), cs[i]? = some c → (ins r b n cs)[i]? = some ((n + i, r), (if i = 0 then b else some (n + i - 1, r)), c)
  | [], _, _, _, _, _, h => by cases h
  | c :: cs, r, b, n, 0, _, h => by cases h; simp [ins]
  | c :: cs, r, b, n, i + 1, x, h => by
    rw [ins, List.getElem?_cons_succ, ins_spec cs r (some (n, r)) (n + 1) i x (by simpa using h)]
    rw [if_neg (show ¬ (i + 1 = 0) by omega)]
    have e1 : n + 1 + (i : Int) = n + (i + 1 : Nat) := by omega
    rw [e1]
    by_cases hi : i = 0
    · subst hi
      rw [if_pos rfl, show n + ((0 + 1 : Nat) : Int) - 1 = n by omega]
    · rw [if_neg hi]
theorem ins_len : ∀ (cs : List Nat) (r : Int) (b : Option Mk) (n : Int), (ins r b n cs).length = cs.length
  | [], _, _, _ => rfl
  | c :: cs, r, b, n => by rw [ins, List.length_cons, List.length_cons, ins_len cs]
theorem ins_mem {cs : List Nat} {r : Int} {b : Option Mk} {n : Int} {e : Mk × Option Mk × Nat} (h : e ∈ ins r b n cs) : ∃ i c, cs[i]? = some c ∧ e = ((n + (i : Nat), r), (if i = 0 then b else some (n + (i : Nat) - 1, r)), c) := by
  obtain ⟨i, hi⟩ := List.getElem?_of_mem h
  have hl := (List.getElem?_eq_some_iff.mp hi).1
  rw [ins_len] at hl
  refine ⟨i, cs[i], List.getElem?_eq_getElem hl, ?_⟩
  have := ins_spec cs r b n i _ (List.getElem?_eq_getElem hl)
  rw [hi] at this
  exact Option.some.inj this
theorem chgR_mem {k : Int} {row : List De} {m : Str} {x : Int × De × Bool} (h : x ∈ chgR k row m) : x.1 = k ∧ x.2.1 ∈ row ∧ isCh m x.2.1 = true := by
  unfold chgR at h
  obtain ⟨y, hy, rfl⟩ := List.mem_map.mp h
  obtain ⟨h1, h2⟩ := List.mem_filter.mp hy
  exact ⟨rfl, (List.of_mem_zip h1).1, h2⟩
theorem mem_chgR {k : Int} {row : List De} {m : Str} {d : De} (h : d ∈ row) (hc : isCh m d = true) : ∃ b, (k, d, b) ∈ chgR k row m := by
  obtain ⟨i, hi⟩ := List.getElem?_of_mem h
  have hl := (List.getElem?_eq_some_iff.mp hi).1
  have hl2 : i < (frc row 1).length := by rw [frc_len]; exact hl
  refine ⟨(frc row 1)[i], List.mem_map.mpr ⟨(d, (frc row 1)[i]), List.mem_filter.mpr ⟨?_, hc⟩, rfl⟩⟩
  refine List.mem_of_getElem? (i := i) ?_
  rw [List.getElem?_zip_eq_some]
  exact ⟨hi, List.getElem?_eq_getElem hl2⟩
theorem chg_mem {rows : List (List De)} {m : Str} {x : Int × De × Bool} (h : x ∈ chg rows m) : ∃ k : Nat, k < 8 ∧ x.1 = k ∧ x.2.1 ∈ rows.getD k [] ∧ isCh m x.2.1 = true := by
  obtain ⟨k, hk, hx⟩ := List.mem_flatMap.mp h
  obtain ⟨a, b, c⟩ := chgR_mem hx
  exact ⟨k, List.mem_range.mp hk, a, b, c⟩
theorem isCh_of {m : Str} {d : De} (h : isCh m d = true) : ∃ rm bh n t, d = .change m rm bh n t := by
  cases d with
  | back n => cases h
  | change m' rm bh n t => have : m' = m := of_decide_eq_true h; subst this; exact ⟨_, _, _, _, rfl⟩
/-- an entry, where it comes from -/
theorem found_mem {rows : List (List De)} {m : Str} {e : Ent} (h : e ∈ found (chg rows m)) : ∃ (k : Nat) (rm : List Mk) (bh : Option Mk) (n : Int) (t : Str) (i c : Nat), k < 8 ∧ De.change m rm bh n t ∈ rows.getD k [] ∧ t.cps.toList[i]? = some c ∧ e.mr = (n + (i : Nat), (k : Int)) ∧ e.bh = (if i = 0 then bh else some (n + (i : Nat) - 1, (k : Int))) ∧ e.ch = c := by
  obtain ⟨x, hx, he⟩ := List.mem_flatMap.mp h
  obtain ⟨k, hk, h1, h2, h3⟩ := chg_mem hx
  obtain ⟨rm, bh, n, t, e1⟩ := isCh_of h3
  obtain ⟨y, hy, rfl⟩ := List.mem_map.mp he
  rw [e1] at hy h2
  obtain ⟨i, c, hc, rfl⟩ := ins_mem (show y ∈ ins x.1 bh n t.cps.toList from hy)
  exact ⟨k, rm, bh, n, t, i, c, hk, h2, hc, by rw [h1], by rw [h1], rfl⟩
theorem found_has {rows : List (List De)} {m : Str} {b : Mk} : b ∈ (found (chg rows m)).map (·.mr) ↔ HasMk rows m b := by
  constructor
  · intro h
    obtain ⟨e, he, rfl⟩ := List.mem_map.mp h
    obtain ⟨k, rm, bh, n, t, i, c, hk, hd, hc, e1, _, _⟩ := found_mem he
    have hi := (List.getElem?_eq_some_iff.mp hc).1
    refine ⟨k, hk, _, hd, rfl, by rw [e1], by rw [e1]; show n ≤ n + (i : Int); omega, ?_⟩
    rw [e1]
    have : t.length = t.cps.toList.length := by rw [Array.length_toList]; rfl
    show n + (i : Int) < n + t.length
    omega
  · rintro ⟨k, hk, d, hd, hi⟩
    cases d with
    | back n => exact hi.elim
    | change m' rm bh n t =>
      obtain ⟨rfl, h2, h3, h4⟩ := hi
      obtain ⟨f, hf⟩ := mem_chgR (k := (k : Int)) hd (show isCh m' (.change m' rm bh n t) = true by simp [isCh])
      have hl : (b.1 - n).toNat < t.cps.toList.length := by
        have : t.length = t.cps.toList.length := by rw [Array.length_toList]; rfl
        omega
      have hs := ins_spec t.cps.toList (k : Int) bh n _ _ (List.getElem?_eq_getElem hl)
      refine List.mem_map.mpr ⟨⟨_, _, _, f⟩, List.mem_flatMap.mpr ⟨_, List.mem_flatMap.mpr ⟨k, List.mem_range.mpr hk, hf⟩, List.mem_map.mpr ⟨_, List.mem_of_getElem? hs, rfl⟩⟩, ?_⟩
      refine Prod.ext ?_ h2.symm
      show n + ((b.1 - n).toNat : Int) = b.1
      omega
theorem found_nodup {B : Int} {rows : List (List De)} (w : Wf B rows) (m : Str) : ((found (chg rows m)).map (·.mr)).Nodup := by
  have inD : ∀ (k : Int) (d : De) (f : Bool), ((entsOf (k, d, f)).map (·.mr)).Nodup := by
    intro k d f
    cases d with
    | back n => exact List.nodup_nil
    | change m' rm bh n t =>
      unfold entsOf
      rw [List.map_map]
      refine List.pairwise_iff_getElem.mpr fun i j hi hj hij => ?_
      rw [List.length_map] at hi hj
      have hi' : i < t.cps.toList.length := by have := ins_len t.cps.toList k bh n; simp only [insD] at hi; omega
      have hj' : j < t.cps.toList.length := by have := ins_len t.cps.toList k bh n; simp only [insD] at hj; omega
      have ei := ins_spec t.cps.toList k bh n i _ (List.getElem?_eq_getElem hi')
      have ej := ins_spec t.cps.toList k bh n j _ (List.getElem?_eq_getElem hj')
      simp only [List.getElem_map, Function.comp_apply]
      have gi := (List.getElem?_eq_some_iff.mp ei).2
      have gj := (List.getElem?_eq_some_iff.mp ej).2
      simp only [insD]
      rw [gi, gj]
      intro z
      have := congrArg Prod.fst z
      simp only at this
      omega
  have two : ∀ (k : Int) (d d' : De) (f f' : Bool), Befo d d' → ∀ x ∈ entsOf (k, d, f), ∀ y ∈ entsOf (k, d', f'), x.mr ≠ y.mr := by
    intro k d d' f f' hb x hx y hy
    cases d with
    | back n => simp [entsOf, insD] at hx
    | change m1 r1 b1 n1 t1 =>
      cases d' with
      | back n => simp [entsOf, insD] at hy
      | change m2 r2 b2 n2 t2 =>
        have hb : n1 + t1.length ≤ n2 := hb
        obtain ⟨u, hu, rfl⟩ := List.mem_map.mp hx
        obtain ⟨v, hv, rfl⟩ := List.mem_map.mp hy
        obtain ⟨i, c, hc, rfl⟩ := ins_mem (show u ∈ ins k b1 n1 t1.cps.toList from hu)
        obtain ⟨j, c', hc', rfl⟩ := ins_mem (show v ∈ ins k b2 n2 t2.cps.toList from hv)
        have hi := (List.getElem?_eq_some_iff.mp hc).1
        have : t1.length = t1.cps.toList.length := by rw [Array.length_toList]; rfl
        intro z
        have := congrArg Prod.fst z
        simp only at this
        omega
  have row : ∀ k : Nat, (((chgR (k : Int) (rows.getD k []) m).flatMap entsOf).map (·.mr)).Nodup := by
    intro k
    rw [List.map_flatMap]
    refine List.pairwise_flatMap.mpr ⟨fun x hx => ?_, ?_⟩
    · obtain ⟨h1, _, _⟩ := chgR_mem hx
      obtain ⟨a, d, f⟩ := x
      exact inD a d f
    · have hz : ((rows.getD k []).zip (frc (rows.getD k []) 1)).Pairwise fun x y => Befo x.1 y.1 := by
        have := w.bef k
        rw [← List.map_fst_zip (l₁ := rows.getD k []) (l₂ := frc (rows.getD k []) 1) (by rw [frc_len]; exact Nat.le_refl _)] at this
        exact List.pairwise_map.mp this
      have hz2 := (hz.filter fun x => isCh m x.1)
      unfold chgR
      refine List.pairwise_map.mpr (hz2.imp fun {x y} hb => ?_)
      intro a ha b hb'
      obtain ⟨u, hu, rfl⟩ := List.mem_map.mp ha
      obtain ⟨v, hv, rfl⟩ := List.mem_map.mp hb'
      exact two k x.1 y.1 x.2 y.2 hb u hu v hv
  unfold found chg
  rw [List.flatMap_assoc, List.map_flatMap]
  refine List.pairwise_flatMap.mpr ⟨fun k _ => row k, ?_⟩
  refine List.pairwise_lt_range.imp fun {a b} hab => ?_
  intro x hx y hy
  obtain ⟨u, hu, rfl⟩ := List.mem_map.mp hx
  obtain ⟨v, hv, rfl⟩ := List.mem_map.mp hy
  have key : ∀ (k : Nat) (e : Ent), e ∈ (chgR (k : Int) (rows.getD k []) m).flatMap entsOf → e.mr.2 = k := by
    intro k e he
    obtain ⟨z, hz, he⟩ := List.mem_flatMap.mp he
    obtain ⟨h1, _, h3⟩ := chgR_mem hz
    obtain ⟨rm, bh, n, t, e1⟩ := isCh_of h3
    obtain ⟨q, hq, rfl⟩ := List.mem_map.mp he
    rw [e1] at hq
    obtain ⟨i, c, _, rfl⟩ := ins_mem (show q ∈ ins z.1 bh n t.cps.toList from hq)
    exact h1
  intro z
  have h1 := key a u hu
  have h2 := key b v hv
  rw [z, h2] at h1
  omega
theorem found_beh {B : Int} {rows : List (List De)} (w : Wf B rows) {m : Str} {e : Ent} (h : e ∈ found (chg rows m)) {b : Mk} (hb : e.bh = some b) : b.1 < e.mr.1 ∧ b ∈ (found (chg rows m)).map (·.mr) := by
  obtain ⟨k, rm, bh, n, t, i, c, hk, hd, hc, e1, e2, _⟩ := found_mem h
  rw [found_has]
  rw [hb] at e2
  by_cases hi : i = 0
  · rw [if_pos hi] at e2
    obtain ⟨c1, c2⟩ := w.clo k _ hd b e2.symm
    rw [e1]
    exact ⟨by show b.1 < n + (i : Int); omega, c2⟩
  · rw [if_neg hi] at e2
    obtain rfl := Option.some.inj e2
    rw [e1]
    have hlen := (List.getElem?_eq_some_iff.mp hc).1
    have : t.length = t.cps.toList.length := by rw [Array.length_toList]; rfl
    refine ⟨by show n + (i : Int) - 1 < n + (i : Int); omega, k, hk, _, hd, rfl, rfl, ?_, ?_⟩
    · show n ≤ n + (i : Int) - 1; omega
    · show n + (i : Int) - 1 < n + t.length; omega
theorem found_mkR {B : Int} {rows : List (List De)} (w : Wf B rows) (hB : B ≤ 10000000000000000) {m : Str} {e : Ent} (h : e ∈ found (chg rows m)) : MkR e.mr := by
  obtain ⟨k, rm, bh, n, t, i, c, hk, hd, hc, e1, e2, _⟩ := found_mem h
  obtain ⟨h1, h2, _⟩ := w.ok k _ hd
  have hlen := (List.getElem?_eq_some_iff.mp hc).1
  have : t.length = t.cps.toList.length := by rw [Array.length_toList]; rfl
  rw [e1]
  refine ⟨?_, ?_, ?_, ?_⟩
  · show (0 : Int) ≤ n + (i : Int); omega
  · show n + (i : Int) < 10000000000000000; omega
  · show (0 : Int) ≤ (k : Int); omega
  · show (k : Int) < 8; omega
end Lw

namespace Lw
open PySem PySem.Spec PyProof.Rows L2
theorem snoc_ind {α : Type} {P : List α → Prop} (h0 : P []) (hs : ∀ es e, P es → P (es ++ [e])) (es : List α) : P es := by
  have : ∀ r : List α, P r.reverse := by
    intro r
    induction r with
    | nil => exact h0
    | cons a r ih => rw [List.reverse_cons]; exact hs _ _ ih
  have h := this es.reverse
  rwa [List.reverse_reverse] at h
theorem flat_le {α β : Type} {f : α → List β} {c : Nat} : ∀ {l : List α}, (∀ x ∈ l, (f x).length ≤ c) → (l.flatMap f).length ≤ c * l.length
  | [], _ => Nat.le_refl _
  | x :: r, h => by
    rw [List.flatMap_cons, List.length_append, List.length_cons]
    have h1 := h x List.mem_cons_self
    have h2 := flat_le (f := f) fun y hy => h y (List.mem_cons_of_mem _ hy)
    rw [Nat.mul_add]
    omega
theorem chgR_len (k : Int) (row : List De) (m : Str) : (chgR k row m).length ≤ row.length := by
  unfold chgR
  rw [List.length_map]
  refine Nat.le_trans (List.length_filter_le _ _) ?_
  rw [List.length_zip, frc_len]; omega
theorem chg_len {B : Int} {rows : List (List De)} (w : Wf B rows) (m : Str) : (chg rows m).length ≤ 800 := by
  have := flat_le (f := fun (k : Nat) => chgR (k : Int) (rows.getD k []) m) (c := 100) (l := List.range 8) fun k _ => Nat.le_trans (chgR_len _ _ _) (w.sm k)
  unfold chg
  rw [List.length_range] at this
  omega
theorem ents_len {B : Int} {rows : List (List De)} (w : Wf B rows) {m : Str} {x : Int × De × Bool} (h : x ∈ chg rows m) : (entsOf x).length ≤ 100 := by
  obtain ⟨k, hk, h1, h2, h3⟩ := chg_mem h
  obtain ⟨rm, bh, n, t, e1⟩ := isCh_of h3
  have := w.ok k _ h2
  unfold entsOf
  rw [List.length_map, e1]
  show (ins x.1 bh n t.cps.toList).length ≤ 100
  rw [ins_len, Array.length_toList]
  rw [e1] at this
  exact this.2.2.2.2.1
theorem rms_len {B : Int} {rows : List (List De)} (w : Wf B rows) {m : Str} {x : Int × De × Bool} (h : x ∈ chg rows m) : (rmsOf x).length ≤ 100 := by
  obtain ⟨k, hk, h1, h2, h3⟩ := chg_mem h
  obtain ⟨rm, bh, n, t, e1⟩ := isCh_of h3
  have := w.ok k _ h2
  rw [e1] at this
  unfold rmsOf
  rw [e1]
  split
  · exact this.2.2.2.1
  · exact Nat.zero_le _
theorem found_len {B : Int} {rows : List (List De)} (w : Wf B rows) (m : Str) : (found (chg rows m)).length ≤ 80000 := by
  have h1 := flat_le (f := entsOf) (c := 100) (l := chg rows m) fun x hx => ents_len w hx
  have h2 := chg_len w m
  unfold found; omega
theorem rem_len {B : Int} {rows : List (List De)} (w : Wf B rows) (m : Str) : (removed (chg rows m)).length ≤ 80000 := by
  have h1 := flat_le (f := rmsOf) (c := 100) (l := chg rows m) fun x hx => rms_len w hx
  have h2 := chg_len w m
  unfold removed; omega
theorem rmOf_ok {B : Int} {rows : List (List De)} (w : Wf B rows) {m : Str} {x : Int × De × Bool} (h : x ∈ chg rows m) : ∀ y ∈ rmOf x.2.1, MkR y := by
  obtain ⟨k, hk, h1, h2, h3⟩ := chg_mem h
  obtain ⟨rm, bh, n, t, e1⟩ := isCh_of h3
  have := w.ok k _ h2
  rw [e1] at this ⊢
  exact this.2.2.1
theorem rem_ok {B : Int} {rows : List (List De)} (w : Wf B rows) {m : Str} {y : Mk} (h : y ∈ removed (chg rows m)) : MkR y := by
  obtain ⟨x, hx, hy⟩ := List.mem_flatMap.mp h
  unfold rmsOf at hy
  split at hy
  · exact rmOf_ok w hx y hy
  · cases hy
/-! ### placing -/
theorem pin_mem (acc : List Ent) (e x : Ent) : x ∈ pin acc e ↔ x = e ∨ x ∈ acc := by
  unfold pin
  split
  · exact List.mem_cons
  · rename_i b _
    generalize (acc.map (·.mr)).idxOf b + 1 = n
    rw [List.append_assoc, List.mem_append, List.mem_append, List.mem_singleton]
    have : x ∈ acc ↔ x ∈ acc.take n ∨ x ∈ acc.drop n := by rw [← List.mem_append, List.take_append_drop]
    rw [this]
    constructor
    · rintro (h | h | h)
      · exact .inr (.inl h)
      · exact .inl h
      · exact .inr (.inr h)
    · rintro (h | h | h)
      · exact .inr (.inl h)
      · exact .inl h
      · exact .inr (.inr h)
theorem pin_len (acc : List Ent) (e : Ent) : (pin acc e).length = acc.length + 1 := by
  unfold pin
  split
  · rfl
  · rename_i b _
    generalize (acc.map (·.mr)).idxOf b + 1 = n
    rw [List.length_append, List.length_append, List.length_take, List.length_drop, List.length_cons, List.length_nil]; omega
theorem plc_snoc (es : List Ent) (e : Ent) : plc (es ++ [e]) = pin (plc es) e := by unfold plc; rw [List.foldl_append]; rfl
theorem plc_mem : ∀ (es : List Ent) (x : Ent), x ∈ plc es ↔ x ∈ es := by
  intro es
  induction es using snoc_ind with
  | h0 => intro x; exact Iff.rfl
  | hs es e ih =>
    intro x
    rw [plc_snoc, pin_mem, ih, List.mem_append, List.mem_singleton]
    exact Or.comm
theorem plc_len : ∀ (es : List Ent), (plc es).length = es.length := by
  intro es
  induction es using snoc_ind with
  | h0 => rfl
  | hs es e ih => rw [plc_snoc, pin_len, ih, List.length_append]; rfl
theorem eLe_trans (a b c : Ent) : eLe a b = true → eLe b c = true → eLe a c = true := by
  unfold eLe
  simp only [decide_eq_true_eq]
  omega
theorem eLe_total (a b : Ent) : (eLe a b || eLe b a) = true := by
  unfold eLe
  simp only [Bool.or_eq_true, decide_eq_true_eq]
  omega
abbrev srt (rows : List (List De)) (m : Str) : List Ent := (found (chg rows m)).mergeSort eLe
theorem srt_perm (rows : List (List De)) (m : Str) : (srt rows m).Perm (found (chg rows m)) := List.mergeSort_perm _ _
theorem srt_sorted (rows : List (List De)) (m : Str) : (srt rows m).Pairwise fun a b => eLe a b = true := List.pairwise_mergeSort eLe_trans eLe_total _
theorem srt_mem {rows : List (List De)} {m : Str} {e : Ent} : e ∈ srt rows m ↔ e ∈ found (chg rows m) := (srt_perm rows m).mem_iff
theorem srt_beh {B : Int} {rows : List (List De)} (w : Wf B rows) {m : Str} {i : Nat} {e : Ent} (h : (srt rows m)[i]? = some e) {b : Mk} (hb : e.bh = some b) : b ∈ (plc ((srt rows m).take i)).map (·.mr) := by
  obtain ⟨h1, h2⟩ := found_beh w (srt_mem.mp (List.mem_of_getElem? h)) hb
  obtain ⟨x, hx, rfl⟩ := List.mem_map.mp h2
  obtain ⟨j, hj⟩ := List.getElem?_of_mem (srt_mem.mpr hx)
  refine List.mem_map.mpr ⟨x, (plc_mem _ _).mpr ?_, rfl⟩
  have hi := List.getElem?_eq_some_iff.mp h
  have hj' := List.getElem?_eq_some_iff.mp hj
  have hij : j < i := by
    rcases Nat.lt_or_ge j i with z | z
    · exact z
    · rcases Nat.lt_or_eq_of_le z with z | z
      · have := List.pairwise_iff_getElem.mp (srt_sorted rows m) i j hi.1 hj'.1 z
        rw [hi.2, hj'.2] at this
        unfold eLe at this
        simp only [decide_eq_true_eq] at this
        omega
      · subst z; rw [h] at hj; cases hj; omega
  refine List.mem_of_getElem? (i := j) ?_
  rw [List.getElem?_take, if_pos hij]; exact hj
theorem srt_nodup {B : Int} {rows : List (List De)} (w : Wf B rows) (m : Str) : ((srt rows m).map (·.mr)).Nodup := ((srt_perm rows m).map _).nodup_iff.mpr (found_nodup w m)
theorem plc_nodup {B : Int} {rows : List (List De)} (w : Wf B rows) (m : Str) (i : Nat) : ((plc ((srt rows m).take i)).map (·.mr)).Nodup := by
  have key : ∀ es : List Ent, (es.map (·.mr)).Nodup → ((plc es).map (·.mr)).Nodup := by
    intro es
    induction es using snoc_ind with
    | h0 => intro h; exact h
    | hs es e ih =>
      intro h
      rw [List.map_append, List.nodup_append] at h
      rw [plc_snoc]
      have hn : e.mr ∉ (plc es).map (·.mr) := fun z => by
        obtain ⟨x, hx, hm⟩ := List.mem_map.mp z
        exact h.2.2 x.mr (List.mem_map.mpr ⟨x, (plc_mem _ _).mp hx, rfl⟩) e.mr (by simp) hm
      have := ih h.1
      unfold pin
      split
      · rw [List.map_cons]; exact List.nodup_cons.mpr ⟨hn, this⟩
      · rename_i b _
        generalize ((plc es).map (·.mr)).idxOf b + 1 = n
        have hp : (((plc es).take n ++ [e] ++ (plc es).drop n).map (·.mr)).Perm ((e :: plc es).map (·.mr)) := by
          refine List.Perm.map _ ?_
          have := (List.perm_middle (a := e) (l₁ := (plc es).take n) (l₂ := (plc es).drop n))
          rw [List.take_append_drop] at this
          rw [List.append_assoc]; exact this
        refine hp.nodup_iff.mpr ?_
        rw [List.map_cons]; exact List.nodup_cons.mpr ⟨hn, this⟩
  refine key _ ?_
  rw [List.map_take]
  exact (srt_nodup w m).sublist (List.take_sublist _ _)
end Lw

namespace Lw
open PySem L2
structure Ad where
  cDeeds : Addr
  cd_Deeds_row : Addr
  tb_Deeds_row : Addr
  cd__law_row : Addr
  tb__law_row : Addr
structure Cf (K : PySem.W.Frag) (A : Ad) : Prop where
  cl : Cls K A.cDeeds
  n1 : NoAttr K A.cDeeds "rows"
def Tb (A : Ad) : List (Addr × Str) := [(A.tb_Deeds_row, (("Deeds.row" : Str) ++ (".<locals>." : Str)) ++ ("<lambda>" : Str)), (A.tb__law_row, (("_law_row" : Str) ++ (".<locals>." : Str)) ++ ("<lambda>" : Str))]
def TNe (A : Ad) : Prop := A.tb_Deeds_row ≠ A.tb__law_row
theorem tb_un {A : Ad} (ne : TNe A) (P : Addr) (q : Str) (h : (P, q) ∈ Tb A) : ∀ x ∈ Tb A, x.1 = P → x.2 = q := by
  unfold Tb at *
  unfold TNe at ne
  simp only [List.mem_cons, List.not_mem_nil, or_false, Prod.mk.injEq] at h
  intro x hx e
  simp only [List.mem_cons, List.not_mem_nil, or_false] at hx
  rcases h with ⟨h1, h2⟩ | ⟨h1, h2⟩ <;> rcases hx with rfl | rfl
  · exact h2.symm
  · exact absurd (e.trans h1).symm ne
  · exact absurd (e.trans h1) ne
  · exact h2.symm
abbrev MU (A : Ad) (G G' : Hp) : Prop := Up (Tb A) G G'
end Lw

namespace Lw
open PySem PySem.Spec PyProof.Rows L2
local macro_rules | `(tactic| k_extra "x1") => `(tactic| first
  | with_reducible refine es_seq ?_
  | with_reducible refine es_asg ?_
  | with_reducible refine es_if ?_
  | with_reducible refine es_ret ?_
  | with_reducible refine es_drop ?_
  | with_reducible refine es_next ?_
  | with_reducible refine es_augS ?_
  | with_reducible refine es_fld ?_
  | ((with_reducible show Ee (tVar _) _ _ _); refine ee_var rfl ?_)
  | with_reducible refine ee_c ?_
  | with_reducible refine ee_op ?_
  | with_reducible refine ee_un ?_
  | with_reducible refine eu_neg ?_
  | with_reducible refine ee_cb ?_
  | with_reducible refine ee_call ?_
  | with_reducible refine ea_nil ?_
  | with_reducible refine ea_cons ?_
  | with_reducible refine ee_sl ?_
  | with_reducible refine eo_no ?_
  | with_reducible refine eo_part ?_
  | with_reducible refine ee_tup ?_
  | with_reducible refine ee_lst ?_
  | with_reducible refine et_test ?_
  | with_reducible refine et_tB ?_
  | with_reducible refine et_tru ?_
  | with_reducible refine et_and ?_
  | with_reducible refine et_or ?_
  | with_reducible refine et_not ?_
  | with_reducible refine ee_and ?_
  | with_reducible refine ee_or ?_
  | with_reducible refine ee_not ?_
  | with_reducible refine ee_if ?_
  | with_reducible refine ee_chain ?_
  | with_reducible refine er_addI ?_
  | with_reducible refine er_subI ?_
  | with_reducible refine er_eqI ?_
  | with_reducible refine er_neI ?_
  | with_reducible refine er_eqNI ?_
  | with_reducible refine er_eqS ?_
  | with_reducible refine er_neS ?_
  | with_reducible refine er_eqB ?_
  | with_reducible refine er_neB ?_
  | with_reducible refine er_lt ?_
  | with_reducible refine er_le ?_
  | with_reducible refine er_gt ?_
  | with_reducible refine er_ge ?_
  | with_reducible refine er_isN_non ?_
  | with_reducible refine er_isN_bl ?_
  | with_reducible refine er_isN_int ?_
  | with_reducible refine er_isN_str ?_
  | with_reducible refine er_isN_ref ?_
  | with_reducible refine er_notN_non ?_
  | with_reducible refine er_notN_bl ?_
  | with_reducible refine er_notN_int ?_
  | with_reducible refine er_notN_str ?_
  | with_reducible refine er_notN_ref ?_
  | with_reducible refine er_isN ?_
  | with_reducible refine er_notN ?_
  | with_reducible refine ec_int ?_
  | with_reducible refine ec_intB ?_
  | with_reducible refine ec_max2 ?_
  | with_reducible refine ec_min2 ?_
  | with_reducible refine ip_I ?_
  | ((with_reducible refine eg_name ?_); (try dsimp only [L2.wipe, List.set_cons_zero, List.set_cons_succ]))
  | with_reducible refine eg_sub ?_
  | with_reducible refine egs_cons ?_
  | with_reducible refine egs_nil ?_
  | with_reducible refine tru_bl ?_
  | with_reducible refine tru_int ?_
  | with_reducible refine tru_non ?_
  | with_reducible refine iteT ?_
  | with_reducible refine iteF ?_
  | with_reducible refine ite_nt ?_
  | with_reducible refine ite_nf ?_
  | with_reducible refine ⟨_, rfl, ?_⟩)
local macro_rules | `(tactic| k_extra "s") => `(tactic| ((first | k_extra "x1" | ((with_reducible refine es_unf ?_); refine es_seq ?_)); (repeat k_extra "x1")))
local macro_rules | `(tactic| k_extra "x") => `(tactic| (repeat first | k_extra "x1" | ((with_reducible refine es_unf ?_); refine es_seq ?_)))
local macro_rules | `(tactic| k_extra "start") => `(tactic| dsimp only [L2.start, List.map_cons, List.map_nil, List.length_cons, List.length_nil, Nat.reduceAdd, Nat.reduceSub, List.replicate, List.cons_append, List.nil_append, Nat.zero_add])
local macro_rules | `(tactic| k_extra "e1") => `(tactic| first
  | with_reducible refine es_next ?_
  | ((with_reducible show Ee (tVar _) _ _ _); refine ee_var rfl ?_)
  | with_reducible refine ee_c ?_
  | with_reducible refine ee_op ?_
  | with_reducible refine ee_un ?_
  | with_reducible refine eu_neg ?_
  | with_reducible refine ee_cb ?_
  | with_reducible refine ee_call ?_
  | with_reducible refine ea_nil ?_
  | with_reducible refine ea_cons ?_
  | with_reducible refine ee_sl ?_
  | with_reducible refine eo_no ?_
  | with_reducible refine eo_part ?_
  | with_reducible refine ee_tup ?_
  | with_reducible refine ee_lst ?_
  | with_reducible refine et_test ?_
  | with_reducible refine et_tB ?_
  | with_reducible refine et_tru ?_
  | with_reducible refine et_and ?_
  | with_reducible refine et_or ?_
  | with_reducible refine et_not ?_
  | with_reducible refine ee_and ?_
  | with_reducible refine ee_or ?_
  | with_reducible refine ee_not ?_
  | with_reducible refine ee_if ?_
  | with_reducible refine ee_chain ?_
  | with_reducible refine er_addI ?_
  | with_reducible refine er_subI ?_
  | with_reducible refine er_eqI ?_
  | with_reducible refine er_neI ?_
  | with_reducible refine er_eqNI ?_
  | with_reducible refine er_eqS ?_
  | with_reducible refine er_neS ?_
  | with_reducible refine er_eqB ?_
  | with_reducible refine er_neB ?_
  | with_reducible refine er_lt ?_
  | with_reducible refine er_le ?_
  | with_reducible refine er_gt ?_
  | with_reducible refine er_ge ?_
  | with_reducible refine er_isN_non ?_
  | with_reducible refine er_isN_bl ?_
  | with_reducible refine er_isN_int ?_
  | with_reducible refine er_isN_str ?_
  | with_reducible refine er_isN_ref ?_
  | with_reducible refine er_notN_non ?_
  | with_reducible refine er_notN_bl ?_
  | with_reducible refine er_notN_int ?_
  | with_reducible refine er_notN_str ?_
  | with_reducible refine er_notN_ref ?_
  | with_reducible refine er_isN ?_
  | with_reducible refine er_notN ?_
  | with_reducible refine ec_int ?_
  | with_reducible refine ec_intB ?_
  | with_reducible refine ec_max2 ?_
  | with_reducible refine ec_min2 ?_
  | with_reducible refine ip_I ?_
  | ((with_reducible refine eg_name ?_); (try dsimp only [L2.wipe, List.set_cons_zero, List.set_cons_succ]))
  | with_reducible refine eg_sub ?_
  | with_reducible refine egs_cons ?_
  | with_reducible refine egs_nil ?_
  | with_reducible refine tru_bl ?_
  | with_reducible refine tru_int ?_
  | with_reducible refine tru_non ?_
  | with_reducible refine iteT ?_
  | with_reducible refine iteF ?_
  | with_reducible refine ite_nt ?_
  | with_reducible refine ite_nf ?_
  | with_reducible refine ex_bl ?_
  | with_reducible refine ex_int ?_
  | with_reducible refine ex_str ?_
  | with_reducible refine ex_strx ?_
  | with_reducible refine ex_ints1 ?_
  | with_reducible refine ex_ints2 ?_)
local macro_rules | `(tactic| k_extra "t1") => `(tactic| first
  | with_reducible refine es_asg ?_
  | with_reducible refine es_if ?_
  | with_reducible refine es_ret ?_
  | with_reducible refine es_drop ?_
  | with_reducible refine es_augS ?_
  | with_reducible refine es_fld ?_)
local macro_rules | `(tactic| k_extra "e") => `(tactic| first
  | ((with_reducible refine es_seq ?_); (try k_extra "t1"); (repeat k_extra "e1"))
  | (k_extra "t1"; (repeat k_extra "e1"))
  | (k_extra "e1"; (repeat k_extra "e1"))
  | ((with_reducible refine es_unf ?_); (refine es_seq ?_); (try k_extra "t1"); (repeat k_extra "e1")))
theorem menu {α : Type} (l : List α) (x : Int) (h0 : 0 ≤ x) (h1 : x < l.length) : ∃ v, atI l x = some v ∧ v ∈ l := by
  obtain ⟨j, rfl⟩ := Int.eq_ofNat_of_zero_le h0
  have hj : j < l.length := by omega
  exact ⟨l[j], atI_nat (List.getElem?_eq_getElem hj), List.getElem_mem hj⟩
/-! ### _law_mix, _law_draws, _law_at -/
def Rn (x : Int) : Prop := 0 ≤ x ∧ x < 9973
def Dr (ds : List Int) : Prop := (∀ d ∈ ds, Rn d) ∧ ds.length ≤ 4000
abbrev Li (G : Hp) (p : Addr) (xs : List Int) : Prop := G p = some (.lst (xs.map V.int))
def S__law_mix (K : PySem.W.Frag) (A : Ad) : Pm := fun vs G Q _ => ∃ c k : Int, vs = [.int c, .int k] ∧ ∀ x, Rn x → Q (.int x) G
/-! _law_mix -/
def t__law_mix_1 (K : PySem.W.Frag) (A : Ad) : TS := tSeq (tAsg (tOp (rModU) (tCB (rInt1) (tCons (tOp (rAddU K) (tOp (rAddU K) (tOp (rMulU) (tVar 2) (tVar 2)) (tOp (rMulU) (tVar 1) (tC (.int 40692)))) (tC (.int 1))) tNil)) (tC (.int 2147483399))) (gName 2)) (tRet (tOp (rModU) (tOp (rDivU) (tVar 2) (tC (.int 5))) (tC (.int 9973))))
def t__law_mix (K : PySem.W.Frag) (A : Ad) : TS := tSeq (tAsg (tOp (rModU) (tCB (rInt1) (tCons (tOp (rAddU K) (tOp (rAddU K) (tOp (rMulU) (tCB (rInt1) (tCons (tVar 0) tNil)) (tC (.int 48271))) (tOp (rMulU) (tVar 1) (tC (.int 69621)))) (tC (.int 12345))) tNil)) (tC (.int 2147483647))) (gName 2)) (t__law_mix_1 K A)
theorem len__law_mix {K : PySem.W.Frag} {A : Ad} : ∀ vs G Q E, S__law_mix K A vs G Q E → vs.length = ["cell", "k"].length := by
  rintro vs G Q E ⟨c, k, rfl, _⟩; rfl
theorem ok__law_mix {K : PySem.W.Frag} {A : Ad} : ∀ vs G Q E, S__law_mix K A vs G Q E → Es (t__law_mix K A) { nx := fun _ G' => Q .non G', rt := Q } (L2.start ["cell", "k", "value"] vs) G := by
  rintro vs G Q E ⟨c, k, rfl, q⟩
  change Es _ _ (_ :: _ :: _ :: []) _
  k_extra "e"
  refine er_mulR (by decide) ?_
  k_extra "e"
  refine er_mulR (by decide) ?_
  k_extra "e"
  refine er_mod (by decide) ?_
  k_extra "e"
  k_extra "e"
  refine er_mulL (by omega) ?_
  k_extra "e"
  refine er_mulR (by decide) ?_
  k_extra "e"
  refine er_mod (by decide) ?_
  k_extra "e"
  k_extra "e"
  refine er_div (by decide) ?_
  k_extra "e"
  refine er_mod (by decide) ?_
  exact q _ ⟨by omega, by omega⟩
def S__law_draws (K : PySem.W.Frag) (A : Ad) : Pm := fun vs G Q _ => ∃ (a : Addr) (ns : List Int), vs = [.ref a] ∧ SqL K G a (ns.map V.int) ∧ ns.length ≤ 63 ∧ ∀ p ds G', Ex G G' → Li G' p ds → Dr ds → Q (.ref p) G'
/-! _law_draws -/
def t__law_draws_1 (K : PySem.W.Frag) (A : Ad) : TS := tSeq (tDrop (tBM K "list" (rAppend) (tVar 1) (tCons (tOp (rModU) (tCB (rInt1) (tCons (tVar 3) tNil)) (tC (.int 9973))) tNil))) (tAsg (tOp (rDivU) (tVar 3) (tC (.int 9973))) (gName 3))
def t__law_draws_2 (K : PySem.W.Frag) (A : Ad) : TS := tSeq (tAsg (tCB (rInt1) (tCons (tOp (rIx K) (tVar 0) (tVar 2)) tNil)) (gName 3)) (tIfS (tTest (tOp (rLtU K) (tVar 3) (tOp (rPowU) (tC (.int 10)) (tC (.int 18))))) (tDrop (tBM K "list" (rAppend) (tVar 1) (tCons (tCall (up (S__law_mix K A)) [] E0 (tCons (tVar 3) (tCons (tVar 2) tNil))) tNil))) (tFor (iRng1 (tCons (tC (.int 60)) tNil)) (gName 4) (tIfS (tTest (tOp (rGtI) (tVar 3) (tC (.int 0)))) (t__law_draws_1 K A) tNext)))
def t__law_draws_3 (K : PySem.W.Frag) (A : Ad) : TS := tSeq (tFor (iRng1 (tCons (tCB rMin2U (tCons (tC (.int 63)) (tCons (tCB (rLenU K) (tCons (tVar 0) tNil)) tNil))) tNil)) (gName 2) (t__law_draws_2 K A)) (tRet (tVar 1))
def t__law_draws (K : PySem.W.Frag) (A : Ad) : TS := tSeq (tAsg (tLst tNil) (gName 1)) (t__law_draws_3 K A)
theorem len__law_draws {K : PySem.W.Frag} {A : Ad} : ∀ vs G Q E, S__law_draws K A vs G Q E → vs.length = ["script"].length := by
  rintro vs G Q E ⟨a, ns, rfl, _⟩; rfl
theorem dr_snoc {ds : List Int} {x : Int} (h : ∀ d ∈ ds, Rn d) (hx : Rn x) : ∀ d ∈ ds ++ [x], Rn d := by
  intro d hd
  rcases List.mem_append.mp hd with hd | hd
  · exact h d hd
  · rw [List.mem_singleton] at hd; subst hd; exact hx
theorem ok__law_draws {K : PySem.W.Frag} {A : Ad} : ∀ vs G Q E, S__law_draws K A vs G Q E → Es (t__law_draws K A) { nx := fun _ G' => Q .non G', rt := Q } (L2.start ["script", "draws", "k", "cell", "place"] vs) G := by
  rintro vs G Q E ⟨a, ns, rfl, hS, hn, q⟩
  change Es _ _ (_ :: _ :: _ :: _ :: _ :: []) _
  k_extra "e"
  refine ⟨sz1000 (by simp), fun p hp => ?_⟩
  k_extra "e"
  k_extra "e"
  refine es_forR1 ?_
  k_extra "e"
  refine ec_lenL ((Ex.new hp).sl hS) fun _ => ?_
  k_extra "e"
  rw [List.length_map]
  refine ⟨by omega, fun i σ G' => ∃ c2 c3 c4 ds, σ = [some (.ref a), some (.ref p), c2, c3, c4] ∧ Ex G G' ∧ Li G' p ds ∧ (∀ d ∈ ds, Rn d) ∧ ds.length ≤ 60 * i, ⟨_, _, _, [], rfl, Ex.new hp, upd_same, (fun d h => by cases h), Nat.le_refl _⟩, ?_, ?_⟩
  · rintro i σ G' hi ⟨c2, c3, c4, ds, rfl, e1, e2, e3, e4⟩
    have hi' : i < ns.length := by omega
    have hc : (ns.map V.int)[i]? = some (.int ns[i]) := by rw [List.getElem?_map, List.getElem?_eq_getElem hi']; rfl
    k_extra "e"
    refine er_ixL (e1.sl hS) (atI_nat hc) ?_
    k_extra "e"
    k_extra "e"
    refine er_pow (by decide) ?_
    k_extra "e"
    refine ifd (fun _ => ?_) (fun _ => ?_)
    · k_extra "e"
      refine ee_bm ?_
      k_extra "e"
      refine ⟨ty_lst e2, ?_⟩
      k_extra "e"
      refine ⟨_, _, rfl, fun x hx => ?_⟩
      k_extra "e"
      refine em_append e2 (by rw [List.length_map]; exact szlt (by omega)) ?_
      exact ⟨_, _, _, ds ++ [x], rfl, e1.mut hp, by rw [Li, upd_same, List.map_append]; rfl, dr_snoc e3 hx, by rw [List.length_append, List.length_cons, List.length_nil]; omega⟩
    · refine es_forR1 ?_
      k_extra "e"
      refine ⟨by omega, fun j σ G' => ∃ c c4 ds, σ = [some (.ref a), some (.ref p), some (.int (i : Int)), some (.int c), c4] ∧ Ex G G' ∧ Li G' p ds ∧ (∀ d ∈ ds, Rn d) ∧ ds.length ≤ 60 * i + j ∧ j ≤ 60, ⟨_, _, ds, rfl, e1, e2, e3, by omega, by omega⟩, ?_, ?_⟩
      · rintro j σ G' hj ⟨c, c4, ds, rfl, e1, e2, e3, e4, e5⟩
        k_extra "e"
        refine ifd (fun hc => ?_) (fun _ => ?_)
        · k_extra "e"
          refine ee_bm ?_
          k_extra "e"
          refine ⟨ty_lst e2, ?_⟩
          k_extra "e"
          refine er_mod (by decide) ?_
          k_extra "e"
          refine em_append e2 (by rw [List.length_map]; exact szlt (by omega)) ?_
          k_extra "e"
          refine er_div (by decide) ?_
          k_extra "e"
          exact ⟨_, _, ds ++ [c % 9973], rfl, e1.mut hp, by rw [Li, upd_same, List.map_append]; rfl, dr_snoc e3 ⟨by omega, by omega⟩, by rw [List.length_append, List.length_cons, List.length_nil]; omega, by omega⟩
        · k_extra "e"
          exact ⟨_, _, ds, rfl, e1, e2, e3, by omega, by omega⟩
      · rintro σ G' ⟨c, c4, ds, rfl, e1, e2, e3, e4, e5⟩
        exact ⟨_, _, _, ds, rfl, e1, e2, e3, by omega⟩
  · rintro σ G' ⟨c2, c3, c4, ds, rfl, e1, e2, e3, e4⟩
    k_extra "e"
    exact q p ds _ e1 e2 ⟨e3, by omega⟩
def S__law_at (K : PySem.W.Frag) (A : Ad) : Pm := fun vs G Q _ => ∃ (p : Addr) (ds : List Int) (i : Int), vs = [.ref p, .int i] ∧ Li G p ds ∧ Dr ds ∧ 0 ≤ i ∧ ∀ x, Rn x → Q (.int x) G
/-! _law_at -/
def t__law_at_1 (K : PySem.W.Frag) (A : Ad) : TS := tSeq (tIfS (tTest (tOp (rEqU K) (tCB (rLenU K) (tCons (tVar 0) tNil)) (tC (.int 0)))) (tRet (tCall (up (S__law_mix K A)) [] E0 (tCons (tVar 1) (tCons (tC (.int 77)) tNil)))) tNext) (tRet (tCall (up (S__law_mix K A)) [] E0 (tCons (tOp (rAddU K) (tOp (rIx K) (tVar 0) (tOp (rModU) (tCB (rInt1) (tCons (tVar 1) tNil)) (tCB (rLenU K) (tCons (tVar 0) tNil)))) (tOp (rMulU) (tVar 1) (tC (.int 131)))) (tCons (tVar 1) tNil))))
def t__law_at (K : PySem.W.Frag) (A : Ad) : TS := tSeq (tIfS (tTest (tOp (rLtU K) (tVar 1) (tCB (rLenU K) (tCons (tVar 0) tNil)))) (tRet (tOp (rIx K) (tVar 0) (tVar 1))) tNext) (t__law_at_1 K A)
theorem len__law_at {K : PySem.W.Frag} {A : Ad} : ∀ vs G Q E, S__law_at K A vs G Q E → vs.length = ["draws", "index"].length := by
  rintro vs G Q E ⟨p, ds, i, rfl, _⟩; rfl
theorem ok__law_at {K : PySem.W.Frag} {A : Ad} : ∀ vs G Q E, S__law_at K A vs G Q E → Es (t__law_at K A) { nx := fun _ G' => Q .non G', rt := Q } (L2.start ["draws", "index"] vs) G := by
  rintro vs G Q E ⟨p, ds, i, rfl, hp, hd, hi, q⟩
  change Es _ _ (_ :: _ :: []) _
  k_extra "e"
  refine ec_lenL (SqL.of hp) fun _ => ?_
  rw [List.length_map]
  k_extra "e"
  obtain ⟨j, rfl⟩ := Int.eq_ofNat_of_zero_le hi
  refine ifd (fun h => ?_) (fun h => ?_)
  · have hj : j < ds.length := by omega
    have hc : (ds.map V.int)[j]? = some (.int ds[j]) := by rw [List.getElem?_map, List.getElem?_eq_getElem hj]; rfl
    k_extra "e"
    refine er_ixL (SqL.of hp) (atI_nat hc) ?_
    exact q _ (hd.1 _ (List.getElem_mem hj))
  k_extra "e"
  k_extra "e"
  refine ec_lenL (SqL.of hp) fun _ => ?_
  rw [List.length_map]
  k_extra "e"
  refine ifd (fun h0 => ?_) (fun h0 => ?_)
  · k_extra "e"
    exact ⟨_, _, rfl, q⟩
  k_extra "e"
  k_extra "e"
  refine ec_lenL (SqL.of hp) fun _ => ?_
  rw [List.length_map]
  refine er_mod (by omega) ?_
  have hm0 : 0 ≤ (j : Int) % (ds.length : Int) := Int.emod_nonneg _ (by omega)
  have hm1 : (j : Int) % (ds.length : Int) < ds.length := Int.emod_lt_of_pos _ (by omega)
  obtain ⟨m, hm⟩ := Int.eq_ofNat_of_zero_le hm0
  have hmj : m < ds.length := by omega
  have hc : (ds.map V.int)[m]? = some (.int ds[m]) := by rw [List.getElem?_map, List.getElem?_eq_getElem hmj]; rfl
  rw [hm]
  refine er_ixL (SqL.of hp) (atI_nat hc) ?_
  k_extra "e"
  refine er_mulR (by decide) ?_
  k_extra "e"
  exact ⟨_, _, rfl, q⟩
end Lw

namespace Lw
open PySem PySem.Spec PyProof.Rows L2
local macro_rules | `(tactic| k_extra "x1") => `(tactic| first
  | with_reducible refine es_seq ?_
  | with_reducible refine es_asg ?_
  | with_reducible refine es_if ?_
  | with_reducible refine es_ret ?_
  | with_reducible refine es_drop ?_
  | with_reducible refine es_next ?_
  | with_reducible refine es_augS ?_
  | with_reducible refine es_fld ?_
  | ((with_reducible show Ee (tVar _) _ _ _); refine ee_var rfl ?_)
  | with_reducible refine ee_c ?_
  | with_reducible refine ee_op ?_
  | with_reducible refine ee_un ?_
  | with_reducible refine eu_neg ?_
  | with_reducible refine ee_cb ?_
  | with_reducible refine ee_call ?_
  | with_reducible refine ea_nil ?_
  | with_reducible refine ea_cons ?_
  | with_reducible refine ee_sl ?_
  | with_reducible refine eo_no ?_
  | with_reducible refine eo_part ?_
  | with_reducible refine ee_tup ?_
  | with_reducible refine ee_lst ?_
  | with_reducible refine et_test ?_
  | with_reducible refine et_tB ?_
  | with_reducible refine et_tru ?_
  | with_reducible refine et_and ?_
  | with_reducible refine et_or ?_
  | with_reducible refine et_not ?_
  | with_reducible refine ee_and ?_
  | with_reducible refine ee_or ?_
  | with_reducible refine ee_not ?_
  | with_reducible refine ee_if ?_
  | with_reducible refine ee_chain ?_
  | with_reducible refine er_addI ?_
  | with_reducible refine er_subI ?_
  | with_reducible refine er_eqI ?_
  | with_reducible refine er_neI ?_
  | with_reducible refine er_eqNI ?_
  | with_reducible refine er_eqS ?_
  | with_reducible refine er_neS ?_
  | with_reducible refine er_eqB ?_
  | with_reducible refine er_neB ?_
  | with_reducible refine er_lt ?_
  | with_reducible refine er_le ?_
  | with_reducible refine er_gt ?_
  | with_reducible refine er_ge ?_
  | with_reducible refine er_isN_non ?_
  | with_reducible refine er_isN_bl ?_
  | with_reducible refine er_isN_int ?_
  | with_reducible refine er_isN_str ?_
  | with_reducible refine er_isN_ref ?_
  | with_reducible refine er_notN_non ?_
  | with_reducible refine er_notN_bl ?_
  | with_reducible refine er_notN_int ?_
  | with_reducible refine er_notN_str ?_
  | with_reducible refine er_notN_ref ?_
  | with_reducible refine er_isN ?_
  | with_reducible refine er_notN ?_
  | with_reducible refine ec_int ?_
  | with_reducible refine ec_intB ?_
  | with_reducible refine ec_max2 ?_
  | with_reducible refine ec_min2 ?_
  | with_reducible refine ip_I ?_
  | ((with_reducible refine eg_name ?_); (try dsimp only [L2.wipe, List.set_cons_zero, List.set_cons_succ]))
  | with_reducible refine eg_sub ?_
  | with_reducible refine egs_cons ?_
  | with_reducible refine egs_nil ?_
  | with_reducible refine tru_bl ?_
  | with_reducible refine tru_int ?_
  | with_reducible refine tru_non ?_
  | with_reducible refine iteT ?_
  | with_reducible refine iteF ?_
  | with_reducible refine ite_nt ?_
  | with_reducible refine ite_nf ?_
  | with_reducible refine ⟨_, rfl, ?_⟩)
local macro_rules | `(tactic| k_extra "s") => `(tactic| ((first | k_extra "x1" | ((with_reducible refine es_unf ?_); refine es_seq ?_)); (repeat k_extra "x1")))
local macro_rules | `(tactic| k_extra "x") => `(tactic| (repeat first | k_extra "x1" | ((with_reducible refine es_unf ?_); refine es_seq ?_)))
local macro_rules | `(tactic| k_extra "start") => `(tactic| dsimp only [L2.start, List.map_cons, List.map_nil, List.length_cons, List.length_nil, Nat.reduceAdd, Nat.reduceSub, List.replicate, List.cons_append, List.nil_append, Nat.zero_add])
local macro_rules | `(tactic| k_extra "e1") => `(tactic| first
  | with_reducible refine es_next ?_
  | ((with_reducible show Ee (tVar _) _ _ _); refine ee_var rfl ?_)
  | with_reducible refine ee_c ?_
  | with_reducible refine ee_op ?_
  | with_reducible refine ee_un ?_
  | with_reducible refine eu_neg ?_
  | with_reducible refine ee_cb ?_
  | with_reducible refine ee_call ?_
  | with_reducible refine ea_nil ?_
  | with_reducible refine ea_cons ?_
  | with_reducible refine ee_sl ?_
  | with_reducible refine eo_no ?_
  | with_reducible refine eo_part ?_
  | with_reducible refine ee_tup ?_
  | with_reducible refine ee_lst ?_
  | with_reducible refine et_test ?_
  | with_reducible refine et_tB ?_
  | with_reducible refine et_tru ?_
  | with_reducible refine et_and ?_
  | with_reducible refine et_or ?_
  | with_reducible refine et_not ?_
  | with_reducible refine ee_and ?_
  | with_reducible refine ee_or ?_
  | with_reducible refine ee_not ?_
  | with_reducible refine ee_if ?_
  | with_reducible refine ee_chain ?_
  | with_reducible refine er_addI ?_
  | with_reducible refine er_subI ?_
  | with_reducible refine er_eqI ?_
  | with_reducible refine er_neI ?_
  | with_reducible refine er_eqNI ?_
  | with_reducible refine er_eqS ?_
  | with_reducible refine er_neS ?_
  | with_reducible refine er_eqB ?_
  | with_reducible refine er_neB ?_
  | with_reducible refine er_lt ?_
  | with_reducible refine er_le ?_
  | with_reducible refine er_gt ?_
  | with_reducible refine er_ge ?_
  | with_reducible refine er_isN_non ?_
  | with_reducible refine er_isN_bl ?_
  | with_reducible refine er_isN_int ?_
  | with_reducible refine er_isN_str ?_
  | with_reducible refine er_isN_ref ?_
  | with_reducible refine er_notN_non ?_
  | with_reducible refine er_notN_bl ?_
  | with_reducible refine er_notN_int ?_
  | with_reducible refine er_notN_str ?_
  | with_reducible refine er_notN_ref ?_
  | with_reducible refine er_isN ?_
  | with_reducible refine er_notN ?_
  | with_reducible refine ec_int ?_
  | with_reducible refine ec_intB ?_
  | with_reducible refine ec_max2 ?_
  | with_reducible refine ec_min2 ?_
  | with_reducible refine ip_I ?_
  | ((with_reducible refine eg_name ?_); (try dsimp only [L2.wipe, List.set_cons_zero, List.set_cons_succ]))
  | with_reducible refine eg_sub ?_
  | with_reducible refine egs_cons ?_
  | with_reducible refine egs_nil ?_
  | with_reducible refine tru_bl ?_
  | with_reducible refine tru_int ?_
  | with_reducible refine tru_non ?_
  | with_reducible refine iteT ?_
  | with_reducible refine iteF ?_
  | with_reducible refine ite_nt ?_
  | with_reducible refine ite_nf ?_
  | with_reducible refine ex_bl ?_
  | with_reducible refine ex_int ?_
  | with_reducible refine ex_str ?_
  | with_reducible refine ex_strx ?_
  | with_reducible refine ex_ints1 ?_
  | with_reducible refine ex_ints2 ?_)
local macro_rules | `(tactic| k_extra "t1") => `(tactic| first
  | with_reducible refine es_asg ?_
  | with_reducible refine es_if ?_
  | with_reducible refine es_ret ?_
  | with_reducible refine es_drop ?_
  | with_reducible refine es_augS ?_
  | with_reducible refine es_fld ?_)
local macro_rules | `(tactic| k_extra "e") => `(tactic| first
  | ((with_reducible refine es_seq ?_); (try k_extra "t1"); (repeat k_extra "e1"))
  | (k_extra "t1"; (repeat k_extra "e1"))
  | (k_extra "e1"; (repeat k_extra "e1"))
  | ((with_reducible refine es_unf ?_); (refine es_seq ?_); (try k_extra "t1"); (repeat k_extra "e1")))
/-! ### _law_is_integer, _law_same -/
def S__law_is_integer (K : PySem.W.Frag) (A : Ad) : Pm := fun vs G Q _ => ∃ i : Int, vs = [.int i] ∧ Q (.bl true) G
/-! _law_is_integer -/
def t__law_is_integer (K : PySem.W.Frag) (A : Ad) : TS := (tRet (tAndV (tCB (rIsiU K) (tCons (tVar 0) (tCons (tC (.ty "int")) tNil))) (tNotV (tCB (rIsiU K) (tCons (tVar 0) (tCons (tC (.ty "bool")) tNil))))))
theorem len__law_is_integer {K : PySem.W.Frag} {A : Ad} : ∀ vs G Q E, S__law_is_integer K A vs G Q E → vs.length = ["actual"].length := by
  rintro vs G Q E ⟨i, rfl, _⟩; rfl
theorem ok__law_is_integer {K : PySem.W.Frag} {A : Ad} : ∀ vs G Q E, S__law_is_integer K A vs G Q E → Es (t__law_is_integer K A) { nx := fun _ G' => Q .non G', rt := Q } (L2.start ["actual"] vs) G := by
  rintro vs G Q E ⟨i, rfl, q⟩
  change Es _ _ (_ :: []) _
  k_extra "e"
  refine ec_isi (.base (.int i)) (r := true) (by decide +kernel) ?_
  k_extra "e"
  refine ec_isi (.base (.int i)) (r := false) (by decide +kernel) ?_
  k_extra "e"
  exact q
def Sn__law_same (K : PySem.W.Frag) (A : Ad) (n : Nat) : Pm := fun vs G Q _ => ∃ a e d, vs = [a, e] ∧ Dp K G a d ∧ Dp K G e d ∧ d.depth < n ∧ ∀ G', Ex G G' → Q (.bl true) G'
/-! _law_same -/
def t__law_same_1 (K : PySem.W.Frag) (A : Ad) (S : Pm) : TS := tSeq (tFor (iRng1 (tCons (tCB (rLenU K) (tCons (tVar 1) tNil)) tNil)) (gName 2) (tIfS (tNot (tTru K (tCall (up S) [] E0 (tCons (tOp (rIx K) (tVar 0) (tVar 2)) (tCons (tOp (rIx K) (tVar 1) (tVar 2)) tNil))))) (tRet (tC (.bl false))) tNext)) (tRet (tC (.bl true)))
def t__law_same_2 (K : PySem.W.Frag) (A : Ad) (S : Pm) : TS := tSeq (tIfS (tTest (tOp (rNeU K) (tCB (rLenU K) (tCons (tVar 0) tNil)) (tCB (rLenU K) (tCons (tVar 1) tNil)))) (tRet (tC (.bl false))) tNext) (t__law_same_1 K A S)
def t__law_same_3 (K : PySem.W.Frag) (A : Ad) (S : Pm) : TS := tSeq (tIfS (tOr (tTest (tOp (rNeU K) (tCB (rIsiU K) (tCons (tVar 1) (tCons (tC (.ty "list")) tNil))) (tCB (rIsiU K) (tCons (tVar 0) (tCons (tC (.ty "list")) tNil))))) (tTest (tOp (rNeU K) (tCB (rIsiU K) (tCons (tVar 1) (tCons (tC (.ty "tuple")) tNil))) (tCB (rIsiU K) (tCons (tVar 0) (tCons (tC (.ty "tuple")) tNil)))))) (tRet (tC (.bl false))) tNext) (t__law_same_2 K A S)
def t__law_same_4 (K : PySem.W.Frag) (A : Ad) (S : Pm) : TS := tSeq (tIfS (tTru K (tCB (rIsiU K) (tCons (tVar 1) (tCons (tC (.ty "int")) tNil)))) (tRet (tAndV (tCall (up (S__law_is_integer K A)) [] E0 (tCons (tVar 0) tNil)) (tOp (rEqU K) (tVar 0) (tVar 1)))) tNext) (tRet (tAndV (tCB (rIsiU K) (tCons (tVar 0) (tCons (tC (.ty "str")) tNil))) (tOp (rEqU K) (tVar 0) (tVar 1))))
def t__law_same_5 (K : PySem.W.Frag) (A : Ad) (S : Pm) : TS := tSeq (tIfS (tTru K (tCB (rIsiU K) (tCons (tVar 1) (tCons (tC (.ty "bool")) tNil)))) (tRet (tAndV (tCB (rIsiU K) (tCons (tVar 0) (tCons (tC (.ty "bool")) tNil))) (tOp (rEqU K) (tVar 0) (tVar 1)))) tNext) (t__law_same_4 K A S)
def t__law_same_6 (K : PySem.W.Frag) (A : Ad) (S : Pm) : TS := tSeq (tIfS (tTest (tOp (rIsN) (tVar 1) (tC .non))) (tRet (tOp (rIsN) (tVar 0) (tC .non))) tNext) (t__law_same_5 K A S)
def t__law_same (K : PySem.W.Frag) (A : Ad) (S : Pm) : TS := tSeq (tIfS (tTru K (tCB (rIsiU K) (tCons (tVar 1) (tCons (tTup (tCons (tC (.ty "list")) (tCons (tC (.ty "tuple")) tNil))) tNil)))) (t__law_same_3 K A S) tNext) (t__law_same_6 K A S)
theorem len__law_same {K : PySem.W.Frag} {A : Ad} (n : Nat) : ∀ vs G Q E, Sn__law_same K A n vs G Q E → vs.length = ["actual", "expected"].length := by
  rintro vs G Q E ⟨a, e, d, rfl, _⟩; rfl
theorem no__law_same {K : PySem.W.Frag} {A : Ad} : ∀ vs G Q E, ¬ Sn__law_same K A 0 vs G Q E := by
  rintro vs G Q E ⟨a, e, d, _, _, _, h, _⟩; exact absurd h (Nat.not_lt_zero _)
theorem depth_mem {d : PyData} {ds : List PyData} (h : d ∈ ds) : d.depth ≤ PyData.depthAll ds := PyData.depth_le_depthAll ds d h
theorem law_same_tail {K : PySem.W.Frag} {A : Ad} {n : Nat} {G0 G : Hp} {Q : V → Hp → Prop} {D : Ek} (hD : D.rt = Q) {a e : Addr} {xs ys : List V} {ds : List PyData} (h1 : Sq K G a xs) (h2 : Sq K G e ys) (k1 : DpAll K G xs ds) (k2 : DpAll K G ys ds) (hd : PyData.depthAll ds < n) (e0 : Ex G0 G) (q : ∀ G', Ex G0 G' → Q (.bl true) G') :
    Es (t__law_same_2 K A (Sn__law_same K A n)) D [some (.ref a), some (.ref e), none] G := by
  have e1 := dps_len k1
  have e2 := dps_len k2
  k_extra "s"
  refine ec_lenU h1 fun _ => ?_
  k_extra "s"
  refine ec_lenU h2 fun _ => ?_
  k_extra "s"
  refine ifnd (fun h => absurd (by rw [e1, e2]) h) fun _ => ?_
  k_extra "s"
  k_extra "s"
  refine es_forR1 ?_
  k_extra "s"
  refine ec_lenU h2 fun hz => ?_
  k_extra "s"
  refine ⟨line62 hz, fun i σ G' => Ex G G' ∧ ∃ c, σ = [some (.ref a), some (.ref e), c], ⟨Ex.refl _, _, rfl⟩, ?_, ?_⟩
  · rintro i σ G' hi ⟨eG, c, rfl⟩
    obtain ⟨d, hd'⟩ : ∃ d, ds[i]? = some d := ⟨ds[i]'(by omega), List.getElem?_eq_getElem _⟩
    obtain ⟨x, hx, kx⟩ := dps_get k1 hd'
    obtain ⟨y, hy, ky⟩ := dps_get k2 hd'
    have hm := List.mem_of_getElem? hd'
    k_extra "s"
    refine er_ixU (h1.elim (fun h => .inl (eG.sl h)) (fun h => .inr (eG.st h))) (atI_nat hx) ?_
    k_extra "s"
    refine er_ixU (h2.elim (fun h => .inl (eG.sl h)) (fun h => .inr (eG.st h))) (atI_nat hy) ?_
    k_extra "s"
    refine ⟨x, y, d, rfl, eG.dp kx, eG.dp ky, Nat.lt_of_le_of_lt (depth_mem hm) hd, fun G2 e3 => ?_⟩
    refine ⟨true, rfl, ?_⟩
    k_extra "s"
    exact ⟨eG.trans e3, _, rfl⟩
  · rintro σ G' ⟨eG, c, rfl⟩
    k_extra "s"
    rw [hD]
    exact q _ (e0.trans eG)
theorem nt_true {A B : Prop} (b : B) : if (!decide (true = true)) = true then A else B := ifnd (fun h => absurd rfl h) fun _ => b
theorem nt_false {A B : Prop} (b : B) : if (!decide (false = false)) = true then A else B := ifnd (fun h => absurd rfl h) fun _ => b
theorem ok__law_same {K : PySem.W.Frag} {A : Ad} (n : Nat) : ∀ vs G Q E, Sn__law_same K A (n + 1) vs G Q E → Es (t__law_same K A (Sn__law_same K A n)) { nx := fun _ G' => Q .non G', rt := Q } (L2.start ["actual", "expected", "k"] vs) G := by
  rintro vs G Q E ⟨a, e, d, rfl, ha, he, hd, q⟩
  change Es _ _ (_ :: _ :: _ :: []) _
  cases he with
  | non =>
    cases ha
    k_extra "e"
    refine ⟨sz1000 (by simp), fun t ht => ?_⟩
    k_extra "s"
    refine ec_isi2 (b := "list") (c := "tuple") (a := "NoneType") (.base .non) upd_same (r := false) (r' := false) (by decide +kernel) (by decide +kernel) ?_
    k_extra "s"
    refine iff_ rfl ?_
    k_extra "s"
    k_extra "s"
    exact q _ (Ex.new ht)
  | bl b =>
    cases ha
    k_extra "e"
    refine ⟨sz1000 (by simp), fun t ht => ?_⟩
    k_extra "s"
    refine ec_isi2 (b := "list") (c := "tuple") (.base (.bl b)) upd_same (r := false) (r' := false) (by decide +kernel) (by decide +kernel) ?_
    k_extra "s"
    refine iff_ rfl ?_
    k_extra "s"
    k_extra "s"
    k_extra "s"
    refine ec_isi (.base (.bl b)) (r := true) (by decide +kernel) ?_
    k_extra "s"
    refine ec_isi (.base (.bl b)) (r := true) (by decide +kernel) ?_
    k_extra "s"
    rw [decide_eq_true rfl]
    exact q _ (Ex.new ht)
  | int i =>
    cases ha
    k_extra "e"
    refine ⟨sz1000 (by simp), fun t ht => ?_⟩
    k_extra "s"
    refine ec_isi2 (b := "list") (c := "tuple") (.base (.int i)) upd_same (r := false) (r' := false) (by decide +kernel) (by decide +kernel) ?_
    k_extra "s"
    refine iff_ rfl ?_
    k_extra "s"
    k_extra "s"
    k_extra "s"
    refine ec_isi (.base (.int i)) (r := false) (by decide +kernel) ?_
    k_extra "s"
    k_extra "s"
    refine ec_isi (.base (.int i)) (r := true) (by decide +kernel) ?_
    k_extra "s"
    refine ⟨i, rfl, ?_⟩
    k_extra "s"
    rw [decide_eq_true rfl]
    exact q _ (Ex.new ht)
  | str x =>
    cases ha
    k_extra "e"
    refine ⟨sz1000 (by simp), fun t ht => ?_⟩
    k_extra "s"
    refine ec_isi2 (b := "list") (c := "tuple") (.base (.str x)) upd_same (r := false) (r' := false) (by decide +kernel) (by decide +kernel) ?_
    k_extra "s"
    refine iff_ rfl ?_
    k_extra "s"
    k_extra "s"
    k_extra "s"
    refine ec_isi (.base (.str x)) (r := false) (by decide +kernel) ?_
    k_extra "s"
    k_extra "s"
    refine ec_isi (.base (.str x)) (r := false) (by decide +kernel) ?_
    k_extra "s"
    refine ec_isi (.base (.str x)) (r := true) (by decide +kernel) ?_
    k_extra "s"
    rw [decide_eq_true rfl]
    exact q _ (Ex.new ht)
  | lst h2 k2 =>
    obtain ⟨a, xs, rfl, h1, k1⟩ := dp_list ha
    k_extra "e"
    refine ⟨sz1000 (by simp), fun t ht => ?_⟩
    have e1 := Ex.new (o := .tup [.ty "list", .ty "tuple"]) ht
    k_extra "s"
    refine ec_isi2 (b := "list") (c := "tuple") (tyx_l (e1.sl h2)) upd_same (r := true) (r' := false) (by decide +kernel) (by decide +kernel) ?_
    k_extra "s"
    refine ift rfl ?_
    k_extra "s"
    refine ec_isi (tyx_l (e1.sl h2)) (r := true) (by decide +kernel) ?_
    k_extra "s"
    refine ec_isi (tyx_l (e1.sl h1)) (r := true) (by decide +kernel) ?_
    k_extra "s"
    refine nt_true ?_
    k_extra "s"
    refine ec_isi (tyx_l (e1.sl h2)) (r := false) (by decide +kernel) ?_
    k_extra "s"
    refine ec_isi (tyx_l (e1.sl h1)) (r := false) (by decide +kernel) ?_
    k_extra "s"
    refine nt_false ?_
    k_extra "s"
    simp only [PyData.depth] at hd
    exact law_same_tail rfl (.inl (e1.sl h1)) (.inl (e1.sl h2)) (e1.dps k1) (e1.dps k2) (by omega) e1 q
  | tup h2 k2 =>
    obtain ⟨a, xs, rfl, h1, k1⟩ := dp_tup ha
    k_extra "e"
    refine ⟨sz1000 (by simp), fun t ht => ?_⟩
    have e1 := Ex.new (o := .tup [.ty "list", .ty "tuple"]) ht
    k_extra "s"
    refine ec_isi2 (b := "list") (c := "tuple") (tyx_t (e1.st h2)) upd_same (r := false) (r' := true) (by decide +kernel) (by decide +kernel) ?_
    k_extra "s"
    refine ift rfl ?_
    k_extra "s"
    refine ec_isi (tyx_t (e1.st h2)) (r := false) (by decide +kernel) ?_
    k_extra "s"
    refine ec_isi (tyx_t (e1.st h1)) (r := false) (by decide +kernel) ?_
    k_extra "s"
    refine nt_false ?_
    k_extra "s"
    refine ec_isi (tyx_t (e1.st h2)) (r := true) (by decide +kernel) ?_
    k_extra "s"
    refine ec_isi (tyx_t (e1.st h1)) (r := true) (by decide +kernel) ?_
    k_extra "s"
    refine nt_true ?_
    k_extra "s"
    simp only [PyData.depth] at hd
    exact law_same_tail rfl (.inr (e1.st h1)) (.inr (e1.st h2)) (e1.dps k1) (e1.dps k2) (by omega) e1 q
def S__law_same (K : PySem.W.Frag) (A : Ad) : Pm := Sn__law_same K A 8
theorem same_call {K : PySem.W.Frag} {A : Ad} {G : Hp} {x y : V} {d : PyData} {Q : V → Hp → Prop} {E : XK} (h1 : Dp K G x d) (h2 : Dp K G y d) (hd : d.depth < 8) (q : ∀ G', Ex G G' → Q (.bl true) G') : S__law_same K A [x, y] G Q E := ⟨x, y, d, rfl, h1, h2, hd, q⟩
end Lw

namespace Lw
open PySem PySem.Spec PyProof.Rows L2
local macro_rules | `(tactic| k_extra "x1") => `(tactic| first
  | with_reducible refine es_seq ?_
  | with_reducible refine es_asg ?_
  | with_reducible refine es_if ?_
  | with_reducible refine es_ret ?_
  | with_reducible refine es_drop ?_
  | with_reducible refine es_next ?_
  | with_reducible refine es_augS ?_
  | with_reducible refine es_fld ?_
  | ((with_reducible show Ee (tVar _) _ _ _); refine ee_var rfl ?_)
  | with_reducible refine ee_c ?_
  | with_reducible refine ee_op ?_
  | with_reducible refine ee_un ?_
  | with_reducible refine eu_neg ?_
  | with_reducible refine ee_cb ?_
  | with_reducible refine ee_call ?_
  | with_reducible refine ea_nil ?_
  | with_reducible refine ea_cons ?_
  | with_reducible refine ee_sl ?_
  | with_reducible refine eo_no ?_
  | with_reducible refine eo_part ?_
  | with_reducible refine ee_tup ?_
  | with_reducible refine ee_lst ?_
  | with_reducible refine et_test ?_
  | with_reducible refine et_tB ?_
  | with_reducible refine et_tru ?_
  | with_reducible refine et_and ?_
  | with_reducible refine et_or ?_
  | with_reducible refine et_not ?_
  | with_reducible refine ee_and ?_
  | with_reducible refine ee_or ?_
  | with_reducible refine ee_not ?_
  | with_reducible refine ee_if ?_
  | with_reducible refine ee_chain ?_
  | with_reducible refine er_addI ?_
  | with_reducible refine er_subI ?_
  | with_reducible refine er_eqI ?_
  | with_reducible refine er_neI ?_
  | with_reducible refine er_eqNI ?_
  | with_reducible refine er_eqS ?_
  | with_reducible refine er_neS ?_
  | with_reducible refine er_eqB ?_
  | with_reducible refine er_neB ?_
  | with_reducible refine er_lt ?_
  | with_reducible refine er_le ?_
  | with_reducible refine er_gt ?_
  | with_reducible refine er_ge ?_
  | with_reducible refine er_isN_non ?_
  | with_reducible refine er_isN_bl ?_
  | with_reducible refine er_isN_int ?_
  | with_reducible refine er_isN_str ?_
  | with_reducible refine er_isN_ref ?_
  | with_reducible refine er_notN_non ?_
  | with_reducible refine er_notN_bl ?_
  | with_reducible refine er_notN_int ?_
  | with_reducible refine er_notN_str ?_
  | with_reducible refine er_notN_ref ?_
  | with_reducible refine er_isN ?_
  | with_reducible refine er_notN ?_
  | with_reducible refine ec_int ?_
  | with_reducible refine ec_intB ?_
  | with_reducible refine ec_max2 ?_
  | with_reducible refine ec_min2 ?_
  | with_reducible refine ip_I ?_
  | ((with_reducible refine eg_name ?_); (try dsimp only [L2.wipe, List.set_cons_zero, List.set_cons_succ]))
  | with_reducible refine eg_sub ?_
  | with_reducible refine egs_cons ?_
  | with_reducible refine egs_nil ?_
  | with_reducible refine tru_bl ?_
  | with_reducible refine tru_int ?_
  | with_reducible refine tru_non ?_
  | with_reducible refine iteT ?_
  | with_reducible refine iteF ?_
  | with_reducible refine ite_nt ?_
  | with_reducible refine ite_nf ?_
  | with_reducible refine ⟨_, rfl, ?_⟩)
local macro_rules | `(tactic| k_extra "s") => `(tactic| ((first | k_extra "x1" | ((with_reducible refine es_unf ?_); refine es_seq ?_)); (repeat k_extra "x1")))
local macro_rules | `(tactic| k_extra "x") => `(tactic| (repeat first | k_extra "x1" | ((with_reducible refine es_unf ?_); refine es_seq ?_)))
local macro_rules | `(tactic| k_extra "start") => `(tactic| dsimp only [L2.start, List.map_cons, List.map_nil, List.length_cons, List.length_nil, Nat.reduceAdd, Nat.reduceSub, List.replicate, List.cons_append, List.nil_append, Nat.zero_add])
local macro_rules | `(tactic| k_extra "e1") => `(tactic| first
  | with_reducible refine es_next ?_
  | ((with_reducible show Ee (tVar _) _ _ _); refine ee_var rfl ?_)
  | with_reducible refine ee_c ?_
  | with_reducible refine ee_op ?_
  | with_reducible refine ee_un ?_
  | with_reducible refine eu_neg ?_
  | with_reducible refine ee_cb ?_
  | with_reducible refine ee_call ?_
  | with_reducible refine ea_nil ?_
  | with_reducible refine ea_cons ?_
  | with_reducible refine ee_sl ?_
  | with_reducible refine eo_no ?_
  | with_reducible refine eo_part ?_
  | with_reducible refine ee_tup ?_
  | with_reducible refine ee_lst ?_
  | with_reducible refine et_test ?_
  | with_reducible refine et_tB ?_
  | with_reducible refine et_tru ?_
  | with_reducible refine et_and ?_
  | with_reducible refine et_or ?_
  | with_reducible refine et_not ?_
  | with_reducible refine ee_and ?_
  | with_reducible refine ee_or ?_
  | with_reducible refine ee_not ?_
  | with_reducible refine ee_if ?_
  | with_reducible refine ee_chain ?_
  | with_reducible refine er_addI ?_
  | with_reducible refine er_subI ?_
  | with_reducible refine er_eqI ?_
  | with_reducible refine er_neI ?_
  | with_reducible refine er_eqNI ?_
  | with_reducible refine er_eqS ?_
  | with_reducible refine er_neS ?_
  | with_reducible refine er_eqB ?_
  | with_reducible refine er_neB ?_
  | with_reducible refine er_lt ?_
  | with_reducible refine er_le ?_
  | with_reducible refine er_gt ?_
  | with_reducible refine er_ge ?_
  | with_reducible refine er_isN_non ?_
  | with_reducible refine er_isN_bl ?_
  | with_reducible refine er_isN_int ?_
  | with_reducible refine er_isN_str ?_
  | with_reducible refine er_isN_ref ?_
  | with_reducible refine er_notN_non ?_
  | with_reducible refine er_notN_bl ?_
  | with_reducible refine er_notN_int ?_
  | with_reducible refine er_notN_str ?_
  | with_reducible refine er_notN_ref ?_
  | with_reducible refine er_isN ?_
  | with_reducible refine er_notN ?_
  | with_reducible refine ec_int ?_
  | with_reducible refine ec_intB ?_
  | with_reducible refine ec_max2 ?_
  | with_reducible refine ec_min2 ?_
  | with_reducible refine ip_I ?_
  | ((with_reducible refine eg_name ?_); (try dsimp only [L2.wipe, List.set_cons_zero, List.set_cons_succ]))
  | with_reducible refine eg_sub ?_
  | with_reducible refine egs_cons ?_
  | with_reducible refine egs_nil ?_
  | with_reducible refine tru_bl ?_
  | with_reducible refine tru_int ?_
  | with_reducible refine tru_non ?_
  | with_reducible refine iteT ?_
  | with_reducible refine iteF ?_
  | with_reducible refine ite_nt ?_
  | with_reducible refine ite_nf ?_
  | with_reducible refine ex_bl ?_
  | with_reducible refine ex_int ?_
  | with_reducible refine ex_str ?_
  | with_reducible refine ex_strx ?_
  | with_reducible refine ex_ints1 ?_
  | with_reducible refine ex_ints2 ?_)
local macro_rules | `(tactic| k_extra "t1") => `(tactic| first
  | with_reducible refine es_asg ?_
  | with_reducible refine es_if ?_
  | with_reducible refine es_ret ?_
  | with_reducible refine es_drop ?_
  | with_reducible refine es_augS ?_
  | with_reducible refine es_fld ?_)
local macro_rules | `(tactic| k_extra "e") => `(tactic| first
  | ((with_reducible refine es_seq ?_); (try k_extra "t1"); (repeat k_extra "e1"))
  | (k_extra "t1"; (repeat k_extra "e1"))
  | (k_extra "e1"; (repeat k_extra "e1"))
  | ((with_reducible refine es_unf ?_); (refine es_seq ?_); (try k_extra "t1"); (repeat k_extra "e1")))
/-! ### what is in force -/
def RowL (G : Hp) (r : Addr) (row : List De) : Prop := ∃ vs, G r = some (.lst vs) ∧ Izs G vs (row.map deD)
def DeS : De → Prop
  | .back _ => True
  | .change m _ _ _ t => PyData.strOk m = true ∧ PyData.strOk t = true
theorem DeOk.s {B : Int} {d : De} (h : DeOk B d) : DeS d := by
  cases d with
  | back n => trivial
  | change m rm bh n t => exact ⟨h.2.2.2.2.2.2.2.1, h.2.2.2.2.2.2.2.2⟩
theorem RowL.up {A : Ad} {G G' : Hp} {r : Addr} {row : List De} (h : RowL G r row) (e : MU A G G') : RowL G' r row := by
  obtain ⟨vs, h1, h2⟩ := h; exact ⟨vs, e.lst h1, e.tz.izs h2⟩
theorem RowL.ex {G G' : Hp} {r : Addr} {row : List De} (h : RowL G r row) (e : Ex G G') : RowL G' r row := by
  obtain ⟨vs, h1, h2⟩ := h; exact ⟨vs, e _ _ h1, e.tz.izs h2⟩
theorem lay_mP (m : Mk) : (mP m).canLay0 = true := by simp [mP, PyData.canLay0, PyData.canLayAll0]
theorem lay_mPs : ∀ ms : List Mk, PyData.canLayAll0 (ms.map mP) = true
  | [] => rfl
  | m :: r => by rw [List.map_cons, PyData.canLayAll0, lay_mP, lay_mPs r]; rfl
theorem dep_mP (m : Mk) : (mP m).depth = 1 := by simp [mP, PyData.depth, PyData.depthAll]
theorem dep_mPs : ∀ ms : List Mk, PyData.depthAll (ms.map mP) ≤ 1
  | [] => by simp [PyData.depthAll]
  | m :: r => by rw [List.map_cons, PyData.depthAll, dep_mP]; have := dep_mPs r; omega
theorem lay_bP : ∀ b, (bP b).canLay0 = true
  | none => rfl
  | some m => lay_mP m
theorem dep_bP : ∀ b, (bP b).depth ≤ 1
  | none => by simp [bP, PyData.depth]
  | some m => by rw [bP, dep_mP]; exact Nat.le_refl _
theorem sh_mP (m : Mk) : SeqAt.shaped (mP m) = true := by
  unfold SeqAt.shaped; rw [lay_mP, dep_mP]; rfl
theorem sh_mPs (ms : List Mk) : SeqAt.shaped (.list (ms.map mP)) = true := by
  unfold SeqAt.shaped
  have := dep_mPs ms
  rw [PyData.canLay0, lay_mPs, PyData.depth]
  simp; omega
theorem dep_deD (d : De) : (deD d).depth ≤ 3 := by
  cases d with
  | back n => simp [deD, PyData.depth, PyData.depthAll]
  | change m rm bh n t =>
    have h1 := dep_mPs rm
    have h2 := dep_bP bh
    simp only [deD, PyData.depth, PyData.depthAll]
    omega
theorem sh_deD {d : De} (h : DeS d) : SeqAt.shaped (deD d) = true := by
  have hd := dep_deD d
  unfold SeqAt.shaped
  cases d with
  | back n =>
    simp only [deD, PyData.canLay0, PyData.canLayAll0, PyData.depth, PyData.depthAll]; decide +kernel
  | change m rm bh n t =>
    have e : (deD (.change m rm bh n t)).canLay0 = true := by
      simp only [deD, PyData.canLay0, PyData.canLayAll0, lay_mPs, lay_bP, h.1, h.2, Bool.and_true, Bool.true_and]
      decide +kernel
    rw [e]
    simp; omega
theorem sh_bk (p : Int) : SeqAt.shaped (.tuple [.str (Str.ofString "back"), .int p]) = true := sh_deD (d := .back p) trivial
theorem eqv_bk (d : De) (p : Int) : PyData.eqv (deD d) (.tuple [.str (Str.ofString "back"), .int p]) = isBack d p := by
  cases d with
  | back n =>
    simp only [deD, PyData.eqv, PyData.eqvAll, isBack, beq_self_eq_true, Bool.true_and, Bool.and_true]
    exact Bool.beq_eq_decide_eq n p
  | change m rm bh n t =>
    simp only [deD, PyData.eqv, PyData.eqvAll, isBack]
    rw [show ((Str.ofString "change") == (Str.ofString "back")) = false from by decide]
    rfl
theorem taken_iff {fs : List Bool} {r : List De} {p : Int} : taken fs r p = true ↔ ∃ (i : Nat) (d : De), fs[i]? = some true ∧ r[i]? = some d ∧ isBack d p = true := by
  unfold taken
  rw [List.any_eq_true]
  constructor
  · rintro ⟨x, hx, h⟩
    obtain ⟨i, hi⟩ := List.getElem?_of_mem hx
    rw [List.getElem?_zip_eq_some] at hi
    simp only [Bool.and_eq_true] at h
    exact ⟨i, x.2, by rw [hi.1, h.1], hi.2, h.2⟩
  · rintro ⟨i, d, h1, h2, h3⟩
    exact ⟨(true, d), List.mem_of_getElem? (i := i) (by rw [List.getElem?_zip_eq_some]; exact ⟨h1, h2⟩), by simpa using h3⟩
theorem rev_get {α : Type} {l : List α} {j : Nat} (h : j < l.length) : l.reverse[j]? = l[l.length - 1 - j]? := by
  rw [List.getElem?_reverse h]
def S__law_forces (K : PySem.W.Frag) (A : Ad) : Pm := fun vs G Q _ => ∃ (r : Addr) (row : List De), vs = [.ref r] ∧ RowL G r row ∧ row.length ≤ 1000 ∧ (∀ d ∈ row, DeS d) ∧ ∀ p G', Ex G G' → G p = none → G' p = some (.lst ((frc row 1).map V.bl)) → Q (.ref p) G'
/-! _law_forces -/
def t__law_forces_1 (K : PySem.W.Frag) (A : Ad) : TS := tSeq (tAsg (tLc (iRng1 (tCons (tCB (rLenU K) (tCons (tVar 1) tNil)) tNil)) (gName 5) (tAnd (tTru K (tOp (rIx K) (tVar 1) (tVar 5))) (tTest (tOp (rEqU K) (tOp (rIx K) (tVar 0) (tOp (rSubI) (tOp (rSubI) (tCB (rLenU K) (tCons (tVar 0) tNil)) (tC (.int 1))) (tVar 5))) (tTup (tCons (tC (.str "back")) (tCons (tVar 3) tNil)))))) (tVar 5) [5]) (gName 4)) (tDrop (tBM K "list" (rAppend) (tVar 1) (tCons (tOp (rEqU K) (tCB (rLenU K) (tCons (tVar 4) tNil)) (tC (.int 0))) tNil)))
def t__law_forces_2 (K : PySem.W.Frag) (A : Ad) : TS := tSeq (tAsg (tOp (rSubI) (tCB (rLenU K) (tCons (tVar 0) tNil)) (tVar 2)) (gName 3)) (t__law_forces_1 K A)
def t__law_forces_3 (K : PySem.W.Frag) (A : Ad) : TS := tSeq (tFor (iRng1 (tCons (tCB (rLenU K) (tCons (tVar 0) tNil)) tNil)) (gName 2) (t__law_forces_2 K A)) (tRet (tLc (iRng1 (tCons (tCB (rLenU K) (tCons (tVar 0) tNil)) tNil)) (gName 2) tYes (tOp (rIx K) (tVar 1) (tOp (rSubI) (tOp (rSubI) (tCB (rLenU K) (tCons (tVar 0) tNil)) (tC (.int 1))) (tVar 2))) [2]))
def t__law_forces (K : PySem.W.Frag) (A : Ad) : TS := tSeq (tAsg (tLst tNil) (gName 1)) (t__law_forces_3 K A)
theorem len__law_forces {K : PySem.W.Frag} {A : Ad} : ∀ vs G Q E, S__law_forces K A vs G Q E → vs.length = ["row"].length := by
  rintro vs G Q E ⟨r, row, rfl, _⟩; rfl
theorem ok__law_forces {K : PySem.W.Frag} {A : Ad} : ∀ vs G Q E, S__law_forces K A vs G Q E → Es (t__law_forces K A) { nx := fun _ G' => Q .non G', rt := Q } (L2.start ["row", "forces", "k", "place", "takers", "j"] vs) G := by
  rintro vs G Q E ⟨r, row, rfl, ⟨rvs, hr, hI⟩, hlen, hS, q⟩
  have hl : rvs.length = row.length := by have := izs_len hI; rwa [List.length_map] at this
  change Es _ _ (_ :: _ :: _ :: _ :: _ :: _ :: []) _
  k_extra "e"
  refine ⟨sz1000 (by simp), fun pf hpf => ?_⟩
  k_extra "e"
  k_extra "e"
  refine es_forR1 ?_
  k_extra "e"
  refine ec_lenL (SqL.of (get_new hr hpf)) fun _ => ?_
  rw [hl]
  k_extra "e"
  refine ⟨by omega, fun k σ G' => ∃ c2 c3 c4 c5, σ = [some (.ref r), some (.ref pf), c2, c3, c4, c5] ∧ Ex G G' ∧ k ≤ row.length ∧ G' pf = some (.lst ((frc (row.drop (row.length - k)) (1 + (row.length - k : Nat))).reverse.map V.bl)), ⟨_, _, _, _, rfl, Ex.new hpf, Nat.zero_le _, by rw [upd_same, Nat.sub_zero, List.drop_length]; rfl⟩, ?_, ?_⟩
  · rintro k σ G' hk ⟨c2, c3, c4, c5, rfl, e1, hk1, hf⟩
    generalize efs : frc (row.drop (row.length - k)) (1 + (row.length - k : Nat)) = fs at hf
    have lfs : fs.length = k := by rw [← efs, frc_len, List.length_drop]; omega
    have gr := e1 _ _ hr
    have gI := e1.tz.izs hI
    k_extra "e"
    refine ec_lenL (SqL.of gr) fun _ => ?_
    rw [hl]
    k_extra "e"
    k_extra "e"
    refine ee_lcR1 ?_
    k_extra "e"
    refine ec_lenL (SqL.of hf) fun _ => ?_
    rw [List.length_map, List.length_reverse, lfs]
    k_extra "e"
    refine ⟨by omega, fun pt hpt => ⟨fun j acc G2 => Ex G' G2 ∧ G2 pt = none ∧ acc.length ≤ j ∧ j ≤ k ∧ (acc.length = 0 ↔ ∀ j' < j, ¬ ∃ d, fs.reverse[j']? = some true ∧ row[row.length - 1 - j']? = some d ∧ isBack d ((row.length : Int) - k) = true), ⟨Ex.refl _, hpt, Nat.le_refl _, Nat.zero_le _, ⟨fun _ j' h => by omega, fun _ => rfl⟩⟩, ?_, ?_, ?_⟩⟩
    · rintro j acc G2 ⟨x1, x2, x3, x4, x5⟩
      exact ⟨x2, szlt (by omega)⟩
    · rintro j acc G2 hj ⟨x1, x2, x3, x4, x5⟩
      have hj' : j < fs.reverse.length := by rw [List.length_reverse, lfs]; omega
      have x6 := x1.trans (Ex.new (o := .lst acc) x2)
      have fin : Ex (upd G2 pt (.lst acc)) (upd G2 pt (.lst acc)) := Ex.refl _
      have hfj : (fs.reverse.map V.bl)[j]? = some (.bl fs.reverse[j]) := by rw [List.getElem?_map, List.getElem?_eq_getElem hj']; rfl
      have hrow : row.length - 1 - j < row.length := by omega
      obtain ⟨x, hx, ix⟩ := izs_get (x6.tz.izs gI) (show (row.map deD)[row.length - 1 - j]? = some (deD row[row.length - 1 - j]) by rw [List.getElem?_map, List.getElem?_eq_getElem hrow]; rfl)
      refine ⟨rfl, ?_⟩
      dsimp only [L2.wipe, List.set_cons_zero, List.set_cons_succ]
      k_extra "e"
      refine er_ixL (SqL.of (x6 _ _ hf)) (atI_nat hfj) ?_
      k_extra "e"
      refine ifb (fun ht => ?_) (fun hf' => ?_)
      · k_extra "e"
        refine ec_lenL (SqL.of (x6 _ _ gr)) fun _ => ?_
        rw [hl]
        k_extra "e"
        rw [show (row.length : Int) - 1 - (j : Int) = ((row.length - 1 - j : Nat) : Int) by omega]
        refine er_ixL (SqL.of (x6 _ _ gr)) (atI_nat hx) ?_
        k_extra "e"
        refine ⟨sz1000 (by simp), fun tp htp => ?_⟩
        have x7 := Ex.new (o := .tup [.str (Str.ofString "back"), .int ((row.length : Int) - k)]) htp
        refine er_eqD (x7.dp ix.dp) (.tup (SqT.of upd_same) (.cons (.str _) (.cons (.int _) .nil))) (sh_deD (hS _ (List.getElem_mem hrow))) (sh_bk _) ?_
        rw [eqv_bk]
        k_extra "e"
        have x8 := x7 pt _ upd_same
        refine ifb (fun hb => ?_) (fun hb => ?_)
        · k_extra "e"
          refine ⟨x8, G2, x7, x1, x2, by rw [List.length_append, List.length_cons, List.length_nil]; omega, by omega, ⟨fun z => by rw [List.length_append] at z; simp at z, fun z => absurd ⟨_, by rw [List.getElem?_eq_getElem hj', ht], List.getElem?_eq_getElem hrow, hb⟩ (z j (by omega))⟩⟩
        · refine ⟨x8, G2, x7, x1, x2, by omega, by omega, x5.trans ⟨fun z j' hj2 => ?_, fun z j' hj2 => z j' (by omega)⟩⟩
          by_cases e : j' = j
          · subst e
            rintro ⟨d, _, h2, h3⟩
            rw [List.getElem?_eq_getElem hrow] at h2
            cases h2
            rw [hb] at h3; cases h3
          · exact z j' (by omega)
      · refine iteF ?_
        refine ⟨upd_same, G2, Ex.refl _, x1, x2, by omega, by omega, x5.trans ⟨fun z j' hj2 => ?_, fun z j' hj2 => z j' (by omega)⟩⟩
        by_cases e : j' = j
        · subst e
          rintro ⟨d, h1, _, _⟩
          rw [List.getElem?_eq_getElem hj'] at h1
          rw [hf'] at h1; cases h1
        · exact z j' (by omega)
    rintro acc G2 ⟨x1, x2, x3, x4, x5⟩
    have x6 := x1.trans (Ex.new (o := .lst acc) x2)
    k_extra "e"
    k_extra "e"
    refine ee_bm ?_
    k_extra "e"
    refine ⟨ty_lst (x6 _ _ hf), ?_⟩
    k_extra "e"
    refine ec_lenL (SqL.of upd_same) fun _ => ?_
    k_extra "e"
    refine em_append (x6 _ _ hf) (by rw [List.length_map, List.length_reverse, lfs]; exact szlt (by omega)) ?_
    have hkk : row.length - (k + 1) < row.length := by omega
    have e2 := frc_at (List.getElem?_eq_getElem hkk)
    have e3 : row.length - (k + 1) + 1 = row.length - k := by omega
    rw [e3, efs] at e2
    refine ⟨_, _, _, _, rfl, (e1.trans x6).mut hpf, by omega, ?_⟩
    rw [upd_same, e2, List.reverse_cons, List.map_append]
    congr 3
    have key : decide (((acc.length : Nat) : Int) = 0) = !taken fs (row.drop (row.length - k)) (1 + (row.length - (k + 1) : Nat)) := by
      have hp : (1 : Int) + (row.length - (k + 1) : Nat) = (row.length : Int) - k := by omega
      rw [hp]
      by_cases ht : taken fs (row.drop (row.length - k)) ((row.length : Int) - k) = true
      · rw [ht, Bool.not_true, decide_eq_false_iff_not]
        intro z
        obtain ⟨i, d, h1, h2, h3⟩ := taken_iff.mp ht
        have hi := (List.getElem?_eq_some_iff.mp h1).1
        rw [lfs] at hi
        rw [List.getElem?_drop] at h2
        refine x5.mp (by omega) (k - 1 - i) (by omega) ⟨d, ?_, ?_, h3⟩
        · rw [rev_get (by rw [lfs]; omega), lfs]
          rw [show k - 1 - (k - 1 - i) = i by omega]; exact h1
        · rw [show row.length - 1 - (k - 1 - i) = row.length - k + i by omega]; exact h2
      · have ht' : taken fs (row.drop (row.length - k)) ((row.length : Int) - k) = false := by simpa using ht
        rw [ht', Bool.not_false, decide_eq_true_eq]
        have : acc.length = 0 := x5.mpr fun j' hj2 => by
          rintro ⟨d, h1, h2, h3⟩
          refine ht (taken_iff.mpr ⟨k - 1 - j', d, ?_, ?_, h3⟩)
          · rw [rev_get (by rw [lfs]; omega), lfs] at h1; exact h1
          · rw [List.getElem?_drop, show row.length - k + (k - 1 - j') = row.length - 1 - j' by omega]; exact h2
        omega
    rw [key]
    rfl
  · rintro σ G' ⟨c2, c3, c4, c5, rfl, e1, hk1, hf⟩
    rw [Int.toNat_natCast, Nat.sub_self, List.drop_zero] at hf
    have hf0 : G' pf = some (.lst ((frc row 1).reverse.map V.bl)) := by
      have : ((1 : Int) + ((0 : Nat) : Int)) = 1 := by omega
      rw [this] at hf; exact hf
    have gr := e1 _ _ hr
    k_extra "e"
    refine ee_lcR1 ?_
    k_extra "e"
    refine ec_lenL (SqL.of gr) fun _ => ?_
    rw [hl]
    k_extra "e"
    refine ⟨by omega, fun pt hpt => ⟨fun j acc G2 => Ex G' G2 ∧ G2 pt = none ∧ acc = ((frc row 1).take j).map V.bl ∧ j ≤ row.length, ⟨Ex.refl _, hpt, rfl, Nat.zero_le _⟩, ?_, ?_, ?_⟩⟩
    · rintro j acc G2 ⟨x1, x2, rfl, x4⟩
      exact ⟨x2, by rw [List.length_map, List.length_take]; exact szlt (by omega)⟩
    · rintro j acc G2 hj ⟨x1, x2, rfl, x4⟩
      have x6 := x1.trans (Ex.new (o := .lst (((frc row 1).take j).map V.bl)) x2)
      have hjl : j < (frc row 1).length := by rw [frc_len]; omega
      refine ⟨rfl, et_yes ?_⟩
      refine iteT ?_
      dsimp only [L2.wipe, List.set_cons_zero, List.set_cons_succ]
      k_extra "e"
      refine ec_lenL (SqL.of (x6 _ _ gr)) fun _ => ?_
      rw [hl]
      k_extra "e"
      rw [show (row.length : Int) - 1 - (j : Int) = ((row.length - 1 - j : Nat) : Int) by omega]
      refine er_ixL (SqL.of (x6 _ _ hf0)) (atI_nat (v := .bl (frc row 1)[j]) ?_) ?_
      · rw [List.getElem?_map, rev_get (by rw [frc_len]; omega), frc_len, show row.length - 1 - (row.length - 1 - j) = j by omega, List.getElem?_eq_getElem hjl]; rfl
      refine ⟨upd_same, G2, Ex.refl _, x1, x2, ?_, by omega⟩
      rw [List.take_add_one, List.getElem?_eq_getElem hjl, List.map_append]; rfl
    · rintro acc G2 ⟨x1, x2, rfl, x4⟩
      refine q pt _ ((e1.trans x1).trans (Ex.new x2)) ((e1.trans x1).nul x2) ?_
      rw [upd_same, List.take_of_length_le (by rw [frc_len]; simp)]
end Lw

namespace Lw
open PySem PySem.Spec PyProof.Rows L2
local macro_rules | `(tactic| k_extra "x1") => `(tactic| first
  | with_reducible refine es_seq ?_
  | with_reducible refine es_asg ?_
  | with_reducible refine es_if ?_
  | with_reducible refine es_ret ?_
  | with_reducible refine es_drop ?_
  | with_reducible refine es_next ?_
  | with_reducible refine es_augS ?_
  | with_reducible refine es_fld ?_
  | ((with_reducible show Ee (tVar _) _ _ _); refine ee_var rfl ?_)
  | with_reducible refine ee_c ?_
  | with_reducible refine ee_op ?_
  | with_reducible refine ee_un ?_
  | with_reducible refine eu_neg ?_
  | with_reducible refine ee_cb ?_
  | with_reducible refine ee_call ?_
  | with_reducible refine ea_nil ?_
  | with_reducible refine ea_cons ?_
  | with_reducible refine ee_sl ?_
  | with_reducible refine eo_no ?_
  | with_reducible refine eo_part ?_
  | with_reducible refine ee_tup ?_
  | with_reducible refine ee_lst ?_
  | with_reducible refine et_test ?_
  | with_reducible refine et_tB ?_
  | with_reducible refine et_tru ?_
  | with_reducible refine et_and ?_
  | with_reducible refine et_or ?_
  | with_reducible refine et_not ?_
  | with_reducible refine ee_and ?_
  | with_reducible refine ee_or ?_
  | with_reducible refine ee_not ?_
  | with_reducible refine ee_if ?_
  | with_reducible refine ee_chain ?_
  | with_reducible refine er_addI ?_
  | with_reducible refine er_subI ?_
  | with_reducible refine er_eqI ?_
  | with_reducible refine er_neI ?_
  | with_reducible refine er_eqNI ?_
  | with_reducible refine er_eqS ?_
  | with_reducible refine er_neS ?_
  | with_reducible refine er_eqB ?_
  | with_reducible refine er_neB ?_
  | with_reducible refine er_lt ?_
  | with_reducible refine er_le ?_
  | with_reducible refine er_gt ?_
  | with_reducible refine er_ge ?_
  | with_reducible refine er_isN_non ?_
  | with_reducible refine er_isN_bl ?_
  | with_reducible refine er_isN_int ?_
  | with_reducible refine er_isN_str ?_
  | with_reducible refine er_isN_ref ?_
  | with_reducible refine er_notN_non ?_
  | with_reducible refine er_notN_bl ?_
  | with_reducible refine er_notN_int ?_
  | with_reducible refine er_notN_str ?_
  | with_reducible refine er_notN_ref ?_
  | with_reducible refine er_isN ?_
  | with_reducible refine er_notN ?_
  | with_reducible refine ec_int ?_
  | with_reducible refine ec_intB ?_
  | with_reducible refine ec_max2 ?_
  | with_reducible refine ec_min2 ?_
  | with_reducible refine ip_I ?_
  | ((with_reducible refine eg_name ?_); (try dsimp only [L2.wipe, List.set_cons_zero, List.set_cons_succ]))
  | with_reducible refine eg_sub ?_
  | with_reducible refine egs_cons ?_
  | with_reducible refine egs_nil ?_
  | with_reducible refine tru_bl ?_
  | with_reducible refine tru_int ?_
  | with_reducible refine tru_non ?_
  | with_reducible refine iteT ?_
  | with_reducible refine iteF ?_
  | with_reducible refine ite_nt ?_
  | with_reducible refine ite_nf ?_
  | with_reducible refine ⟨_, rfl, ?_⟩)
local macro_rules | `(tactic| k_extra "s") => `(tactic| ((first | k_extra "x1" | ((with_reducible refine es_unf ?_); refine es_seq ?_)); (repeat k_extra "x1")))
local macro_rules | `(tactic| k_extra "x") => `(tactic| (repeat first | k_extra "x1" | ((with_reducible refine es_unf ?_); refine es_seq ?_)))
local macro_rules | `(tactic| k_extra "start") => `(tactic| dsimp only [L2.start, List.map_cons, List.map_nil, List.length_cons, List.length_nil, Nat.reduceAdd, Nat.reduceSub, List.replicate, List.cons_append, List.nil_append, Nat.zero_add])
local macro_rules | `(tactic| k_extra "e1") => `(tactic| first
  | with_reducible refine es_next ?_
  | ((with_reducible show Ee (tVar _) _ _ _); refine ee_var rfl ?_)
  | with_reducible refine ee_c ?_
  | with_reducible refine ee_op ?_
  | with_reducible refine ee_un ?_
  | with_reducible refine eu_neg ?_
  | with_reducible refine ee_cb ?_
  | with_reducible refine ee_call ?_
  | with_reducible refine ea_nil ?_
  | with_reducible refine ea_cons ?_
  | with_reducible refine ee_sl ?_
  | with_reducible refine eo_no ?_
  | with_reducible refine eo_part ?_
  | with_reducible refine ee_tup ?_
  | with_reducible refine ee_lst ?_
  | with_reducible refine et_test ?_
  | with_reducible refine et_tB ?_
  | with_reducible refine et_tru ?_
  | with_reducible refine et_and ?_
  | with_reducible refine et_or ?_
  | with_reducible refine et_not ?_
  | with_reducible refine ee_and ?_
  | with_reducible refine ee_or ?_
  | with_reducible refine ee_not ?_
  | with_reducible refine ee_if ?_
  | with_reducible refine ee_chain ?_
  | with_reducible refine er_addI ?_
  | with_reducible refine er_subI ?_
  | with_reducible refine er_eqI ?_
  | with_reducible refine er_neI ?_
  | with_reducible refine er_eqNI ?_
  | with_reducible refine er_eqS ?_
  | with_reducible refine er_neS ?_
  | with_reducible refine er_eqB ?_
  | with_reducible refine er_neB ?_
  | with_reducible refine er_lt ?_
  | with_reducible refine er_le ?_
  | with_reducible refine er_gt ?_
  | with_reducible refine er_ge ?_
  | with_reducible refine er_isN_non ?_
  | with_reducible refine er_isN_bl ?_
  | with_reducible refine er_isN_int ?_
  | with_reducible refine er_isN_str ?_
  | with_reducible refine er_isN_ref ?_
  | with_reducible refine er_notN_non ?_
  | with_reducible refine er_notN_bl ?_
  | with_reducible refine er_notN_int ?_
  | with_reducible refine er_notN_str ?_
  | with_reducible refine er_notN_ref ?_
  | with_reducible refine er_isN ?_
  | with_reducible refine er_notN ?_
  | with_reducible refine ec_int ?_
  | with_reducible refine ec_intB ?_
  | with_reducible refine ec_max2 ?_
  | with_reducible refine ec_min2 ?_
  | with_reducible refine ip_I ?_
  | ((with_reducible refine eg_name ?_); (try dsimp only [L2.wipe, List.set_cons_zero, List.set_cons_succ]))
  | with_reducible refine eg_sub ?_
  | with_reducible refine egs_cons ?_
  | with_reducible refine egs_nil ?_
  | with_reducible refine tru_bl ?_
  | with_reducible refine tru_int ?_
  | with_reducible refine tru_non ?_
  | with_reducible refine iteT ?_
  | with_reducible refine iteF ?_
  | with_reducible refine ite_nt ?_
  | with_reducible refine ite_nf ?_
  | with_reducible refine ex_bl ?_
  | with_reducible refine ex_int ?_
  | with_reducible refine ex_str ?_
  | with_reducible refine ex_strx ?_
  | with_reducible refine ex_ints1 ?_
  | with_reducible refine ex_ints2 ?_)
local macro_rules | `(tactic| k_extra "t1") => `(tactic| first
  | with_reducible refine es_asg ?_
  | with_reducible refine es_if ?_
  | with_reducible refine es_ret ?_
  | with_reducible refine es_drop ?_
  | with_reducible refine es_augS ?_
  | with_reducible refine es_fld ?_)
local macro_rules | `(tactic| k_extra "e") => `(tactic| first
  | ((with_reducible refine es_seq ?_); (try k_extra "t1"); (repeat k_extra "e1"))
  | (k_extra "t1"; (repeat k_extra "e1"))
  | (k_extra "e1"; (repeat k_extra "e1"))
  | ((with_reducible refine es_unf ?_); (refine es_seq ?_); (try k_extra "t1"); (repeat k_extra "e1")))
/-! ### the object of deeds -/
def RowsAt (F : Hp) (p : Addr) (vss : List (List V)) : Prop := ∃ refs : List Addr, F p = some (.lst (refs.map V.ref)) ∧ refs.length = vss.length ∧ (∀ (k : Nat) (r : Addr) (vs : List V), refs[k]? = some r → vss[k]? = some vs → F r = some (.lst vs)) ∧ refs.Nodup ∧ p ∉ refs
def Rz (G : Hp) (vss : List (List V)) (rows : List (List De)) : Prop := vss.length = rows.length ∧ ∀ (k : Nat) (vs : List V) (row : List De), vss[k]? = some vs → rows[k]? = some row → Izs G vs (row.map deD)
def DsAt (A : Ad) (F : Hp) (a : Addr) (vss : List (List V)) : Prop := ∃ dx pr, F a = some (.ins A.cDeeds dx [("rows", .ref pr)]) ∧ RowsAt F pr vss
section
variable {A : Ad} {F G G' : Hp} {p a : Addr} {vss : List (List V)} {rows : List (List De)}
theorem RowsAt.up (h : RowsAt G p vss) (e : MU A G G') : RowsAt G' p vss := by
  obtain ⟨refs, h1, h2, h3, h4, h5⟩ := h
  exact ⟨refs, e.lst h1, h2, fun k r vs hr hv => e.lst (h3 k r vs hr hv), h4, h5⟩
theorem RowsAt.ex (h : RowsAt G p vss) (e : Ex G G') : RowsAt G' p vss := by
  obtain ⟨refs, h1, h2, h3, h4, h5⟩ := h
  exact ⟨refs, e _ _ h1, h2, fun k r vs hr hv => e _ _ (h3 k r vs hr hv), h4, h5⟩
theorem Rz.tz (h : Rz G vss rows) (e : Tz G G') : Rz G' vss rows := ⟨h.1, fun k vs row hv hr => e.izs (h.2 k vs row hv hr)⟩
theorem DsAt.up (h : DsAt A G a vss) (e : MU A G G') : DsAt A G' a vss := by
  obtain ⟨dx, pr, h1, h2⟩ := h; exact ⟨dx, pr, e.ins h1, h2.up e⟩
theorem DsAt.ex (h : DsAt A G a vss) (e : Ex G G') : DsAt A G' a vss := by
  obtain ⟨dx, pr, h1, h2⟩ := h; exact ⟨dx, pr, e _ _ h1, h2.ex e⟩
/-- row k -/
theorem RowsAt.get (h : RowsAt G p vss) (z : Rz G vss rows) {k : Nat} {row : List De} (hk : rows[k]? = some row) : ∃ (xs : List V) (r : Addr), G p = some (.lst xs) ∧ xs[k]? = some (.ref r) ∧ RowL G r row ∧ xs.length = vss.length := by
  obtain ⟨refs, h1, h2, h3, h4, h5⟩ := h
  have hk1 := (List.getElem?_eq_some_iff.mp hk).1
  have hk2 : k < vss.length := by rw [z.1]; exact hk1
  have hk3 : k < refs.length := by rw [h2]; exact hk2
  have hv := List.getElem?_eq_getElem hk2
  have hr := List.getElem?_eq_getElem hk3
  exact ⟨_, refs[k], h1, by rw [List.getElem?_map, hr]; rfl, ⟨_, h3 k _ _ hr hv, z.2 k _ _ hv hk⟩, by rw [List.length_map]; exact h2⟩
end
/-- something new: a piece F -/
structure NewP (G F G' : Hp) : Prop where
  ex : Ex G G'
  exF : Ex F G'
  new : ∀ b o, F b = some o → G b = none
  nt : ∀ x ps, F x ≠ some (.tbl ps)
theorem Aq.newP {L : List Hp} {G F G' : Hp} (a : Aq L G) (n : NewP G F G') : Aq (F :: L) G' := ⟨⟨fun X hX => by
  rcases List.mem_cons.mp hX with rfl | hX
  · exact n.exF
  · exact (a.ex hX).trans n.ex, List.pairwise_cons.mpr ⟨fun R hR b => by
    cases h : F b with
    | none => exact .inl rfl
    | some o => exact .inr ((a.ex hR).nul (n.new b o h)), a.ap.dis⟩⟩, fun X hX => by
  rcases List.mem_cons.mp hX with rfl | hX
  · exact n.nt
  · exact a.nt X hX⟩
/-- only lists change -/
def Ls (G G' : Hp) : Prop := ∀ b o, G b = some o → (∀ xs, o ≠ .lst xs) → G' b = some o
theorem Ls.tz {G G' : Hp} (e : Ls G G') : Tz G G' := fun a xs h => e _ _ h fun ys z => by cases z
theorem Ls.tabs {T : List (Addr × Str)} {G G' : Hp} (e : Ls G G') (t : LamX.Tabs T G) : LamX.Tabs T G' := fun q hq => by
  obtain ⟨ps, h1, h2, h3⟩ := t q hq
  refine ⟨ps, e _ _ h1 (fun ys z => by cases z), h2, fun pos cv hc => ?_⟩
  obtain ⟨c, e1, e2⟩ := h3 pos cv hc
  exact ⟨c, e1, e _ _ e2 (fun ys z => by unfold LamX.CodeO at z; cases z)⟩
theorem Ls.mut {G : Hp} {p : Addr} {xs ys : List V} (h : G p = some (.lst xs)) : Ls G (upd G p (.lst ys)) := fun b o e n => by
  rw [upd_ne (fun z => n xs (by rw [z, h] at e; exact (Option.some.inj e).symm))]; exact e
theorem none_row {k : Nat} {vs : List V} : (List.replicate 8 ([] : List V))[k]? = some vs → vs = [] := by
  intro h
  rw [List.getElem?_replicate] at h
  split at h
  · exact (Option.some.inj h).symm
  · cases h
/-! a list of new lists -/
structure NewL (G G' : Hp) (acc : List V) (vss : List (List V)) (F : Hp) : Prop where
  ex : Ex G G'
  exF : Ex F G'
  new : ∀ b o, F b = some o → G b = none
  nt : ∀ x ps, F x ≠ some (.tbl ps)
  refs : ∃ refs : List Addr, acc = refs.map V.ref ∧ refs.length = vss.length ∧ (∀ (k : Nat) (r : Addr) (vs : List V), refs[k]? = some r → vss[k]? = some vs → F r = some (.lst vs)) ∧ refs.Nodup
theorem NewL.start {G : Hp} : NewL G G [] [] (fun _ => none) := ⟨Ex.refl _, (fun _ _ h => by cases h), (fun _ _ h => by cases h), (fun _ _ h => by cases h), [], rfl, rfl, (fun k r vs h => by simp at h), List.nodup_nil⟩
theorem NewL.junk {G G' G'' : Hp} {acc : List V} {vss : List (List V)} {F : Hp} (n : NewL G G' acc vss F) (e : Ex G' G'') : NewL G G'' acc vss F := ⟨n.ex.trans e, n.exF.trans e, n.new, n.nt, n.refs⟩
theorem NewL.snoc {G G' : Hp} {acc : List V} {vss : List (List V)} {F : Hp} {r : Addr} {vs : List V} (n : NewL G G' acc vss F) (hr : G' r = none) : NewL G (upd G' r (.lst vs)) (acc ++ [.ref r]) (vss ++ [vs]) (upd F r (.lst vs)) := by
  obtain ⟨refs, h1, h2, h3, h4⟩ := n.refs
  have hFr : F r = none := n.exF.nul hr
  have hn : r ∉ refs := fun hm => by
    obtain ⟨k, hk⟩ := List.getElem?_of_mem hm
    have hk2 : k < vss.length := by rw [← h2]; exact (List.getElem?_eq_some_iff.mp hk).1
    have := h3 k r _ hk (List.getElem?_eq_getElem hk2)
    rw [hFr] at this; cases this
  refine ⟨n.ex.trans (Ex.new hr), n.exF.put, fun b o h => ?_, fun x => upd_nt (n.nt x) (fun ps z => by cases z), refs ++ [r], by rw [h1, List.map_append]; rfl, by rw [List.length_append, List.length_append, h2]; rfl, fun k q ws hq hw => ?_, ?_⟩
  · by_cases e : b = r
    · subst e; exact n.ex.nul hr
    · rw [upd_ne e] at h; exact n.new b o h
  · rw [List.getElem?_append] at hq hw
    by_cases hk : k < refs.length
    · rw [if_pos hk] at hq
      rw [if_pos (by rw [← h2]; exact hk)] at hw
      have : q ≠ r := fun e => hn (e ▸ List.mem_of_getElem? hq)
      rw [upd_ne this]; exact h3 k q ws hq hw
    · rw [if_neg hk] at hq
      rw [if_neg (by rw [← h2]; exact hk)] at hw
      have hk0 : k - refs.length = 0 := by
        have := (List.getElem?_eq_some_iff.mp hq).1
        simp at this; omega
      rw [hk0] at hq
      rw [← h2, hk0] at hw
      cases hq; cases hw
      exact upd_same
  · rw [List.nodup_append]
    exact ⟨h4, by simp, fun a ha b hb e => by rw [List.mem_singleton] at hb; subst hb; subst e; exact hn ha⟩
/-- the list of lists itself -/
theorem NewL.done {G G' : Hp} {acc : List V} {vss : List (List V)} {F : Hp} {p : Addr} (n : NewL G G' acc vss F) (hp : G' p = none) : NewP G (upd F p (.lst acc)) (upd G' p (.lst acc)) ∧ RowsAt (upd F p (.lst acc)) p vss := by
  obtain ⟨refs, h1, h2, h3, h4⟩ := n.refs
  have hFp : F p = none := n.exF.nul hp
  have hn : p ∉ refs := fun hm => by
    obtain ⟨k, hk⟩ := List.getElem?_of_mem hm
    have hk2 : k < vss.length := by rw [← h2]; exact (List.getElem?_eq_some_iff.mp hk).1
    have := h3 k p _ hk (List.getElem?_eq_getElem hk2)
    rw [hFp] at this; cases this
  refine ⟨⟨n.ex.trans (Ex.new hp), n.exF.put, fun b o h => ?_, fun x => upd_nt (n.nt x) (fun ps z => by cases z)⟩, refs, by rw [upd_same, h1], h2, fun k q ws hq hw => ?_, h4, hn⟩
  · by_cases e : b = p
    · subst e; exact n.ex.nul hp
    · rw [upd_ne e] at h; exact n.new b o h
  · have : q ≠ p := fun e => hn (e ▸ List.mem_of_getElem? hq)
    rw [upd_ne this]; exact h3 k q ws hq hw
/-! ### Deeds.__init__ -/
def S_Deeds_init (K : PySem.W.Frag) (A : Ad) : Pm := fun vs G Q _ => ∃ (x dx : Addr), vs = [.ref x] ∧ G x = some (.ins A.cDeeds dx []) ∧ ∀ F G', DsAt A F x (List.replicate 8 []) → Ex F G' → (∀ b o, b ≠ x → G b = some o → G' b = some o) → (∀ b o, F b = some o → b = x ∨ G b = none) → (∀ b ps, F b ≠ some (.tbl ps)) → Q .non G'
/-! Deeds.__init__ -/
def t_Deeds_init (K : PySem.W.Frag) (A : Ad) : TS := (sFld K (tVar 0) (tLc (iRng1 (tCons (tC (.int 8)) tNil)) (gName 1) tYes (tLst tNil) [1]) "rows")
theorem len_Deeds_init {K : PySem.W.Frag} {A : Ad} : ∀ vs G Q E, S_Deeds_init K A vs G Q E → vs.length = ["self"].length := by
  rintro vs G Q E ⟨x, dx, rfl, _⟩; rfl
theorem ok_Deeds_init {K : PySem.W.Frag} {A : Ad} (C : Cf K A) : ∀ vs G Q E, S_Deeds_init K A vs G Q E → Es (t_Deeds_init K A) { nx := fun _ G' => Q .non G', rt := Q } (L2.start ["self", "_"] vs) G := by
  rintro vs G Q E ⟨x, dx, rfl, hx, q⟩
  change Es _ _ (_ :: _ :: []) _
  unfold t_Deeds_init
  k_extra "e"
  refine ee_lcR1 ?_
  k_extra "e"
  refine ⟨by omega, fun p hp => ⟨fun i acc G' => ∃ F, NewL G G' acc (List.replicate i []) F ∧ G' p = none ∧ acc.length = i ∧ i ≤ 8, ⟨_, NewL.start, hp, rfl, by omega⟩, ?_, ?_, ?_⟩⟩
  · rintro i acc G' ⟨F, h1, h2, h3, h4⟩
    exact ⟨h2, szlt (by omega)⟩
  · rintro i acc G' hi ⟨F, h1, h2, h3, h4⟩
    refine ⟨rfl, et_yes ?_⟩
    refine iteT ?_
    dsimp only [L2.wipe, List.set_cons_zero, List.set_cons_succ]
    k_extra "e"
    refine ⟨sz1000 (by simp), fun r hr => ?_⟩
    have hrp : r ≠ p := nul_updN hr
    have hr0 : G' r = none := nul_upd hr
    refine ⟨by rw [upd_ne (Ne.symm hrp), upd_same], upd G' r (.lst []), by rw [upd_comm hrp]; exact Ex.refl _, upd F r (.lst []), ?_, nul_ne h2 (Ne.symm hrp), by rw [List.length_append, h3]; rfl, by omega⟩
    rw [List.replicate_succ']
    exact h1.snoc hr0
  · rintro acc G' ⟨F, h1, h2, h3, h4⟩
    obtain ⟨n, ra⟩ := h1.done h2
    k_extra "e"
    have hxp : x ≠ p := ne_new (h1.ex _ _ hx) h2
    refine ⟨x, A.cDeeds, dx, [], rfl, by rw [upd_ne hxp]; exact h1.ex _ _ hx, C.cl, C.n1, by simp, ?_⟩
    obtain ⟨refs, r1, r2, r3, r4, r5⟩ := ra
    have nFx : F x = none := by
      cases e : F x with
      | none => rfl
      | some o => have := h1.new x o e; rw [hx] at this; cases this
    have hxr : x ∉ refs := fun hm => by
      obtain ⟨k, hk⟩ := List.getElem?_of_mem hm
      have hk2 : k < (List.replicate (8 : Int).toNat ([] : List V)).length := by rw [← r2]; exact (List.getElem?_eq_some_iff.mp hk).1
      have := r3 k x _ hk (List.getElem?_eq_getElem hk2)
      rw [upd_ne hxp, nFx] at this; cases this
    refine q (upd (upd F p (.lst acc)) x (.ins A.cDeeds dx [("rows", .ref p)])) _ ⟨dx, p, upd_same, refs, by rw [upd_ne (Ne.symm hxp)]; exact r1, r2, fun k r vs hr hv => ?_, r4, r5⟩ n.exF.put (fun b o hb e => by rw [upd_ne hb]; exact n.ex _ _ e) (fun b o e => ?_) fun b => upd_nt (n.nt b) (fun ps z => by cases z)
    · rw [upd_ne (fun e => hxr (by rw [← e]; exact List.mem_of_getElem? hr))]; exact r3 k r vs hr hv
    · by_cases z : b = x
      · exact .inl z
      · rw [upd_ne z] at e; exact .inr (n.new b o e)
/-- a new object -/
theorem ds_make {K : PySem.W.Frag} {A : Ad} {G : Hp} {P : Hp → Prop} {E : XK} {x dx : Addr} (hx : G x = none) (hd : G dx = none) (hn : dx ≠ x) (q : ∀ F G', NewP G F G' → DsAt A F x (List.replicate 8 []) → P G') :
    S_Deeds_init K A [.ref x] (upd (upd G dx (.own x)) x (.ins A.cDeeds dx [])) (fun v G2 => v = .non ∧ P G2) E := by
  refine ⟨x, dx, rfl, upd_same, fun F G' h1 h2 h3 h4 h5 => ⟨rfl, q F G' ⟨fun b o e => ?_, h2, fun b o e => ?_, h5⟩ h1⟩⟩
  · have hbx : b ≠ x := ne_of_none e hx
    exact h3 b o hbx (by rw [upd_ne hbx, upd_ne (ne_of_none e hd)]; exact e)
  · rcases h4 b o e with rfl | z
    · exact hx
    · by_cases hbx : b = x
      · rw [hbx]; exact hx
      · rw [upd_ne hbx] at z
        by_cases hbd : b = dx
        · rw [hbd]; exact hd
        · rw [upd_ne hbd] at z; exact z
end Lw

namespace Lw
open PySem PySem.Spec PyProof.Rows L2
local macro_rules | `(tactic| k_extra "x1") => `(tactic| first
  | with_reducible refine es_seq ?_
  | with_reducible refine es_asg ?_
  | with_reducible refine es_if ?_
  | with_reducible refine es_ret ?_
  | with_reducible refine es_drop ?_
  | with_reducible refine es_next ?_
  | with_reducible refine es_augS ?_
  | with_reducible refine es_fld ?_
  | ((with_reducible show Ee (tVar _) _ _ _); refine ee_var rfl ?_)
  | with_reducible refine ee_c ?_
  | with_reducible refine ee_op ?_
  | with_reducible refine ee_un ?_
  | with_reducible refine eu_neg ?_
  | with_reducible refine ee_cb ?_
  | with_reducible refine ee_call ?_
  | with_reducible refine ea_nil ?_
  | with_reducible refine ea_cons ?_
  | with_reducible refine ee_sl ?_
  | with_reducible refine eo_no ?_
  | with_reducible refine eo_part ?_
  | with_reducible refine ee_tup ?_
  | with_reducible refine ee_lst ?_
  | with_reducible refine et_test ?_
  | with_reducible refine et_tB ?_
  | with_reducible refine et_tru ?_
  | with_reducible refine et_and ?_
  | with_reducible refine et_or ?_
  | with_reducible refine et_not ?_
  | with_reducible refine ee_and ?_
  | with_reducible refine ee_or ?_
  | with_reducible refine ee_not ?_
  | with_reducible refine ee_if ?_
  | with_reducible refine ee_chain ?_
  | with_reducible refine er_addI ?_
  | with_reducible refine er_subI ?_
  | with_reducible refine er_eqI ?_
  | with_reducible refine er_neI ?_
  | with_reducible refine er_eqNI ?_
  | with_reducible refine er_eqS ?_
  | with_reducible refine er_neS ?_
  | with_reducible refine er_eqB ?_
  | with_reducible refine er_neB ?_
  | with_reducible refine er_lt ?_
  | with_reducible refine er_le ?_
  | with_reducible refine er_gt ?_
  | with_reducible refine er_ge ?_
  | with_reducible refine er_isN_non ?_
  | with_reducible refine er_isN_bl ?_
  | with_reducible refine er_isN_int ?_
  | with_reducible refine er_isN_str ?_
  | with_reducible refine er_isN_ref ?_
  | with_reducible refine er_notN_non ?_
  | with_reducible refine er_notN_bl ?_
  | with_reducible refine er_notN_int ?_
  | with_reducible refine er_notN_str ?_
  | with_reducible refine er_notN_ref ?_
  | with_reducible refine er_isN ?_
  | with_reducible refine er_notN ?_
  | with_reducible refine ec_int ?_
  | with_reducible refine ec_intB ?_
  | with_reducible refine ec_max2 ?_
  | with_reducible refine ec_min2 ?_
  | with_reducible refine ip_I ?_
  | ((with_reducible refine eg_name ?_); (try dsimp only [L2.wipe, List.set_cons_zero, List.set_cons_succ]))
  | with_reducible refine eg_sub ?_
  | with_reducible refine egs_cons ?_
  | with_reducible refine egs_nil ?_
  | with_reducible refine tru_bl ?_
  | with_reducible refine tru_int ?_
  | with_reducible refine tru_non ?_
  | with_reducible refine iteT ?_
  | with_reducible refine iteF ?_
  | with_reducible refine ite_nt ?_
  | with_reducible refine ite_nf ?_
  | with_reducible refine ⟨_, rfl, ?_⟩)
local macro_rules | `(tactic| k_extra "s") => `(tactic| ((first | k_extra "x1" | ((with_reducible refine es_unf ?_); refine es_seq ?_)); (repeat k_extra "x1")))
local macro_rules | `(tactic| k_extra "x") => `(tactic| (repeat first | k_extra "x1" | ((with_reducible refine es_unf ?_); refine es_seq ?_)))
local macro_rules | `(tactic| k_extra "start") => `(tactic| dsimp only [L2.start, List.map_cons, List.map_nil, List.length_cons, List.length_nil, Nat.reduceAdd, Nat.reduceSub, List.replicate, List.cons_append, List.nil_append, Nat.zero_add])
local macro_rules | `(tactic| k_extra "e1") => `(tactic| first
  | with_reducible refine es_next ?_
  | ((with_reducible show Ee (tVar _) _ _ _); refine ee_var rfl ?_)
  | with_reducible refine ee_c ?_
  | with_reducible refine ee_op ?_
  | with_reducible refine ee_un ?_
  | with_reducible refine eu_neg ?_
  | with_reducible refine ee_cb ?_
  | with_reducible refine ee_call ?_
  | with_reducible refine ea_nil ?_
  | with_reducible refine ea_cons ?_
  | with_reducible refine ee_sl ?_
  | with_reducible refine eo_no ?_
  | with_reducible refine eo_part ?_
  | with_reducible refine ee_tup ?_
  | with_reducible refine ee_lst ?_
  | with_reducible refine et_test ?_
  | with_reducible refine et_tB ?_
  | with_reducible refine et_tru ?_
  | with_reducible refine et_and ?_
  | with_reducible refine et_or ?_
  | with_reducible refine et_not ?_
  | with_reducible refine ee_and ?_
  | with_reducible refine ee_or ?_
  | with_reducible refine ee_not ?_
  | with_reducible refine ee_if ?_
  | with_reducible refine ee_chain ?_
  | with_reducible refine er_addI ?_
  | with_reducible refine er_subI ?_
  | with_reducible refine er_eqI ?_
  | with_reducible refine er_neI ?_
  | with_reducible refine er_eqNI ?_
  | with_reducible refine er_eqS ?_
  | with_reducible refine er_neS ?_
  | with_reducible refine er_eqB ?_
  | with_reducible refine er_neB ?_
  | with_reducible refine er_lt ?_
  | with_reducible refine er_le ?_
  | with_reducible refine er_gt ?_
  | with_reducible refine er_ge ?_
  | with_reducible refine er_isN_non ?_
  | with_reducible refine er_isN_bl ?_
  | with_reducible refine er_isN_int ?_
  | with_reducible refine er_isN_str ?_
  | with_reducible refine er_isN_ref ?_
  | with_reducible refine er_notN_non ?_
  | with_reducible refine er_notN_bl ?_
  | with_reducible refine er_notN_int ?_
  | with_reducible refine er_notN_str ?_
  | with_reducible refine er_notN_ref ?_
  | with_reducible refine er_isN ?_
  | with_reducible refine er_notN ?_
  | with_reducible refine ec_int ?_
  | with_reducible refine ec_intB ?_
  | with_reducible refine ec_max2 ?_
  | with_reducible refine ec_min2 ?_
  | with_reducible refine ip_I ?_
  | ((with_reducible refine eg_name ?_); (try dsimp only [L2.wipe, List.set_cons_zero, List.set_cons_succ]))
  | with_reducible refine eg_sub ?_
  | with_reducible refine egs_cons ?_
  | with_reducible refine egs_nil ?_
  | with_reducible refine tru_bl ?_
  | with_reducible refine tru_int ?_
  | with_reducible refine tru_non ?_
  | with_reducible refine iteT ?_
  | with_reducible refine iteF ?_
  | with_reducible refine ite_nt ?_
  | with_reducible refine ite_nf ?_
  | with_reducible refine ex_bl ?_
  | with_reducible refine ex_int ?_
  | with_reducible refine ex_str ?_
  | with_reducible refine ex_strx ?_
  | with_reducible refine ex_ints1 ?_
  | with_reducible refine ex_ints2 ?_)
local macro_rules | `(tactic| k_extra "t1") => `(tactic| first
  | with_reducible refine es_asg ?_
  | with_reducible refine es_if ?_
  | with_reducible refine es_ret ?_
  | with_reducible refine es_drop ?_
  | with_reducible refine es_augS ?_
  | with_reducible refine es_fld ?_)
local macro_rules | `(tactic| k_extra "e") => `(tactic| first
  | ((with_reducible refine es_seq ?_); (try k_extra "t1"); (repeat k_extra "e1"))
  | (k_extra "t1"; (repeat k_extra "e1"))
  | (k_extra "e1"; (repeat k_extra "e1"))
  | ((with_reducible refine es_unf ?_); (refine es_seq ?_); (try k_extra "t1"); (repeat k_extra "e1")))
theorem de_back {G : Hp} {x : V} {n : Int} (h : Iz G x (deD (.back n))) : ∃ t, x = .ref t ∧ G t = some (.tup [.str (Str.ofString "back"), .int n]) := by
  obtain ⟨t, xs, rfl, h1, h2⟩ := iz_tup h
  cases h2 with
  | cons a b => cases a; cases b with
    | cons c d => cases c; cases d; exact ⟨t, rfl, h1⟩
theorem de_chg {G : Hp} {x : V} {m t : Str} {rm : List Mk} {bh : Option Mk} {n : Int} (h : Iz G x (deD (.change m rm bh n t))) : ∃ a vr vb, x = .ref a ∧ G a = some (.tup [.str (Str.ofString "change"), .str m, vr, vb, .int n, .str t]) ∧ Iz G vr (.tuple (rm.map mP)) ∧ Iz G vb (bP bh) := by
  obtain ⟨a, xs, rfl, h1, h2⟩ := iz_tup h
  cases h2 with
  | cons a1 b => cases a1; cases b with
    | cons a2 b => cases a2; cases b with
      | cons a3 b => cases b with
        | cons a4 b => cases b with
          | cons a5 b => cases a5; cases b with
            | cons a6 b => cases a6; cases b; exact ⟨a, _, _, rfl, h1, a3, a4⟩
/-- the word, the first part -/
def wordOf : De → Str
  | .back _ => Str.ofString "back"
  | .change .. => Str.ofString "change"
theorem de_word {G : Hp} {x : V} {d : De} (h : Iz G x (deD d)) : ∃ t xs, x = .ref t ∧ G t = some (.tup xs) ∧ xs[0]? = some (.str (wordOf d)) := by
  cases d with
  | back n => obtain ⟨t, e, h1⟩ := de_back h; exact ⟨t, _, e, h1, rfl⟩
  | change m rm bh n t => obtain ⟨a, vr, vb, e, h1, _⟩ := de_chg h; exact ⟨a, _, e, h1, rfl⟩
/-! ### counts, add -/
def lens (vss : List (List V)) : List V := vss.map fun vs => .int vs.length
def S_Deeds_counts (K : PySem.W.Frag) (A : Ad) : Pm := fun vs G Q _ => ∃ (a : Addr) (vss : List (List V)), vs = [.ref a] ∧ DsAt A G a vss ∧ vss.length ≤ 1000 ∧ ∀ p G', Ex G G' → G p = none → G' p = some (.lst (lens vss)) → Q (.ref p) G'
/-! Deeds.counts -/
def t_Deeds_counts (K : PySem.W.Frag) (A : Ad) : TS := (tRet (tLc (iList K (tFld K (tVar 0) "rows")) (gName 1) tYes (tCB (rLenU K) (tCons (tVar 1) tNil)) [1]))
/-! Deeds.add -/
def t_Deeds_add (K : PySem.W.Frag) (A : Ad) : TS := (tDrop (tBM K "list" (rAppend) (tOp (rIx K) (tFld K (tVar 0) "rows") (tVar 1)) (tCons (tVar 2) tNil)))
theorem len_Deeds_counts {K : PySem.W.Frag} {A : Ad} : ∀ vs G Q E, S_Deeds_counts K A vs G Q E → vs.length = ["self"].length := by
  rintro vs G Q E ⟨a, vss, rfl, _⟩; rfl
theorem ok_Deeds_counts {K : PySem.W.Frag} {A : Ad} (C : Cf K A) : ∀ vs G Q E, S_Deeds_counts K A vs G Q E → Es (t_Deeds_counts K A) { nx := fun _ G' => Q .non G', rt := Q } (L2.start ["self", "row"] vs) G := by
  rintro vs G Q E ⟨a, vss, rfl, ⟨dx, pr, ha, refs, r1, r2, r3, r4, r5⟩, hl, q⟩
  change Es _ _ (_ :: _ :: []) _
  unfold t_Deeds_counts
  k_extra "e"
  refine ee_lcL ?_
  refine ee_fld ?_
  k_extra "e"
  refine ⟨a, A.cDeeds, dx, _, _, rfl, ha, C.cl, C.n1, rfl, ?_⟩
  refine ⟨pr, _, rfl, SqL.of r1, fun p hp => ⟨fun i acc G' => Ex G G' ∧ G' p = none ∧ acc = (lens vss).take i ∧ i ≤ vss.length, ⟨Ex.refl _, hp, rfl, Nat.zero_le _⟩, ?_, ?_, ?_⟩⟩
  · rintro i acc G' ⟨x1, x2, rfl, x4⟩
    exact ⟨x2, by rw [List.length_take]; exact szlt (by omega), SqL.of (x1 _ _ r1)⟩
  · rintro i acc x G' hx ⟨x1, x2, rfl, x4⟩
    obtain ⟨r, hr, rfl⟩ := Option.map_eq_some_iff.mp (by rw [← List.getElem?_map]; exact hx)
    have hi : i < vss.length := by rw [← r2]; exact (List.getElem?_eq_some_iff.mp hr).1
    have g := r3 i r _ hr (List.getElem?_eq_getElem hi)
    k_extra "e"
    refine ⟨rfl, et_yes ?_⟩
    refine iteT ?_
    k_extra "e"
    refine ec_lenL (SqL.of ((x1.trans (Ex.new x2)) _ _ g)) fun _ => ?_
    refine ⟨upd_same, G', Ex.refl _, x1, x2, ?_, by omega⟩
    rw [List.take_add_one, show (lens vss)[i]? = some (.int (vss[i].length : Nat)) by unfold lens; rw [List.getElem?_map, List.getElem?_eq_getElem hi]; rfl]; rfl
  · rintro acc G' ⟨x1, x2, rfl, x4⟩
    refine q p _ (x1.trans (Ex.new x2)) hp ?_
    rw [upd_same, List.take_of_length_le (by unfold lens; rw [List.length_map, List.length_map]; omega)]
def addV (vss : List (List V)) (k : Nat) (v : V) : List (List V) := vss.modify k (· ++ [v])
def S_Deeds_add (K : PySem.W.Frag) (A : Ad) : Pm := fun vs G Q _ => ∃ (a : Addr) (F : Hp) (vss : List (List V)) (k : Nat) (v : V), vs = [.ref a, .int (k : Int), v] ∧ DsAt A F a vss ∧ Ex F G ∧ k < vss.length ∧ (∀ ws ∈ vss, ws.length < 1000) ∧ (∀ x ps, F x ≠ some (.tbl ps)) ∧
  ∀ F' G', DsAt A F' a (addV vss k v) → Fr F G F' G' → Ex F' G' → (∀ x ps, F' x ≠ some (.tbl ps)) → Ls G G' → Q .non G'
theorem len_Deeds_add {K : PySem.W.Frag} {A : Ad} : ∀ vs G Q E, S_Deeds_add K A vs G Q E → vs.length = ["self", "replica", "deed"].length := by
  rintro vs G Q E ⟨a, F, vss, k, v, rfl, _⟩; rfl
/-- a row gets one more -/
theorem RowsAt.add {F : Hp} {p r : Addr} {vss : List (List V)} {k : Nat} {v : V} {ws : List V} {refs : List Addr} (h1 : F p = some (.lst (refs.map V.ref))) (h2 : refs.length = vss.length) (h3 : ∀ (k : Nat) (r : Addr) (vs : List V), refs[k]? = some r → vss[k]? = some vs → F r = some (.lst vs)) (h4 : refs.Nodup) (h5 : p ∉ refs)
    (hr : refs[k]? = some r) (hw : vss[k]? = some ws) : RowsAt (upd F r (.lst (ws ++ [v]))) p (addV vss k v) := by
  have hpr : p ≠ r := fun e => h5 (by rw [e]; exact List.mem_of_getElem? hr)
  refine ⟨refs, by rw [upd_ne hpr]; exact h1, by unfold addV; rw [List.length_modify]; exact h2, fun i q us hq hu => ?_, h4, h5⟩
  unfold addV at hu
  rw [List.getElem?_modify] at hu
  by_cases e : k = i
  · subst e
    rw [hr] at hq; cases hq
    rw [hw] at hu
    have hu : ws ++ [v] = us := by simpa using hu
    rw [← hu]; exact upd_same
  · have hu : vss[i]? = some us := by simpa [e] using hu
    have : q ≠ r := fun z => by
      subst z
      have h6 := (List.getElem?_eq_some_iff.mp hr)
      have h7 := (List.getElem?_eq_some_iff.mp hq)
      exact e ((List.getElem_inj h4).mp (h6.2.trans h7.2.symm))
    rw [upd_ne this]; exact h3 i q us hq hu
theorem ok_Deeds_add {K : PySem.W.Frag} {A : Ad} (C : Cf K A) : ∀ vs G Q E, S_Deeds_add K A vs G Q E → Es (t_Deeds_add K A) { nx := fun _ G' => Q .non G', rt := Q } (L2.start ["self", "replica", "deed"] vs) G := by
  rintro vs G Q E ⟨a, F, vss, k, v, rfl, ⟨dx, pr, ha, refs, r1, r2, r3, r4, r5⟩, eF, hk, hz, nt, q⟩
  change Es _ _ (_ :: _ :: _ :: []) _
  unfold t_Deeds_add
  have hk2 : k < refs.length := by rw [r2]; exact hk
  have hr := List.getElem?_eq_getElem hk2
  have hw := List.getElem?_eq_getElem hk
  have g := r3 k _ _ hr hw
  k_extra "e"
  refine ee_bm ?_
  k_extra "e"
  refine ee_fld ?_
  k_extra "e"
  refine ⟨a, A.cDeeds, dx, _, _, rfl, eF _ _ ha, C.cl, C.n1, rfl, ?_⟩
  k_extra "e"
  refine er_ixL (SqL.of (eF _ _ r1)) (atI_nat (v := .ref refs[k]) (by rw [List.getElem?_map, hr]; rfl)) ?_
  refine ⟨ty_lst (eF _ _ g), ?_⟩
  k_extra "e"
  refine em_append (eF _ _ g) (szlt (by have := hz _ (List.getElem_mem hk); omega)) ?_
  have har : a ≠ refs[k] := fun e => by rw [e, g] at ha; cases ha
  exact q (upd F refs[k] (.lst (vss[k] ++ [v]))) _ ⟨dx, pr, by rw [upd_ne har]; exact ha, RowsAt.add r1 r2 r3 r4 r5 hr hw⟩ (Fr.mut g) eF.put (fun x => upd_nt (nt x) (fun ps z => by cases z)) (Ls.mut (eF _ _ g))
/-! ### copy -/
def S_Deeds_copy (K : PySem.W.Frag) (A : Ad) : Pm := fun vs G Q _ => ∃ (a : Addr) (vss : List (List V)), vs = [.ref a] ∧ DsAt A G a vss ∧ vss.length ≤ 1000 ∧ ∀ x F G', NewP G F G' → DsAt A F x vss → Q (.ref x) G'
/-! Deeds.copy -/
def t_Deeds_copy_1 (K : PySem.W.Frag) (A : Ad) : TS := tSeq (sFld K (tVar 1) (tLc (iList K (tFld K (tVar 0) "rows")) (gName 2) tYes (tCB (rListU K) (tCons (tVar 2) tNil)) [2]) "rows") (tRet (tVar 1))
def t_Deeds_copy (K : PySem.W.Frag) (A : Ad) : TS := tSeq (tAsg (tMake A.cDeeds (up (S_Deeds_init K A)) [] E0 tNil) (gName 1)) (t_Deeds_copy_1 K A)
theorem len_Deeds_copy {K : PySem.W.Frag} {A : Ad} : ∀ vs G Q E, S_Deeds_copy K A vs G Q E → vs.length = ["self"].length := by
  rintro vs G Q E ⟨a, vss, rfl, _⟩; rfl
theorem ok_Deeds_copy {K : PySem.W.Frag} {A : Ad} (C : Cf K A) : ∀ vs G Q E, S_Deeds_copy K A vs G Q E → Es (t_Deeds_copy K A) { nx := fun _ G' => Q .non G', rt := Q } (L2.start ["self", "result", "row"] vs) G := by
  rintro vs G Q E ⟨a, vss, rfl, ⟨dx, pr, ha, refs, r1, r2, r3, r4, r5⟩, hl, q⟩
  change Es _ _ (_ :: _ :: _ :: []) _
  k_extra "e"
  refine ee_make ?_
  k_extra "e"
  intro x dx' hx hd hn
  refine ds_make (P := fun G2 => _) hx hd hn fun F0 G1 n1 d1 => ?_
  obtain ⟨dxx, p0, hx0, _⟩ := d1
  have hx1 := n1.exF _ _ hx0
  have hxG : G x = none := hx
  k_extra "e"
  k_extra "e"
  refine ee_lcL ?_
  refine ee_fld ?_
  k_extra "e"
  refine ⟨a, A.cDeeds, dx, _, _, rfl, n1.ex _ _ ha, C.cl, C.n1, rfl, ?_⟩
  refine ⟨pr, _, rfl, SqL.of (n1.ex _ _ r1), fun p hp => ⟨fun i acc G' => ∃ F, NewL G1 G' acc (vss.take i) F ∧ G' p = none ∧ acc.length = i ∧ i ≤ vss.length, ⟨_, NewL.start, hp, rfl, Nat.zero_le _⟩, ?_, ?_, ?_⟩⟩
  · rintro i acc G' ⟨F, h1, h2, h3, h4⟩
    exact ⟨h2, szlt (by omega), SqL.of (h1.ex _ _ (n1.ex _ _ r1))⟩
  · rintro i acc y G' hy ⟨F, h1, h2, h3, h4⟩
    obtain ⟨r, hr, rfl⟩ := Option.map_eq_some_iff.mp (by rw [← List.getElem?_map]; exact hy)
    have hi : i < vss.length := by rw [← r2]; exact (List.getElem?_eq_some_iff.mp hr).1
    have g := r3 i r _ hr (List.getElem?_eq_getElem hi)
    k_extra "e"
    refine ⟨rfl, et_yes ?_⟩
    refine iteT ?_
    k_extra "e"
    refine ec_list (.inl (SqL.of ((h1.ex.trans (Ex.new h2)) _ _ (n1.ex _ _ g)))) fun l hl2 => ?_
    have hlp : l ≠ p := nul_updN hl2
    have hl0 : G' l = none := nul_upd hl2
    refine ⟨by rw [upd_ne (Ne.symm hlp), upd_same], upd G' l (.lst vss[i]), by rw [upd_comm hlp]; exact Ex.refl _, upd F l (.lst vss[i]), ?_, nul_ne h2 (Ne.symm hlp), by rw [List.length_append, h3]; rfl, by omega⟩
    rw [List.take_add_one, List.getElem?_eq_getElem hi]
    exact h1.snoc hl0
  · rintro acc G' ⟨F, h1, h2, h3, h4⟩
    rw [List.length_map, r2, List.take_length] at h1
    obtain ⟨n, refs', s1, s2, s3, s4, s5⟩ := h1.done h2
    have hxp : x ≠ p := ne_new (h1.ex _ _ hx1) h2
    k_extra "e"
    refine ⟨x, A.cDeeds, dxx, [("rows", .ref p0)], rfl, by rw [upd_ne hxp]; exact h1.ex _ _ hx1, C.cl, C.n1, by simp, ?_⟩
    have nFx : F x = none := by
      cases e : F x with
      | none => rfl
      | some o => have := h1.new x o e; rw [hx1] at this; cases this
    have hxr : x ∉ refs' := fun hm => by
      obtain ⟨k, hk⟩ := List.getElem?_of_mem hm
      have hk2 : k < vss.length := by rw [← s2]; exact (List.getElem?_eq_some_iff.mp hk).1
      have := s3 k x _ hk (List.getElem?_eq_getElem hk2)
      rw [upd_ne hxp, nFx] at this; cases this
    k_extra "e"
    refine q x (upd (upd F p (.lst acc)) x (.ins A.cDeeds dxx [("rows", .ref p)])) _ ⟨fun b o e => ?_, n.exF.put, fun b o e => ?_, fun b => upd_nt (n.nt b) (fun ps z => by cases z)⟩ ⟨dxx, p, upd_same, refs', by rw [upd_ne (Ne.symm hxp)]; exact s1, s2, fun k r vs hr hv => ?_, s4, s5⟩
    · rw [upd_ne (ne_of_none e hxG)]; exact n.ex _ _ (n1.ex _ _ e)
    · by_cases z : b = x
      · rw [z]; exact hxG
      · rw [upd_ne z] at e
        exact n1.ex.nul (n.new b o e)
    · rw [upd_ne (fun e => hxr (by rw [← e]; exact List.mem_of_getElem? hr))]; exact s3 k r vs hr hv
end Lw

namespace Lw
open PySem PySem.Spec PyProof.Rows L2
local macro_rules | `(tactic| k_extra "x1") => `(tactic| first
  | with_reducible refine es_seq ?_
  | with_reducible refine es_asg ?_
  | with_reducible refine es_if ?_
  | with_reducible refine es_ret ?_
  | with_reducible refine es_drop ?_
  | with_reducible refine es_next ?_
  | with_reducible refine es_augS ?_
  | with_reducible refine es_fld ?_
  | ((with_reducible show Ee (tVar _) _ _ _); refine ee_var rfl ?_)
  | with_reducible refine ee_c ?_
  | with_reducible refine ee_op ?_
  | with_reducible refine ee_un ?_
  | with_reducible refine eu_neg ?_
  | with_reducible refine ee_cb ?_
  | with_reducible refine ee_call ?_
  | with_reducible refine ea_nil ?_
  | with_reducible refine ea_cons ?_
  | with_reducible refine ee_sl ?_
  | with_reducible refine eo_no ?_
  | with_reducible refine eo_part ?_
  | with_reducible refine ee_tup ?_
  | with_reducible refine ee_lst ?_
  | with_reducible refine et_test ?_
  | with_reducible refine et_tB ?_
  | with_reducible refine et_tru ?_
  | with_reducible refine et_and ?_
  | with_reducible refine et_or ?_
  | with_reducible refine et_not ?_
  | with_reducible refine ee_and ?_
  | with_reducible refine ee_or ?_
  | with_reducible refine ee_not ?_
  | with_reducible refine ee_if ?_
  | with_reducible refine ee_chain ?_
  | with_reducible refine er_addI ?_
  | with_reducible refine er_subI ?_
  | with_reducible refine er_eqI ?_
  | with_reducible refine er_neI ?_
  | with_reducible refine er_eqNI ?_
  | with_reducible refine er_eqS ?_
  | with_reducible refine er_neS ?_
  | with_reducible refine er_eqB ?_
  | with_reducible refine er_neB ?_
  | with_reducible refine er_lt ?_
  | with_reducible refine er_le ?_
  | with_reducible refine er_gt ?_
  | with_reducible refine er_ge ?_
  | with_reducible refine er_isN_non ?_
  | with_reducible refine er_isN_bl ?_
  | with_reducible refine er_isN_int ?_
  | with_reducible refine er_isN_str ?_
  | with_reducible refine er_isN_ref ?_
  | with_reducible refine er_notN_non ?_
  | with_reducible refine er_notN_bl ?_
  | with_reducible refine er_notN_int ?_
  | with_reducible refine er_notN_str ?_
  | with_reducible refine er_notN_ref ?_
  | with_reducible refine er_isN ?_
  | with_reducible refine er_notN ?_
  | with_reducible refine ec_int ?_
  | with_reducible refine ec_intB ?_
  | with_reducible refine ec_max2 ?_
  | with_reducible refine ec_min2 ?_
  | with_reducible refine ip_I ?_
  | ((with_reducible refine eg_name ?_); (try dsimp only [L2.wipe, List.set_cons_zero, List.set_cons_succ]))
  | with_reducible refine eg_sub ?_
  | with_reducible refine egs_cons ?_
  | with_reducible refine egs_nil ?_
  | with_reducible refine tru_bl ?_
  | with_reducible refine tru_int ?_
  | with_reducible refine tru_non ?_
  | with_reducible refine iteT ?_
  | with_reducible refine iteF ?_
  | with_reducible refine ite_nt ?_
  | with_reducible refine ite_nf ?_
  | with_reducible refine ⟨_, rfl, ?_⟩)
local macro_rules | `(tactic| k_extra "s") => `(tactic| ((first | k_extra "x1" | ((with_reducible refine es_unf ?_); refine es_seq ?_)); (repeat k_extra "x1")))
local macro_rules | `(tactic| k_extra "x") => `(tactic| (repeat first | k_extra "x1" | ((with_reducible refine es_unf ?_); refine es_seq ?_)))
local macro_rules | `(tactic| k_extra "start") => `(tactic| dsimp only [L2.start, List.map_cons, List.map_nil, List.length_cons, List.length_nil, Nat.reduceAdd, Nat.reduceSub, List.replicate, List.cons_append, List.nil_append, Nat.zero_add])
local macro_rules | `(tactic| k_extra "e1") => `(tactic| first
  | with_reducible refine es_next ?_
  | ((with_reducible show Ee (tVar _) _ _ _); refine ee_var rfl ?_)
  | with_reducible refine ee_c ?_
  | with_reducible refine ee_op ?_
  | with_reducible refine ee_un ?_
  | with_reducible refine eu_neg ?_
  | with_reducible refine ee_cb ?_
  | with_reducible refine ee_call ?_
  | with_reducible refine ea_nil ?_
  | with_reducible refine ea_cons ?_
  | with_reducible refine ee_sl ?_
  | with_reducible refine eo_no ?_
  | with_reducible refine eo_part ?_
  | with_reducible refine ee_tup ?_
  | with_reducible refine ee_lst ?_
  | with_reducible refine et_test ?_
  | with_reducible refine et_tB ?_
  | with_reducible refine et_tru ?_
  | with_reducible refine et_and ?_
  | with_reducible refine et_or ?_
  | with_reducible refine et_not ?_
  | with_reducible refine ee_and ?_
  | with_reducible refine ee_or ?_
  | with_reducible refine ee_not ?_
  | with_reducible refine ee_if ?_
  | with_reducible refine ee_chain ?_
  | with_reducible refine er_addI ?_
  | with_reducible refine er_subI ?_
  | with_reducible refine er_eqI ?_
  | with_reducible refine er_neI ?_
  | with_reducible refine er_eqNI ?_
  | with_reducible refine er_eqS ?_
  | with_reducible refine er_neS ?_
  | with_reducible refine er_eqB ?_
  | with_reducible refine er_neB ?_
  | with_reducible refine er_lt ?_
  | with_reducible refine er_le ?_
  | with_reducible refine er_gt ?_
  | with_reducible refine er_ge ?_
  | with_reducible refine er_isN_non ?_
  | with_reducible refine er_isN_bl ?_
  | with_reducible refine er_isN_int ?_
  | with_reducible refine er_isN_str ?_
  | with_reducible refine er_isN_ref ?_
  | with_reducible refine er_notN_non ?_
  | with_reducible refine er_notN_bl ?_
  | with_reducible refine er_notN_int ?_
  | with_reducible refine er_notN_str ?_
  | with_reducible refine er_notN_ref ?_
  | with_reducible refine er_isN ?_
  | with_reducible refine er_notN ?_
  | with_reducible refine ec_int ?_
  | with_reducible refine ec_intB ?_
  | with_reducible refine ec_max2 ?_
  | with_reducible refine ec_min2 ?_
  | with_reducible refine ip_I ?_
  | ((with_reducible refine eg_name ?_); (try dsimp only [L2.wipe, List.set_cons_zero, List.set_cons_succ]))
  | with_reducible refine eg_sub ?_
  | with_reducible refine egs_cons ?_
  | with_reducible refine egs_nil ?_
  | with_reducible refine tru_bl ?_
  | with_reducible refine tru_int ?_
  | with_reducible refine tru_non ?_
  | with_reducible refine iteT ?_
  | with_reducible refine iteF ?_
  | with_reducible refine ite_nt ?_
  | with_reducible refine ite_nf ?_
  | with_reducible refine ex_bl ?_
  | with_reducible refine ex_int ?_
  | with_reducible refine ex_str ?_
  | with_reducible refine ex_strx ?_
  | with_reducible refine ex_ints1 ?_
  | with_reducible refine ex_ints2 ?_)
local macro_rules | `(tactic| k_extra "t1") => `(tactic| first
  | with_reducible refine es_asg ?_
  | with_reducible refine es_if ?_
  | with_reducible refine es_ret ?_
  | with_reducible refine es_drop ?_
  | with_reducible refine es_augS ?_
  | with_reducible refine es_fld ?_)
local macro_rules | `(tactic| k_extra "e") => `(tactic| first
  | ((with_reducible refine es_seq ?_); (try k_extra "t1"); (repeat k_extra "e1"))
  | (k_extra "t1"; (repeat k_extra "e1"))
  | (k_extra "e1"; (repeat k_extra "e1"))
  | ((with_reducible refine es_unf ?_); (refine es_seq ?_); (try k_extra "t1"); (repeat k_extra "e1")))
/-! ### forces of the program -/
def S_Deeds_forces (K : PySem.W.Frag) (A : Ad) : Pm := fun vs G Q _ => ∃ (a : Addr) (vss : List (List V)) (rows : List (List De)) (k : Nat) (row : List De), vs = [.ref a, .int (k : Int)] ∧ DsAt A G a vss ∧ Rz G vss rows ∧ rows[k]? = some row ∧ row.length ≤ 1000 ∧
  ∀ p G', Ex G G' → G p = none → G' p = some (.lst ((frc row 1).map V.bl)) → Q (.ref p) G'
/-! Deeds.forces -/
def t_Deeds_forces_1 (K : PySem.W.Frag) (A : Ad) : TS := tSeq (tIfS (tAnd (tTru K (tVar 6)) (tTest (tOp (rEqU K) (tOp (rIx K) (tOp (rIx K) (tVar 2) (tOp (rSubI) (tVar 5) (tC (.int 1)))) (tC (.int 0))) (tC (.str "back"))))) (sDPut (tVar 3) (tOp (rIx K) (tOp (rIx K) (tVar 2) (tOp (rSubI) (tVar 5) (tC (.int 1)))) (tC (.int 1))) (tC (.bl true))) tNext) (tDrop (tBM K "list" (rAppend) (tVar 4) (tCons (tVar 6) tNil)))
def t_Deeds_forces_2 (K : PySem.W.Frag) (A : Ad) : TS := tSeq (tAsg (tDNotIn (tVar 5) (tVar 3)) (gName 6)) (t_Deeds_forces_1 K A)
def t_Deeds_forces_3 (K : PySem.W.Frag) (A : Ad) : TS := tSeq (tFor (iRng3 (tCons (tCB (rLenU K) (tCons (tVar 2) tNil)) (tCons (tC (.int 0)) (tCons (tUn (rU fun i => .int (-i)) (tC (.int 1))) tNil)))) (gName 5) (t_Deeds_forces_2 K A)) (tRet (tRevL K (tVar 4)))
def t_Deeds_forces_4 (K : PySem.W.Frag) (A : Ad) : TS := tSeq (tAsg (tLst tNil) (gName 4)) (t_Deeds_forces_3 K A)
def t_Deeds_forces_5 (K : PySem.W.Frag) (A : Ad) : TS := tSeq (tAsg tDNewK (gName 3)) (t_Deeds_forces_4 K A)
def t_Deeds_forces (K : PySem.W.Frag) (A : Ad) : TS := tSeq (tAsg (tOp (rIx K) (tFld K (tVar 0) "rows") (tVar 1)) (gName 2)) (t_Deeds_forces_5 K A)
/-! Deeds.in_force -/
def t_Deeds_in_force (K : PySem.W.Frag) (A : Ad) : TS := (tRet (tOp (rIx K) (tMeth A.cDeeds "forces" (up (S_Deeds_forces K A)) [] E0 (tVar 0) (tCons (tVar 1) tNil)) (tOp (rSubI) (tVar 2) (tC (.int 1)))))
theorem len_Deeds_forces {K : PySem.W.Frag} {A : Ad} : ∀ vs G Q E, S_Deeds_forces K A vs G Q E → vs.length = ["self", "replica"].length := by
  rintro vs G Q E ⟨a, vss, rows, k, row, rfl, _⟩; rfl
/-- what is taken back, as the dict tells it -/
theorem taken_cons {fs : List Bool} {r : List De} {d : De} {p : Int} {f : Bool} : taken (f :: fs) (d :: r) p = ((f && isBack d p) || taken fs r p) := rfl
theorem ok_Deeds_forces {K : PySem.W.Frag} {A : Ad} (C : Cf K A) : ∀ vs G Q E, S_Deeds_forces K A vs G Q E → Es (t_Deeds_forces K A) { nx := fun _ G' => Q .non G', rt := Q } (L2.start ["self", "replica", "row", "taken", "result", "place", "in_force"] vs) G := by
  rintro vs G Q E ⟨a, vss, rows, k0, row, rfl, ⟨dx, pr, ha, hra⟩, hz, hrow, hlen, q⟩
  obtain ⟨xs, r, gp, gx, ⟨rvs, hr, hI⟩, _⟩ := hra.get hz hrow
  have hl : rvs.length = row.length := by have := izs_len hI; rwa [List.length_map] at this
  change Es _ _ (_ :: _ :: _ :: _ :: _ :: _ :: _ :: []) _
  k_extra "e"
  refine ee_fld ?_
  k_extra "e"
  refine ⟨a, A.cDeeds, dx, _, _, rfl, ha, C.cl, C.n1, rfl, ?_⟩
  k_extra "e"
  refine er_ixL (SqL.of gp) (atI_nat gx) ?_
  k_extra "e"
  k_extra "e"
  refine ee_dnewK fun pd hpd => ?_
  k_extra "e"
  k_extra "e"
  refine ⟨sz1000 (by simp), fun pf hpf => ?_⟩
  have hfd : pf ≠ pd := nul_updN hpf
  have e0 := (Ex.new (o := .dK []) hpd).trans (Ex.new (o := .lst []) hpf)
  k_extra "e"
  k_extra "e"
  refine es_forR3 ?_
  k_extra "e"
  refine ec_lenL (SqL.of (e0 _ _ hr)) fun _ => ?_
  rw [hl]
  k_extra "e"
  refine ⟨_, _, _, row.length, rfl, by have := RgC.neg (i := (row.length : Int)) (j := 0) (by omega) (by omega) (by decide) (by decide); rwa [show ((row.length : Int) - 0).toNat = row.length by omega] at this, fun k σ G' => ∃ c5 c6 kvs, σ = [some (.ref a), some (.int (k0 : Int)), some (.ref r), some (.ref pd), some (.ref pf), c5, c6] ∧ Ex G G' ∧ k ≤ row.length ∧ kvs.length ≤ k ∧
    G' pd = some (.dK kvs) ∧ (∀ n : Int, (valV kvs (.inl n)).isSome = taken (frc (row.drop (row.length - k)) (1 + (row.length - k : Nat))) (row.drop (row.length - k)) n) ∧
    G' pf = some (.lst ((frc (row.drop (row.length - k)) (1 + (row.length - k : Nat))).reverse.map V.bl)), ⟨_, _, [], rfl, e0, Nat.zero_le _, Nat.le_refl _, by rw [upd_ne hfd.symm, upd_same], fun n => by rw [Nat.sub_zero, List.drop_length]; rfl, by rw [upd_same, Nat.sub_zero, List.drop_length]; rfl⟩, ?_, ?_⟩
  · rintro k σ G' hk ⟨c5, c6, kvs, rfl, e1, hk1, hkv, hd, ht, hf⟩
    have hkk : row.length - (k + 1) < row.length := by omega
    have e2 := frc_at (List.getElem?_eq_getElem hkk)
    have e3 : row.length - (k + 1) + 1 = row.length - k := by omega
    rw [e3] at e2
    have hdr : row.drop (row.length - (k + 1)) = row[row.length - (k + 1)] :: row.drop (row.length - k) := by rw [List.drop_eq_getElem_cons hkk, e3]
    generalize efs : frc (row.drop (row.length - k)) (1 + (row.length - k : Nat)) = fs at hf ht e2
    have lfs : fs.length = k := by rw [← efs, frc_len, List.length_drop]; omega
    have gr := e1 _ _ hr
    have gI := e1.tz.izs hI
    have hpl : (row.length : Int) + (k : Nat) * (-1) = ((row.length - (k + 1) : Nat) : Int) + 1 := by omega
    rw [hpl]
    have hp1 : (1 : Int) + ((row.length - (k + 1) : Nat) : Int) = ((row.length - (k + 1) : Nat) : Int) + 1 := by omega
    rw [hp1] at e2
    obtain ⟨x, hx, ix⟩ := izs_get gI (show (row.map deD)[row.length - (k + 1)]? = some (deD row[row.length - (k + 1)]) by rw [List.getElem?_map, List.getElem?_eq_getElem hkk]; rfl)
    k_extra "e"
    refine ee_dnotIn ?_
    k_extra "e"
    refine ⟨pd, _, rfl, DGet.k (k := Sum.inl _) hd, ?_⟩
    rw [ht]
    k_extra "e"
    -- the end of a turn
    have fin : ∀ (b : Bool) (c5 : Option V) (kvs' : List (L2.Key × V)) (G2 : Hp), b = (!taken fs (row.drop (row.length - k)) (((row.length - (k + 1) : Nat) : Int) + 1)) → Ex G G2 → kvs'.length ≤ k + 1 → G2 pd = some (.dK kvs') →
        (∀ n : Int, (valV kvs' (.inl n)).isSome = ((b && isBack row[row.length - (k + 1)] n) || taken fs (row.drop (row.length - k)) n)) → G2 pf = some (.lst (fs.reverse.map V.bl)) →
        Es (tDrop (tBM K "list" (rAppend) (tVar 4) (tCons (tVar 6) tNil))) (Bd { nx := fun σ' G' => Es (tRet (tRevL K (tVar 4))) { nx := fun _ G' => Q .non G', rt := Q } σ' G', rt := Q } fun σ G' => ∃ c5 c6 kvs, σ = [some (.ref a), some (.int (k0 : Int)), some (.ref r), some (.ref pd), some (.ref pf), c5, c6] ∧ Ex G G' ∧ k + 1 ≤ row.length ∧ kvs.length ≤ k + 1 ∧
          G' pd = some (.dK kvs) ∧ (∀ n : Int, (valV kvs (.inl n)).isSome = taken (frc (row.drop (row.length - (k + 1))) (1 + (row.length - (k + 1) : Nat))) (row.drop (row.length - (k + 1))) n) ∧
          G' pf = some (.lst ((frc (row.drop (row.length - (k + 1))) (1 + (row.length - (k + 1) : Nat))).reverse.map V.bl))) [some (.ref a), some (.int (k0 : Int)), some (.ref r), some (.ref pd), some (.ref pf), c5, some (.bl b)] G2 := by
      intro b c5 kvs' G2 hb x1 x2 x3 x4 x5
      k_extra "e"
      refine ee_bm ?_
      k_extra "e"
      refine ⟨ty_lst x5, ?_⟩
      k_extra "e"
      refine em_append x5 (by rw [List.length_map, List.length_reverse, lfs]; exact szlt (by omega)) ?_
      refine ⟨_, _, kvs', rfl, x1.mut (nul_upd hpf), by omega, x2, by rw [upd_ne hfd.symm]; exact x3, fun n => ?_, ?_⟩
      · rw [hp1, e2, hdr, taken_cons, ← hb]; exact x4 n
      · rw [upd_same, hp1, e2, List.reverse_cons, List.map_append, ← hb]; rfl
    k_extra "e"
    refine ifb (fun hb => ?_) (fun hb => ?_)
    · k_extra "e"
      have hpm : ((row.length - (k + 1) : Nat) : Int) + 1 - 1 = ((row.length - (k + 1) : Nat) : Int) := by omega
      rw [hpm]
      refine er_ixL (SqL.of gr) (atI_nat hx) ?_
      obtain ⟨t, ys, rfl, ht2, hw⟩ := de_word ix
      k_extra "e"
      refine er_ixT (SqT.of ht2) (atI_nat hw) ?_
      k_extra "e"
      cases hdd : row[row.length - (k + 1)] with
      | back n =>
        refine ifd (fun _ => ?_) (fun z => absurd rfl z)
        rw [hdd] at ix
        obtain ⟨t', e', h1⟩ := de_back ix
        cases e'
        refine es_dputK ?_
        k_extra "e"
        rw [hpm]
        refine er_ixL (SqL.of gr) (atI_nat hx) ?_
        k_extra "e"
        refine er_ixT (SqT.of h1) (atI_nat (j := 1) rfl) ?_
        refine ⟨pd, kvs, Sum.inl n, rfl, hd, rfl, szlt (by omega), ?_⟩
        refine fin _ _ (putK kvs (.inl n) (.bl true)) _ rfl (e1.mut hpd) (by have := length_putK kvs (Sum.inl n) (.bl true); omega) upd_same (fun n' => ?_) (by rw [upd_ne hfd]; exact hf)
        rw [valV_put, hdd, hb, Bool.true_and]
        by_cases z : n' = n
        · subst z; rw [if_pos rfl]; simp [isBack]
        · rw [if_neg (fun q => z (by injection q)), ht]
          have : isBack (De.back n) n' = false := by simp [isBack, Ne.symm z]
          rw [this]; simp
      | change m rm bh n t'' =>
        refine ifd (fun z => absurd z (by simp only [wordOf]; decide)) (fun _ => ?_)
        k_extra "e"
        refine fin _ _ kvs _ rfl e1 (by omega) hd (fun n' => ?_) hf
        rw [ht, hdd]; simp [isBack]
    · k_extra "e"
      refine fin _ _ kvs _ rfl e1 (by omega) hd (fun n' => ?_) hf
      rw [ht, hb]; simp
  · rintro σ G' ⟨c5, c6, kvs, rfl, e1, hk1, hkv, hd, ht, hf⟩
    rw [Nat.sub_self, List.drop_zero] at hf
    k_extra "e"
    refine ee_revL ?_
    k_extra "e"
    refine ⟨pf, _, rfl, SqL.of hf, fun p hp => q p _ (e1.trans (Ex.new hp)) (e1.nul hp) ?_⟩
    rw [upd_same, ← List.map_reverse, List.reverse_reverse]
    rfl
def S_Deeds_in_force (K : PySem.W.Frag) (A : Ad) : Pm := fun vs G Q _ => ∃ (a : Addr) (vss : List (List V)) (rows : List (List De)) (k : Nat) (row : List De) (i : Nat) (b : Bool), vs = [.ref a, .int (k : Int), .int ((i : Int) + 1)] ∧ DsAt A G a vss ∧ Rz G vss rows ∧ rows[k]? = some row ∧ row.length ≤ 1000 ∧ (frc row 1)[i]? = some b ∧
  ∀ G', Ex G G' → Q (.bl b) G'
theorem len_Deeds_in_force {K : PySem.W.Frag} {A : Ad} : ∀ vs G Q E, S_Deeds_in_force K A vs G Q E → vs.length = ["self", "replica", "place"].length := by
  rintro vs G Q E ⟨a, vss, rows, k, row, i, b, rfl, _⟩; rfl
theorem ok_Deeds_in_force {K : PySem.W.Frag} {A : Ad} (C : Cf K A) : ∀ vs G Q E, S_Deeds_in_force K A vs G Q E → Es (t_Deeds_in_force K A) { nx := fun _ G' => Q .non G', rt := Q } (L2.start ["self", "replica", "place"] vs) G := by
  rintro vs G Q E ⟨a, vss, rows, k, row, i, b, rfl, hD, hz, hrow, hlen, hb, q⟩
  change Es _ _ (_ :: _ :: _ :: []) _
  have hD' := hD
  obtain ⟨dx, pr, ha, hra⟩ := hD
  unfold t_Deeds_in_force
  k_extra "e"
  refine ee_meth ?_
  k_extra "e"
  refine ⟨a, dx, _, rfl, ha, rfl, ?_⟩
  k_extra "e"
  refine ⟨a, vss, rows, k, row, rfl, hD', hz, hrow, hlen, fun p G' e1 _ hp => ?_⟩
  k_extra "e"
  rw [show ((i : Int) + 1 - 1) = (i : Int) by omega]
  refine er_ixL (SqL.of hp) (atI_nat (v := .bl b) (by rw [List.getElem?_map, hb]; rfl)) ?_
  exact q _ e1
end Lw

namespace Lw
open PySem PySem.Spec PyProof.Rows L2
local macro_rules | `(tactic| k_extra "x1") => `(tactic| first
  | with_reducible refine es_seq ?_
  | with_reducible refine es_asg ?_
  | with_reducible refine es_if ?_
  | with_reducible refine es_ret ?_
  | with_reducible refine es_drop ?_
  | with_reducible refine es_next ?_
  | with_reducible refine es_augS ?_
  | with_reducible refine es_fld ?_
  | ((with_reducible show Ee (tVar _) _ _ _); refine ee_var rfl ?_)
  | with_reducible refine ee_c ?_
  | with_reducible refine ee_op ?_
  | with_reducible refine ee_un ?_
  | with_reducible refine eu_neg ?_
  | with_reducible refine ee_cb ?_
  | with_reducible refine ee_call ?_
  | with_reducible refine ea_nil ?_
  | with_reducible refine ea_cons ?_
  | with_reducible refine ee_sl ?_
  | with_reducible refine eo_no ?_
  | with_reducible refine eo_part ?_
  | with_reducible refine ee_tup ?_
  | with_reducible refine ee_lst ?_
  | with_reducible refine et_test ?_
  | with_reducible refine et_tB ?_
  | with_reducible refine et_tru ?_
  | with_reducible refine et_and ?_
  | with_reducible refine et_or ?_
  | with_reducible refine et_not ?_
  | with_reducible refine ee_and ?_
  | with_reducible refine ee_or ?_
  | with_reducible refine ee_not ?_
  | with_reducible refine ee_if ?_
  | with_reducible refine ee_chain ?_
  | with_reducible refine er_addI ?_
  | with_reducible refine er_subI ?_
  | with_reducible refine er_eqI ?_
  | with_reducible refine er_neI ?_
  | with_reducible refine er_eqNI ?_
  | with_reducible refine er_eqS ?_
  | with_reducible refine er_neS ?_
  | with_reducible refine er_eqB ?_
  | with_reducible refine er_neB ?_
  | with_reducible refine er_lt ?_
  | with_reducible refine er_le ?_
  | with_reducible refine er_gt ?_
  | with_reducible refine er_ge ?_
  | with_reducible refine er_isN_non ?_
  | with_reducible refine er_isN_bl ?_
  | with_reducible refine er_isN_int ?_
  | with_reducible refine er_isN_str ?_
  | with_reducible refine er_isN_ref ?_
  | with_reducible refine er_notN_non ?_
  | with_reducible refine er_notN_bl ?_
  | with_reducible refine er_notN_int ?_
  | with_reducible refine er_notN_str ?_
  | with_reducible refine er_notN_ref ?_
  | with_reducible refine er_isN ?_
  | with_reducible refine er_notN ?_
  | with_reducible refine ec_int ?_
  | with_reducible refine ec_intB ?_
  | with_reducible refine ec_max2 ?_
  | with_reducible refine ec_min2 ?_
  | with_reducible refine ip_I ?_
  | ((with_reducible refine eg_name ?_); (try dsimp only [L2.wipe, List.set_cons_zero, List.set_cons_succ]))
  | with_reducible refine eg_sub ?_
  | with_reducible refine egs_cons ?_
  | with_reducible refine egs_nil ?_
  | with_reducible refine tru_bl ?_
  | with_reducible refine tru_int ?_
  | with_reducible refine tru_non ?_
  | with_reducible refine iteT ?_
  | with_reducible refine iteF ?_
  | with_reducible refine ite_nt ?_
  | with_reducible refine ite_nf ?_
  | with_reducible refine ⟨_, rfl, ?_⟩)
local macro_rules | `(tactic| k_extra "s") => `(tactic| ((first | k_extra "x1" | ((with_reducible refine es_unf ?_); refine es_seq ?_)); (repeat k_extra "x1")))
local macro_rules | `(tactic| k_extra "x") => `(tactic| (repeat first | k_extra "x1" | ((with_reducible refine es_unf ?_); refine es_seq ?_)))
local macro_rules | `(tactic| k_extra "start") => `(tactic| dsimp only [L2.start, List.map_cons, List.map_nil, List.length_cons, List.length_nil, Nat.reduceAdd, Nat.reduceSub, List.replicate, List.cons_append, List.nil_append, Nat.zero_add])
local macro_rules | `(tactic| k_extra "e1") => `(tactic| first
  | with_reducible refine es_next ?_
  | ((with_reducible show Ee (tVar _) _ _ _); refine ee_var rfl ?_)
  | with_reducible refine ee_c ?_
  | with_reducible refine ee_op ?_
  | with_reducible refine ee_un ?_
  | with_reducible refine eu_neg ?_
  | with_reducible refine ee_cb ?_
  | with_reducible refine ee_call ?_
  | with_reducible refine ea_nil ?_
  | with_reducible refine ea_cons ?_
  | with_reducible refine ee_sl ?_
  | with_reducible refine eo_no ?_
  | with_reducible refine eo_part ?_
  | with_reducible refine ee_tup ?_
  | with_reducible refine ee_lst ?_
  | with_reducible refine et_test ?_
  | with_reducible refine et_tB ?_
  | with_reducible refine et_tru ?_
  | with_reducible refine et_and ?_
  | with_reducible refine et_or ?_
  | with_reducible refine et_not ?_
  | with_reducible refine ee_and ?_
  | with_reducible refine ee_or ?_
  | with_reducible refine ee_not ?_
  | with_reducible refine ee_if ?_
  | with_reducible refine ee_chain ?_
  | with_reducible refine er_addI ?_
  | with_reducible refine er_subI ?_
  | with_reducible refine er_eqI ?_
  | with_reducible refine er_neI ?_
  | with_reducible refine er_eqNI ?_
  | with_reducible refine er_eqS ?_
  | with_reducible refine er_neS ?_
  | with_reducible refine er_eqB ?_
  | with_reducible refine er_neB ?_
  | with_reducible refine er_lt ?_
  | with_reducible refine er_le ?_
  | with_reducible refine er_gt ?_
  | with_reducible refine er_ge ?_
  | with_reducible refine er_isN_non ?_
  | with_reducible refine er_isN_bl ?_
  | with_reducible refine er_isN_int ?_
  | with_reducible refine er_isN_str ?_
  | with_reducible refine er_isN_ref ?_
  | with_reducible refine er_notN_non ?_
  | with_reducible refine er_notN_bl ?_
  | with_reducible refine er_notN_int ?_
  | with_reducible refine er_notN_str ?_
  | with_reducible refine er_notN_ref ?_
  | with_reducible refine er_isN ?_
  | with_reducible refine er_notN ?_
  | with_reducible refine ec_int ?_
  | with_reducible refine ec_intB ?_
  | with_reducible refine ec_max2 ?_
  | with_reducible refine ec_min2 ?_
  | with_reducible refine ip_I ?_
  | ((with_reducible refine eg_name ?_); (try dsimp only [L2.wipe, List.set_cons_zero, List.set_cons_succ]))
  | with_reducible refine eg_sub ?_
  | with_reducible refine egs_cons ?_
  | with_reducible refine egs_nil ?_
  | with_reducible refine tru_bl ?_
  | with_reducible refine tru_int ?_
  | with_reducible refine tru_non ?_
  | with_reducible refine iteT ?_
  | with_reducible refine iteF ?_
  | with_reducible refine ite_nt ?_
  | with_reducible refine ite_nf ?_
  | with_reducible refine ex_bl ?_
  | with_reducible refine ex_int ?_
  | with_reducible refine ex_str ?_
  | with_reducible refine ex_strx ?_
  | with_reducible refine ex_ints1 ?_
  | with_reducible refine ex_ints2 ?_)
local macro_rules | `(tactic| k_extra "t1") => `(tactic| first
  | with_reducible refine es_asg ?_
  | with_reducible refine es_if ?_
  | with_reducible refine es_ret ?_
  | with_reducible refine es_drop ?_
  | with_reducible refine es_augS ?_
  | with_reducible refine es_fld ?_)
local macro_rules | `(tactic| k_extra "e") => `(tactic| first
  | ((with_reducible refine es_seq ?_); (try k_extra "t1"); (repeat k_extra "e1"))
  | (k_extra "t1"; (repeat k_extra "e1"))
  | (k_extra "e1"; (repeat k_extra "e1"))
  | ((with_reducible refine es_unf ?_); (refine es_seq ?_); (try k_extra "t1"); (repeat k_extra "e1")))
/-! ### what a change inserts -/
def trD (x : Mk × Option Mk × Nat) : PyData := .tuple [mP x.1, bP x.2.1, .str ⟨#[x.2.2]⟩]
theorem iz_mk {G : Hp} {p : Addr} {a b : Int} (h : G p = some (.tup [.int a, .int b])) : Iz G (.ref p) (mP (a, b)) := .tup h (.cons (.int _) (.cons (.int _) .nil))
def curB (k : Int) (bh : Option Mk) (n : Int) (i : Nat) : Option Mk := if i = 0 then bh else some (n + (i : Nat) - 1, k)
theorem ins_take {cs : List Nat} {k : Int} {bh : Option Mk} {n : Int} {i c : Nat} (h : cs[i]? = some c) : (ins k bh n cs).take (i + 1) = (ins k bh n cs).take i ++ [((n + (i : Nat), k), curB k bh n i, c)] := by
  rw [List.take_add_one, ins_spec cs k bh n i c h]; rfl
theorem curB_succ {k : Int} {bh : Option Mk} {n : Int} {i : Nat} : curB k bh n (i + 1) = some (n + (i : Nat), k) := by
  unfold curB
  rw [if_neg (by omega)]
  congr 2
  omega
theorem ins_all {k : Int} {bh : Option Mk} {n : Int} {t : Str} : (ins k bh n t.cps.toList).take t.cps.size = ins k bh n t.cps.toList := List.take_of_length_le (by rw [ins_len, Array.length_toList]; exact Nat.le_refl _)
def S_inserted (K : PySem.W.Frag) (A : Ad) : Pm := fun vs G Q _ => ∃ (k : Int) (v : V) (m : Str) (rm : List Mk) (bh : Option Mk) (n : Int) (t : Str), vs = [.int k, v] ∧ Iz G v (deD (.change m rm bh n t)) ∧ t.length ≤ 1000 ∧
  ∀ p acc G', Ex G G' → G p = none → G' p = some (.lst acc) → Izs G' acc ((ins k bh n t.cps.toList).map trD) → Q (.ref p) G'
/-! inserted -/
def t_inserted_1 (K : PySem.W.Frag) (A : Ad) : TS := tSeq (tDrop (tBM K "list" (rAppend) (tVar 2) (tCons (tTup (tCons (tVar 6) (tCons (tVar 3) (tCons (tVar 5) tNil)))) tNil))) (tAsg (tVar 6) (gName 3))
def t_inserted_2 (K : PySem.W.Frag) (A : Ad) : TS := tSeq (tAsg (tTup (tCons (tOp (rAddU K) (tOp (rIx K) (tVar 1) (tC (.int 4))) (tVar 4)) (tCons (tVar 0) tNil))) (gName 6)) (t_inserted_1 K A)
def t_inserted_3 (K : PySem.W.Frag) (A : Ad) : TS := tSeq (tFor (iEnumS (tCons (tOp (rIx K) (tVar 1) (tC (.int 5))) tNil)) (gTup K 2 (gCons (gName 4) (gCons (gName 5) gNil))) (t_inserted_2 K A)) (tRet (tVar 2))
def t_inserted_4 (K : PySem.W.Frag) (A : Ad) : TS := tSeq (tAsg (tOp (rIx K) (tVar 1) (tC (.int 3))) (gName 3)) (t_inserted_3 K A)
def t_inserted (K : PySem.W.Frag) (A : Ad) : TS := tSeq (tAsg (tLst tNil) (gName 2)) (t_inserted_4 K A)
theorem len_inserted {K : PySem.W.Frag} {A : Ad} : ∀ vs G Q E, S_inserted K A vs G Q E → vs.length = ["replica", "deed"].length := by
  rintro vs G Q E ⟨k, v, m, rm, bh, n, t, rfl, _⟩; rfl
theorem ok_inserted {K : PySem.W.Frag} {A : Ad} : ∀ vs G Q E, S_inserted K A vs G Q E → Es (t_inserted K A) { nx := fun _ G' => Q .non G', rt := Q } (L2.start ["replica", "deed", "result", "behind", "index", "character", "mark"] vs) G := by
  rintro vs G Q E ⟨k, v, m, rm, bh, n, t, rfl, hI, hl, q⟩
  change Es _ _ (_ :: _ :: _ :: _ :: _ :: _ :: _ :: []) _
  obtain ⟨a, vr, vb, rfl, ha, _, hb⟩ := de_chg hI
  k_extra "e"
  refine ⟨sz1000 (by simp), fun p hp => ?_⟩
  have e0 := Ex.new (o := .lst []) hp
  k_extra "e"
  k_extra "e"
  refine er_ixT (SqT.of (e0 _ _ ha)) (atI_nat (j := 3) rfl) ?_
  k_extra "e"
  k_extra "e"
  refine es_forEnS ?_
  k_extra "e"
  refine er_ixT (SqT.of (e0 _ _ ha)) (atI_nat (j := 5) rfl) ?_
  k_extra "e"
  refine ⟨t, rfl, fun i σ G' => ∃ c4 c5 c6 w acc, σ = [some (.int k), some (.ref a), some (.ref p), some w, c4, c5, c6] ∧ Ex G G' ∧ G' p = some (.lst acc) ∧ Izs G' acc (((ins k bh n t.cps.toList).take i).map trD) ∧ Iz G' w (bP (curB k bh n i)) ∧ i ≤ t.cps.size, ⟨_, _, _, _, [], rfl, e0, upd_same, .nil, e0.tz.iz hb, Nat.zero_le _⟩, ?_, ?_⟩
  · rintro i c σ G' T hc ⟨c4, c5, c6, w, acc, rfl, e1, h1, h2, h3, h4⟩ hT
    have hi : i < t.cps.size := (Array.getElem?_eq_some_iff.mp hc).1
    have hc' : t.cps.toList[i]? = some c := by rw [Array.getElem?_toList]; exact hc
    have la : acc.length = i := by
      have := izs_len h2
      rw [List.length_map, List.length_take, ins_len] at this
      have h5 : t.cps.toList.length = t.cps.size := Array.length_toList
      omega
    have eT := Ex.new (o := .tup [.int (i : Int), .str ⟨#[c]⟩]) hT
    generalize upd G' T (.tup [.int (i : Int), .str ⟨#[c]⟩]) = G2 at eT ⊢
    k_extra "e"
    k_extra "e"
    refine er_ixT (SqT.of (eT _ _ (e1 _ _ ha))) (atI_nat (j := 4) rfl) ?_
    k_extra "e"
    refine ⟨sz1000 (by simp), fun mp hmp => ?_⟩
    k_extra "e"
    have e2 := eT.trans (Ex.new (o := .tup [.int (n + (i : Int)), .int k]) hmp)
    have gm : upd G2 mp (.tup [.int (n + (i : Int)), .int k]) mp = some (.tup [.int (n + (i : Int)), .int k]) := upd_same
    generalize upd G2 mp (.tup [.int (n + (i : Int)), .int k]) = G3 at e2 gm ⊢
    k_extra "e"
    refine ee_bm ?_
    k_extra "e"
    refine ⟨ty_lst (e2 _ _ h1), ?_⟩
    k_extra "e"
    refine ⟨sz1000 (by simp), fun tp htp => ?_⟩
    have e3 := e2.trans (Ex.new (o := .tup [.ref mp, w, .str ⟨#[c]⟩]) htp)
    have gm3 := (Ex.new (o := .tup [.ref mp, w, .str ⟨#[c]⟩]) htp) _ _ gm
    have gt : upd G3 tp (.tup [.ref mp, w, .str ⟨#[c]⟩]) tp = some (.tup [.ref mp, w, .str ⟨#[c]⟩]) := upd_same
    generalize upd G3 tp (.tup [.ref mp, w, .str ⟨#[c]⟩]) = G4 at e3 gm3 gt ⊢
    k_extra "e"
    have hs : t.length = t.cps.size := rfl
    refine em_append (e3 _ _ h1) (szlt (by omega)) ?_
    k_extra "e"
    have tz := e3.tz.trans (Tz.mutL (o := .lst (acc ++ [.ref tp])) (e3 _ _ h1))
    have tm := Tz.mutL (o := .lst (acc ++ [.ref tp])) (e3 _ _ h1)
    refine ⟨_, _, _, _, _, rfl, (e1.trans e3).mut hp, upd_same, ?_, by rw [curB_succ]; exact tm.iz (iz_mk gm3), by omega⟩
    rw [ins_take hc', List.map_append]
    exact izs_app (tz.izs h2) (.cons (.tup (tm _ _ gt) (.cons (tm.iz (iz_mk gm3)) (.cons (tz.iz h3) (.cons (.str _) .nil)))) .nil)
  · rintro σ G' ⟨c4, c5, c6, w, acc, rfl, e1, h1, h2, h3, h4⟩
    rw [ins_all] at h2
    k_extra "e"
    exact q p acc G' e1 hp h1 h2
def S__law_inserted (K : PySem.W.Frag) (A : Ad) : Pm := S_inserted K A
/-! _law_inserted -/
def t__law_inserted_1 (K : PySem.W.Frag) (A : Ad) : TS := tSeq (tDrop (tBM K "list" (rAppend) (tVar 2) (tCons (tTup (tCons (tTup (tCons (tOp (rAddU K) (tOp (rIx K) (tVar 1) (tC (.int 4))) (tVar 4)) (tCons (tVar 0) tNil))) (tCons (tVar 3) (tCons (tOp (rIx K) (tOp (rIx K) (tVar 1) (tC (.int 5))) (tVar 4)) tNil)))) tNil))) (tAsg (tTup (tCons (tOp (rAddU K) (tOp (rIx K) (tVar 1) (tC (.int 4))) (tVar 4)) (tCons (tVar 0) tNil))) (gName 3))
def t__law_inserted_2 (K : PySem.W.Frag) (A : Ad) : TS := tSeq (tFor (iRng1 (tCons (tCB (rLenU K) (tCons (tOp (rIx K) (tVar 1) (tC (.int 5))) tNil)) tNil)) (gName 4) (t__law_inserted_1 K A)) (tRet (tVar 2))
def t__law_inserted_3 (K : PySem.W.Frag) (A : Ad) : TS := tSeq (tAsg (tOp (rIx K) (tVar 1) (tC (.int 3))) (gName 3)) (t__law_inserted_2 K A)
def t__law_inserted (K : PySem.W.Frag) (A : Ad) : TS := tSeq (tAsg (tLst tNil) (gName 2)) (t__law_inserted_3 K A)
theorem len__law_inserted {K : PySem.W.Frag} {A : Ad} : ∀ vs G Q E, S__law_inserted K A vs G Q E → vs.length = ["replica", "deed"].length := by
  rintro vs G Q E ⟨k, v, m, rm, bh, n, t, rfl, _⟩; rfl
theorem ok__law_inserted {K : PySem.W.Frag} {A : Ad} : ∀ vs G Q E, S__law_inserted K A vs G Q E → Es (t__law_inserted K A) { nx := fun _ G' => Q .non G', rt := Q } (L2.start ["replica", "deed", "found", "behind", "k"] vs) G := by
  rintro vs G Q E ⟨k, v, m, rm, bh, n, t, rfl, hI, hl, q⟩
  change Es _ _ (_ :: _ :: _ :: _ :: _ :: []) _
  obtain ⟨a, vr, vb, rfl, ha, _, hb⟩ := de_chg hI
  k_extra "e"
  refine ⟨sz1000 (by simp), fun p hp => ?_⟩
  have e0 := Ex.new (o := .lst []) hp
  k_extra "e"
  k_extra "e"
  refine er_ixT (SqT.of (e0 _ _ ha)) (atI_nat (j := 3) rfl) ?_
  k_extra "e"
  k_extra "e"
  refine es_forR1 ?_
  k_extra "e"
  refine er_ixT (SqT.of (e0 _ _ ha)) (atI_nat (j := 5) rfl) ?_
  k_extra "e"
  refine ec_lenS (sz1000 hl) ?_
  k_extra "e"
  have hs : t.length = t.cps.size := rfl
  refine ⟨by omega, fun i σ G' => ∃ c4 w acc, σ = [some (.int k), some (.ref a), some (.ref p), some w, c4] ∧ Ex G G' ∧ G' p = some (.lst acc) ∧ Izs G' acc (((ins k bh n t.cps.toList).take i).map trD) ∧ Iz G' w (bP (curB k bh n i)) ∧ i ≤ t.cps.size, ⟨_, _, [], rfl, e0, upd_same, .nil, e0.tz.iz hb, Nat.zero_le _⟩, ?_, ?_⟩
  · rintro i σ G' hi ⟨c4, w, acc, rfl, e1, h1, h2, h3, h4⟩
    have hi' : i < t.cps.size := by omega
    have hc' : t.cps.toList[i]? = some t.cps[i] := by rw [Array.getElem?_toList]; exact Array.getElem?_eq_getElem hi'
    generalize t.cps[i] = c at hc'
    have la : acc.length = i := by
      have := izs_len h2
      rw [List.length_map, List.length_take, ins_len] at this
      have h5 : t.cps.toList.length = t.cps.size := Array.length_toList
      omega
    k_extra "e"
    refine ee_bm ?_
    k_extra "e"
    refine ⟨ty_lst h1, ?_⟩
    k_extra "e"
    refine er_ixT (SqT.of (e1 _ _ ha)) (atI_nat (j := 4) rfl) ?_
    k_extra "e"
    refine ⟨sz1000 (by simp), fun mp hmp => ?_⟩
    have e2 := (Ex.new (o := .tup [.int (n + (i : Int)), .int k]) hmp)
    have gm : upd G' mp (.tup [.int (n + (i : Int)), .int k]) mp = some (.tup [.int (n + (i : Int)), .int k]) := upd_same
    generalize upd G' mp (.tup [.int (n + (i : Int)), .int k]) = G3 at e2 gm ⊢
    k_extra "e"
    refine er_ixT (SqT.of (e2 _ _ (e1 _ _ ha))) (atI_nat (j := 5) rfl) ?_
    k_extra "e"
    refine er_ixS (sz1000 hl) (atI_nat hc') ?_
    k_extra "e"
    refine ⟨sz1000 (by simp), fun tp htp => ?_⟩
    have e3 := e2.trans (Ex.new (o := .tup [.ref mp, w, .str ⟨#[c]⟩]) htp)
    have gm3 := (Ex.new (o := .tup [.ref mp, w, .str ⟨#[c]⟩]) htp) _ _ gm
    have gt : upd G3 tp (.tup [.ref mp, w, .str ⟨#[c]⟩]) tp = some (.tup [.ref mp, w, .str ⟨#[c]⟩]) := upd_same
    generalize upd G3 tp (.tup [.ref mp, w, .str ⟨#[c]⟩]) = G4 at e3 gm3 gt ⊢
    k_extra "e"
    refine em_append (e3 _ _ h1) (szlt (by omega)) ?_
    have tz := e3.tz.trans (Tz.mutL (o := .lst (acc ++ [.ref tp])) (e3 _ _ h1))
    have tm := Tz.mutL (o := .lst (acc ++ [.ref tp])) (e3 _ _ h1)
    have e4 := (e1.trans e3).mut (o := .lst (acc ++ [.ref tp])) hp
    have g5 : upd G4 p (.lst (acc ++ [.ref tp])) p = some (.lst (acc ++ [.ref tp])) := upd_same
    have I5 : Izs (upd G4 p (.lst (acc ++ [.ref tp]))) (acc ++ [.ref tp]) (((ins k bh n t.cps.toList).take (i + 1)).map trD) := by
      rw [ins_take hc', List.map_append]
      exact izs_app (tz.izs h2) (.cons (.tup (tm _ _ gt) (.cons (tm.iz (iz_mk gm3)) (.cons (tz.iz h3) (.cons (.str _) .nil)))) .nil)
    generalize upd G4 p (.lst (acc ++ [.ref tp])) = G5 at e4 g5 I5 ⊢
    k_extra "e"
    refine er_ixT (SqT.of (e4 _ _ ha)) (atI_nat (j := 4) rfl) ?_
    k_extra "e"
    refine ⟨sz1000 (by simp), fun mq hmq => ?_⟩
    have e6 := Ex.new (o := .tup [.int (n + (i : Int)), .int k]) hmq
    k_extra "e"
    exact ⟨_, _, _, rfl, e4.trans e6, e6 _ _ g5, e6.tz.izs I5, by rw [curB_succ]; exact iz_mk upd_same, by omega⟩
  · rintro σ G' ⟨c4, w, acc, rfl, e1, h1, h2, h3, h4⟩
    rw [show ((t.length : Nat) : Int).toNat = t.cps.size by rw [hs]; omega, ins_all] at h2
    k_extra "e"
    exact q p acc G' e1 hp h1 h2
end Lw

namespace Lw
open PySem PySem.Spec PyProof.Rows L2
local macro_rules | `(tactic| k_extra "x1") => `(tactic| first
  | with_reducible refine es_seq ?_
  | with_reducible refine es_asg ?_
  | with_reducible refine es_if ?_
  | with_reducible refine es_ret ?_
  | with_reducible refine es_drop ?_
  | with_reducible refine es_next ?_
  | with_reducible refine es_augS ?_
  | with_reducible refine es_fld ?_
  | ((with_reducible show Ee (tVar _) _ _ _); refine ee_var rfl ?_)
  | with_reducible refine ee_c ?_
  | with_reducible refine ee_op ?_
  | with_reducible refine ee_un ?_
  | with_reducible refine eu_neg ?_
  | with_reducible refine ee_cb ?_
  | with_reducible refine ee_call ?_
  | with_reducible refine ea_nil ?_
  | with_reducible refine ea_cons ?_
  | with_reducible refine ee_sl ?_
  | with_reducible refine eo_no ?_
  | with_reducible refine eo_part ?_
  | with_reducible refine ee_tup ?_
  | with_reducible refine ee_lst ?_
  | with_reducible refine et_test ?_
  | with_reducible refine et_tB ?_
  | with_reducible refine et_tru ?_
  | with_reducible refine et_and ?_
  | with_reducible refine et_or ?_
  | with_reducible refine et_not ?_
  | with_reducible refine ee_and ?_
  | with_reducible refine ee_or ?_
  | with_reducible refine ee_not ?_
  | with_reducible refine ee_if ?_
  | with_reducible refine ee_chain ?_
  | with_reducible refine er_addI ?_
  | with_reducible refine er_subI ?_
  | with_reducible refine er_eqI ?_
  | with_reducible refine er_neI ?_
  | with_reducible refine er_eqNI ?_
  | with_reducible refine er_eqS ?_
  | with_reducible refine er_neS ?_
  | with_reducible refine er_eqB ?_
  | with_reducible refine er_neB ?_
  | with_reducible refine er_lt ?_
  | with_reducible refine er_le ?_
  | with_reducible refine er_gt ?_
  | with_reducible refine er_ge ?_
  | with_reducible refine er_isN_non ?_
  | with_reducible refine er_isN_bl ?_
  | with_reducible refine er_isN_int ?_
  | with_reducible refine er_isN_str ?_
  | with_reducible refine er_isN_ref ?_
  | with_reducible refine er_notN_non ?_
  | with_reducible refine er_notN_bl ?_
  | with_reducible refine er_notN_int ?_
  | with_reducible refine er_notN_str ?_
  | with_reducible refine er_notN_ref ?_
  | with_reducible refine er_isN ?_
  | with_reducible refine er_notN ?_
  | with_reducible refine ec_int ?_
  | with_reducible refine ec_intB ?_
  | with_reducible refine ec_max2 ?_
  | with_reducible refine ec_min2 ?_
  | with_reducible refine ip_I ?_
  | ((with_reducible refine eg_name ?_); (try dsimp only [L2.wipe, List.set_cons_zero, List.set_cons_succ]))
  | with_reducible refine eg_sub ?_
  | with_reducible refine egs_cons ?_
  | with_reducible refine egs_nil ?_
  | with_reducible refine tru_bl ?_
  | with_reducible refine tru_int ?_
  | with_reducible refine tru_non ?_
  | with_reducible refine iteT ?_
  | with_reducible refine iteF ?_
  | with_reducible refine ite_nt ?_
  | with_reducible refine ite_nf ?_
  | with_reducible refine ⟨_, rfl, ?_⟩)
local macro_rules | `(tactic| k_extra "s") => `(tactic| ((first | k_extra "x1" | ((with_reducible refine es_unf ?_); refine es_seq ?_)); (repeat k_extra "x1")))
local macro_rules | `(tactic| k_extra "x") => `(tactic| (repeat first | k_extra "x1" | ((with_reducible refine es_unf ?_); refine es_seq ?_)))
local macro_rules | `(tactic| k_extra "start") => `(tactic| dsimp only [L2.start, List.map_cons, List.map_nil, List.length_cons, List.length_nil, Nat.reduceAdd, Nat.reduceSub, List.replicate, List.cons_append, List.nil_append, Nat.zero_add])
local macro_rules | `(tactic| k_extra "e1") => `(tactic| first
  | with_reducible refine es_next ?_
  | ((with_reducible show Ee (tVar _) _ _ _); refine ee_var rfl ?_)
  | with_reducible refine ee_c ?_
  | with_reducible refine ee_op ?_
  | with_reducible refine ee_un ?_
  | with_reducible refine eu_neg ?_
  | with_reducible refine ee_cb ?_
  | with_reducible refine ee_call ?_
  | with_reducible refine ea_nil ?_
  | with_reducible refine ea_cons ?_
  | with_reducible refine ee_sl ?_
  | with_reducible refine eo_no ?_
  | with_reducible refine eo_part ?_
  | with_reducible refine ee_tup ?_
  | with_reducible refine ee_lst ?_
  | with_reducible refine et_test ?_
  | with_reducible refine et_tB ?_
  | with_reducible refine et_tru ?_
  | with_reducible refine et_and ?_
  | with_reducible refine et_or ?_
  | with_reducible refine et_not ?_
  | with_reducible refine ee_and ?_
  | with_reducible refine ee_or ?_
  | with_reducible refine ee_not ?_
  | with_reducible refine ee_if ?_
  | with_reducible refine ee_chain ?_
  | with_reducible refine er_addI ?_
  | with_reducible refine er_subI ?_
  | with_reducible refine er_eqI ?_
  | with_reducible refine er_neI ?_
  | with_reducible refine er_eqNI ?_
  | with_reducible refine er_eqS ?_
  | with_reducible refine er_neS ?_
  | with_reducible refine er_eqB ?_
  | with_reducible refine er_neB ?_
  | with_reducible refine er_lt ?_
  | with_reducible refine er_le ?_
  | with_reducible refine er_gt ?_
  | with_reducible refine er_ge ?_
  | with_reducible refine er_isN_non ?_
  | with_reducible refine er_isN_bl ?_
  | with_reducible refine er_isN_int ?_
  | with_reducible refine er_isN_str ?_
  | with_reducible refine er_isN_ref ?_
  | with_reducible refine er_notN_non ?_
  | with_reducible refine er_notN_bl ?_
  | with_reducible refine er_notN_int ?_
  | with_reducible refine er_notN_str ?_
  | with_reducible refine er_notN_ref ?_
  | with_reducible refine er_isN ?_
  | with_reducible refine er_notN ?_
  | with_reducible refine ec_int ?_
  | with_reducible refine ec_intB ?_
  | with_reducible refine ec_max2 ?_
  | with_reducible refine ec_min2 ?_
  | with_reducible refine ip_I ?_
  | ((with_reducible refine eg_name ?_); (try dsimp only [L2.wipe, List.set_cons_zero, List.set_cons_succ]))
  | with_reducible refine eg_sub ?_
  | with_reducible refine egs_cons ?_
  | with_reducible refine egs_nil ?_
  | with_reducible refine tru_bl ?_
  | with_reducible refine tru_int ?_
  | with_reducible refine tru_non ?_
  | with_reducible refine iteT ?_
  | with_reducible refine iteF ?_
  | with_reducible refine ite_nt ?_
  | with_reducible refine ite_nf ?_
  | with_reducible refine ex_bl ?_
  | with_reducible refine ex_int ?_
  | with_reducible refine ex_str ?_
  | with_reducible refine ex_strx ?_
  | with_reducible refine ex_ints1 ?_
  | with_reducible refine ex_ints2 ?_)
local macro_rules | `(tactic| k_extra "t1") => `(tactic| first
  | with_reducible refine es_asg ?_
  | with_reducible refine es_if ?_
  | with_reducible refine es_ret ?_
  | with_reducible refine es_drop ?_
  | with_reducible refine es_augS ?_
  | with_reducible refine es_fld ?_)
local macro_rules | `(tactic| k_extra "e") => `(tactic| first
  | ((with_reducible refine es_seq ?_); (try k_extra "t1"); (repeat k_extra "e1"))
  | (k_extra "t1"; (repeat k_extra "e1"))
  | (k_extra "e1"; (repeat k_extra "e1"))
  | ((with_reducible refine es_unf ?_); (refine es_seq ?_); (try k_extra "t1"); (repeat k_extra "e1")))
/-! ### the changes of a module -/
def chD (x : Int × De × Bool) : PyData := .tuple [.int x.1, deD x.2.1, .bool x.2.2]
def chgTo (rows : List (List De)) (m : Str) (k : Nat) : List (Int × De × Bool) := (List.range k).flatMap fun (j : Nat) => chgR (j : Int) (rows.getD j []) m
theorem chgTo_succ (rows : List (List De)) (m : Str) (k : Nat) : chgTo rows m (k + 1) = chgTo rows m k ++ chgR (k : Int) (rows.getD k []) m := by
  unfold chgTo; rw [List.range_succ, List.flatMap_append]; simp
def part (k : Int) (row : List De) (m : Str) (i : Nat) : List (Int × De × Bool) := (((row.zip (frc row 1)).take i).filter fun x => isCh m x.1).map fun x => (k, x.1, x.2)
theorem part_all (k : Int) (row : List De) (m : Str) {i : Nat} (h : row.length ≤ i) : part k row m i = chgR k row m := by
  unfold part chgR
  rw [List.take_of_length_le (by rw [List.length_zip, frc_len]; omega)]
theorem part_succ {k : Int} {row : List De} {m : Str} {i : Nat} {d : De} {f : Bool} (hd : row[i]? = some d) (hf : (frc row 1)[i]? = some f) : part k row m (i + 1) = part k row m i ++ (if isCh m d = true then [(k, d, f)] else []) := by
  unfold part
  have : (row.zip (frc row 1))[i]? = some (d, f) := by rw [List.getElem?_zip_eq_some]; exact ⟨hd, hf⟩
  rw [List.take_add_one, this, List.filter_append, List.map_append]
  congr 1
  by_cases h : isCh m d = true
  · rw [if_pos h]; simp [h]
  · rw [if_neg h]; simp [h]
theorem part_len (k : Int) (row : List De) (m : Str) (i : Nat) : (part k row m i).length ≤ i := by
  unfold part
  rw [List.length_map]
  exact Nat.le_trans (List.length_filter_le _ _) (by rw [List.length_take]; omega)
theorem getD_some {α : Type} {l : List (List α)} {k : Nat} {x : List α} (h : l[k]? = some x) : l.getD k [] = x := by
  rw [List.getD_eq_getElem?_getD, h]; rfl
theorem chgTo_len {B : Int} {rows : List (List De)} (w : Wf B rows) (m : Str) : ∀ k, (chgTo rows m k).length ≤ 100 * k
  | 0 => by simp [chgTo]
  | k + 1 => by
    rw [chgTo_succ, List.length_append]
    have := chgTo_len w m k
    have := chgR_len (k : Int) (rows.getD k []) m
    have := w.sm k
    omega
theorem Wf.row {B : Int} {rows : List (List De)} (w : Wf B rows) {k : Nat} (h : k < 8) : ∃ row, rows[k]? = some row ∧ row.length ≤ 100 ∧ (∀ d ∈ row, DeOk B d) := by
  have hk : k < rows.length := by rw [w.len]; exact h
  have e := List.getElem?_eq_getElem hk
  refine ⟨_, e, ?_, ?_⟩
  · have := w.sm k; rwa [getD_some e] at this
  · have := w.ok k; rwa [getD_some e] at this
def S_Deeds_changes (K : PySem.W.Frag) (A : Ad) : Pm := fun vs G Q _ => ∃ (a : Addr) (m : Str) (vss : List (List V)) (rows : List (List De)) (B : Int), vs = [.ref a, .str m] ∧ DsAt A G a vss ∧ Rz G vss rows ∧ Wf B rows ∧
  ∀ p acc G', Ex G G' → G p = none → G' p = some (.lst acc) → Izs G' acc ((chg rows m).map chD) → Q (.ref p) G'
/-! Deeds.changes -/
def t_Deeds_changes_1 (K : PySem.W.Frag) (A : Ad) : TS := tSeq (tFor (iRng1 (tCons (tC (.int 8)) tNil)) (gName 3) (tFor (iZip K (tCons (tOp (rIx K) (tFld K (tVar 0) "rows") (tVar 3)) (tCons (tMeth A.cDeeds "forces" (up (S_Deeds_forces K A)) [] E0 (tVar 0) (tCons (tVar 3) tNil)) tNil))) (gTup K 2 (gCons (gName 4) (gCons (gName 5) gNil))) (tIfS (tAnd (tTest (tOp (rEqU K) (tOp (rIx K) (tVar 4) (tC (.int 0))) (tC (.str "change")))) (tTest (tOp (rEqU K) (tOp (rIx K) (tVar 4) (tC (.int 1))) (tVar 1)))) (tDrop (tBM K "list" (rAppend) (tVar 2) (tCons (tTup (tCons (tVar 3) (tCons (tVar 4) (tCons (tVar 5) tNil)))) tNil))) tNext))) (tRet (tVar 2))
def t_Deeds_changes (K : PySem.W.Frag) (A : Ad) : TS := tSeq (tAsg (tLst tNil) (gName 2)) (t_Deeds_changes_1 K A)
theorem len_Deeds_changes {K : PySem.W.Frag} {A : Ad} : ∀ vs G Q E, S_Deeds_changes K A vs G Q E → vs.length = ["self", "module"].length := by
  rintro vs G Q E ⟨a, m, vss, rows, B, rfl, _⟩; rfl
/-- is it a change of the module: the two tests -/
theorem ch_word {m : Str} {d : De} : isCh m d = (match d with | .back _ => false | .change m' .. => decide (m' = m)) := by cases d <;> rfl
theorem ok_Deeds_changes {K : PySem.W.Frag} {A : Ad} (C : Cf K A) : ∀ vs G Q E, S_Deeds_changes K A vs G Q E → Es (t_Deeds_changes K A) { nx := fun _ G' => Q .non G', rt := Q } (L2.start ["self", "module", "result", "replica", "deed", "in_force"] vs) G := by
  rintro vs G Q E ⟨a, m, vss, rows, B, rfl, hD, hz, w, q⟩
  have hD' := hD
  obtain ⟨dx, pr, ha, hra⟩ := hD'
  change Es _ _ (_ :: _ :: _ :: _ :: _ :: _ :: []) _
  k_extra "e"
  refine ⟨sz1000 (by simp), fun p hp => ?_⟩
  k_extra "e"
  k_extra "e"
  refine es_forR1 ?_
  k_extra "e"
  refine ⟨by omega, fun k σ G' => ∃ c3 c4 c5 acc, σ = [some (.ref a), some (.str m), some (.ref p), c3, c4, c5] ∧ Ex G G' ∧ G' p = some (.lst acc) ∧ Izs G' acc ((chgTo rows m k).map chD), ⟨_, _, _, [], rfl, Ex.new hp, upd_same, .nil⟩, ?_, ?_⟩
  · rintro k σ G' hk ⟨c3, c4, c5, acc, rfl, e1, h1, h2⟩
    obtain ⟨row, hrow, hlen, hok⟩ := w.row (k := k) (by omega)
    obtain ⟨xs, r, gp, gx, ⟨rvs, hr, hI⟩, _⟩ := hra.get hz hrow
    have hl : rvs.length = row.length := by have := izs_len hI; rwa [List.length_map] at this
    have la := izs_len h2
    rw [List.length_map] at la
    have la2 := chgTo_len w m k
    refine es_forZ ?_
    k_extra "e"
    refine ee_fld ?_
    k_extra "e"
    refine ⟨a, A.cDeeds, dx, _, _, rfl, e1 _ _ ha, C.cl, C.n1, rfl, ?_⟩
    k_extra "e"
    refine er_ixL (SqL.of (e1 _ _ gp)) (atI_nat gx) ?_
    k_extra "e"
    refine ee_meth ?_
    k_extra "e"
    refine ⟨a, dx, _, rfl, e1 _ _ ha, rfl, ?_⟩
    k_extra "e"
    refine ⟨a, vss, rows, k, row, rfl, hD.ex e1, hz.tz e1.tz, hrow, by omega, fun pf G2 e2 nf hf => ?_⟩
    k_extra "e"
    refine ⟨r, pf, rvs, _, rfl, SqL.of (e2 _ _ (e1 _ _ hr)), SqL.of hf, fun i σ G3 => ∃ c4 c5 acc, σ = [some (.ref a), some (.str m), some (.ref p), some (.int (k : Int)), c4, c5] ∧ Ex G G3 ∧ G3 pf = some (.lst ((frc row 1).map V.bl)) ∧ G3 p = some (.lst acc) ∧ Izs G3 acc ((chgTo rows m k ++ part (k : Int) row m i).map chD) ∧ i ≤ row.length ∧ p ≠ pf, ⟨_, _, acc, rfl, e1.trans e2, hf, e2 _ _ h1, ?_, Nat.zero_le _, ?_⟩, ?_, ?_, ?_⟩
    · have : part (k : Int) row m 0 = [] := rfl
      rw [this, List.append_nil]; exact e2.tz.izs h2
    · intro z; subst z
      rw [nf] at h1; cases h1
    · rintro i σ G3 ⟨c4, c5, acc, rfl, x1, x2, x3, x4, x5, x6⟩
      exact ⟨SqL.of (x1 _ _ hr), SqL.of x2⟩
    · rintro i x y σ G3 T hx hy ⟨c4, c5, acc, rfl, x1, x2, x3, x4, x5, x6⟩ hT
      have hi : i < row.length := by rw [← hl]; exact (List.getElem?_eq_some_iff.mp hx).1
      have hfi : i < (frc row 1).length := by rw [frc_len]; exact hi
      rw [List.getElem?_map, List.getElem?_eq_getElem hfi] at hy
      obtain rfl := (Option.some.inj hy).symm
      have hdr : row[i]? = some row[i] := List.getElem?_eq_getElem hi
      obtain ⟨x', hx', ix⟩ := izs_get hI (show (row.map deD)[i]? = some (deD row[i]) by rw [List.getElem?_map, hdr]; rfl)
      rw [hx] at hx'; cases hx'
      have eT := Ex.new (o := .tup [x, .bl (frc row 1)[i]]) hT
      have la3 := izs_len x4
      rw [List.length_map, List.length_append] at la3
      have la4 := part_len (k : Int) row m i
      have tz3 := x1.tz.trans eT.tz
      have hps := part_succ (k := (k : Int)) (m := m) hdr (List.getElem?_eq_getElem hfi)
      k_extra "e"
      obtain ⟨t, ys, rfl, ht2, hw⟩ := de_word ix
      k_extra "e"
      refine er_ixT (SqT.of (tz3 _ _ ht2)) (atI_nat hw) ?_
      k_extra "e"
      cases hdd : row[i] with
      | back n =>
        rw [hdd] at hps
        refine ifd (fun z => absurd z (by simp only [wordOf]; decide)) (fun _ => ?_)
        k_extra "e"
        refine ⟨_, _, acc, rfl, x1.trans eT, eT _ _ x2, eT _ _ x3, ?_, by omega, x6⟩
        rw [hps, if_neg (by simp [isCh]), List.append_nil]; exact eT.tz.izs x4
      | change m' rm bh n t' =>
        rw [hdd] at hps ix
        refine ifd (fun _ => ?_) (fun z => absurd rfl z)
        obtain ⟨t2, vr, vb, e', h1', _, _⟩ := de_chg ix
        cases e'
        k_extra "e"
        refine er_ixT (SqT.of (tz3 _ _ h1')) (atI_nat (j := 1) rfl) ?_
        k_extra "e"
        refine ifd (fun hm => ?_) (fun hm => ?_)
        · subst hm
          k_extra "e"
          refine ee_bm ?_
          k_extra "e"
          refine ⟨ty_lst (eT _ _ x3), ?_⟩
          k_extra "e"
          refine ⟨sz1000 (by simp), fun tp htp => ?_⟩
          have e5 := eT.trans (Ex.new (o := .tup [.int (k : Int), .ref t, .bl (frc row 1)[i]]) htp)
          k_extra "e"
          refine em_append (e5 _ _ x3) (szlt (by omega)) ?_
          have tm := Tz.mutL (o := .lst (acc ++ [.ref tp])) (e5 _ _ x3)
          refine ⟨_, _, acc ++ [.ref tp], rfl, (x1.trans e5).mut hp, by rw [upd_ne x6.symm]; exact e5 _ _ x2, upd_same, ?_, by omega, x6⟩
          rw [hps, if_pos (by simp [isCh]), ← List.append_assoc, List.map_append]
          refine izs_app ((e5.tz.trans tm).izs x4) (.cons (.tup (tm _ _ upd_same) (.cons (.int _) (.cons ?_ (.cons (.bl _) .nil)))) .nil)
          exact ((x1.trans e5).tz.trans tm).iz ix
        · k_extra "e"
          refine ⟨_, _, acc, rfl, x1.trans eT, eT _ _ x2, eT _ _ x3, ?_, by omega, x6⟩
          rw [hps, if_neg (by simpa [isCh] using hm), List.append_nil]; exact eT.tz.izs x4
    · rintro σ G3 ⟨c4, c5, acc, rfl, x1, x2, x3, x4, x5, x6⟩
      refine ⟨_, _, _, acc, rfl, x1, x3, ?_⟩
      rw [part_all _ _ _ (by rw [List.length_map, frc_len, hl]; omega)] at x4
      rw [chgTo_succ, getD_some hrow]; exact x4
  · rintro σ G' ⟨c3, c4, c5, acc, rfl, e1, h1, h2⟩
    k_extra "e"
    exact q p acc G' e1 hp h1 h2
end Lw

namespace Lw
open PySem PySem.Spec PyProof.Rows L2
local macro_rules | `(tactic| k_extra "x1") => `(tactic| first
  | with_reducible refine es_seq ?_
  | with_reducible refine es_asg ?_
  | with_reducible refine es_if ?_
  | with_reducible refine es_ret ?_
  | with_reducible refine es_drop ?_
  | with_reducible refine es_next ?_
  | with_reducible refine es_augS ?_
  | with_reducible refine es_fld ?_
  | ((with_reducible show Ee (tVar _) _ _ _); refine ee_var rfl ?_)
  | with_reducible refine ee_c ?_
  | with_reducible refine ee_op ?_
  | with_reducible refine ee_un ?_
  | with_reducible refine eu_neg ?_
  | with_reducible refine ee_cb ?_
  | with_reducible refine ee_call ?_
  | with_reducible refine ea_nil ?_
  | with_reducible refine ea_cons ?_
  | with_reducible refine ee_sl ?_
  | with_reducible refine eo_no ?_
  | with_reducible refine eo_part ?_
  | with_reducible refine ee_tup ?_
  | with_reducible refine ee_lst ?_
  | with_reducible refine et_test ?_
  | with_reducible refine et_tB ?_
  | with_reducible refine et_tru ?_
  | with_reducible refine et_and ?_
  | with_reducible refine et_or ?_
  | with_reducible refine et_not ?_
  | with_reducible refine ee_and ?_
  | with_reducible refine ee_or ?_
  | with_reducible refine ee_not ?_
  | with_reducible refine ee_if ?_
  | with_reducible refine ee_chain ?_
  | with_reducible refine er_addI ?_
  | with_reducible refine er_subI ?_
  | with_reducible refine er_eqI ?_
  | with_reducible refine er_neI ?_
  | with_reducible refine er_eqNI ?_
  | with_reducible refine er_eqS ?_
  | with_reducible refine er_neS ?_
  | with_reducible refine er_eqB ?_
  | with_reducible refine er_neB ?_
  | with_reducible refine er_lt ?_
  | with_reducible refine er_le ?_
  | with_reducible refine er_gt ?_
  | with_reducible refine er_ge ?_
  | with_reducible refine er_isN_non ?_
  | with_reducible refine er_isN_bl ?_
  | with_reducible refine er_isN_int ?_
  | with_reducible refine er_isN_str ?_
  | with_reducible refine er_isN_ref ?_
  | with_reducible refine er_notN_non ?_
  | with_reducible refine er_notN_bl ?_
  | with_reducible refine er_notN_int ?_
  | with_reducible refine er_notN_str ?_
  | with_reducible refine er_notN_ref ?_
  | with_reducible refine er_isN ?_
  | with_reducible refine er_notN ?_
  | with_reducible refine ec_int ?_
  | with_reducible refine ec_intB ?_
  | with_reducible refine ec_max2 ?_
  | with_reducible refine ec_min2 ?_
  | with_reducible refine ip_I ?_
  | ((with_reducible refine eg_name ?_); (try dsimp only [L2.wipe, List.set_cons_zero, List.set_cons_succ]))
  | with_reducible refine eg_sub ?_
  | with_reducible refine egs_cons ?_
  | with_reducible refine egs_nil ?_
  | with_reducible refine tru_bl ?_
  | with_reducible refine tru_int ?_
  | with_reducible refine tru_non ?_
  | with_reducible refine iteT ?_
  | with_reducible refine iteF ?_
  | with_reducible refine ite_nt ?_
  | with_reducible refine ite_nf ?_
  | with_reducible refine ⟨_, rfl, ?_⟩)
local macro_rules | `(tactic| k_extra "s") => `(tactic| ((first | k_extra "x1" | ((with_reducible refine es_unf ?_); refine es_seq ?_)); (repeat k_extra "x1")))
local macro_rules | `(tactic| k_extra "x") => `(tactic| (repeat first | k_extra "x1" | ((with_reducible refine es_unf ?_); refine es_seq ?_)))
local macro_rules | `(tactic| k_extra "start") => `(tactic| dsimp only [L2.start, List.map_cons, List.map_nil, List.length_cons, List.length_nil, Nat.reduceAdd, Nat.reduceSub, List.replicate, List.cons_append, List.nil_append, Nat.zero_add])
local macro_rules | `(tactic| k_extra "e1") => `(tactic| first
  | with_reducible refine es_next ?_
  | ((with_reducible show Ee (tVar _) _ _ _); refine ee_var rfl ?_)
  | with_reducible refine ee_c ?_
  | with_reducible refine ee_op ?_
  | with_reducible refine ee_un ?_
  | with_reducible refine eu_neg ?_
  | with_reducible refine ee_cb ?_
  | with_reducible refine ee_call ?_
  | with_reducible refine ea_nil ?_
  | with_reducible refine ea_cons ?_
  | with_reducible refine ee_sl ?_
  | with_reducible refine eo_no ?_
  | with_reducible refine eo_part ?_
  | with_reducible refine ee_tup ?_
  | with_reducible refine ee_lst ?_
  | with_reducible refine et_test ?_
  | with_reducible refine et_tB ?_
  | with_reducible refine et_tru ?_
  | with_reducible refine et_and ?_
  | with_reducible refine et_or ?_
  | with_reducible refine et_not ?_
  | with_reducible refine ee_and ?_
  | with_reducible refine ee_or ?_
  | with_reducible refine ee_not ?_
  | with_reducible refine ee_if ?_
  | with_reducible refine ee_chain ?_
  | with_reducible refine er_addI ?_
  | with_reducible refine er_subI ?_
  | with_reducible refine er_eqI ?_
  | with_reducible refine er_neI ?_
  | with_reducible refine er_eqNI ?_
  | with_reducible refine er_eqS ?_
  | with_reducible refine er_neS ?_
  | with_reducible refine er_eqB ?_
  | with_reducible refine er_neB ?_
  | with_reducible refine er_lt ?_
  | with_reducible refine er_le ?_
  | with_reducible refine er_gt ?_
  | with_reducible refine er_ge ?_
  | with_reducible refine er_isN_non ?_
  | with_reducible refine er_isN_bl ?_
  | with_reducible refine er_isN_int ?_
  | with_reducible refine er_isN_str ?_
  | with_reducible refine er_isN_ref ?_
  | with_reducible refine er_notN_non ?_
  | with_reducible refine er_notN_bl ?_
  | with_reducible refine er_notN_int ?_
  | with_reducible refine er_notN_str ?_
  | with_reducible refine er_notN_ref ?_
  | with_reducible refine er_isN ?_
  | with_reducible refine er_notN ?_
  | with_reducible refine ec_int ?_
  | with_reducible refine ec_intB ?_
  | with_reducible refine ec_max2 ?_
  | with_reducible refine ec_min2 ?_
  | with_reducible refine ip_I ?_
  | ((with_reducible refine eg_name ?_); (try dsimp only [L2.wipe, List.set_cons_zero, List.set_cons_succ]))
  | with_reducible refine eg_sub ?_
  | with_reducible refine egs_cons ?_
  | with_reducible refine egs_nil ?_
  | with_reducible refine tru_bl ?_
  | with_reducible refine tru_int ?_
  | with_reducible refine tru_non ?_
  | with_reducible refine iteT ?_
  | with_reducible refine iteF ?_
  | with_reducible refine ite_nt ?_
  | with_reducible refine ite_nf ?_
  | with_reducible refine ex_bl ?_
  | with_reducible refine ex_int ?_
  | with_reducible refine ex_str ?_
  | with_reducible refine ex_strx ?_
  | with_reducible refine ex_ints1 ?_
  | with_reducible refine ex_ints2 ?_)
local macro_rules | `(tactic| k_extra "t1") => `(tactic| first
  | with_reducible refine es_asg ?_
  | with_reducible refine es_if ?_
  | with_reducible refine es_ret ?_
  | with_reducible refine es_drop ?_
  | with_reducible refine es_augS ?_
  | with_reducible refine es_fld ?_)
local macro_rules | `(tactic| k_extra "e") => `(tactic| first
  | ((with_reducible refine es_seq ?_); (try k_extra "t1"); (repeat k_extra "e1"))
  | (k_extra "t1"; (repeat k_extra "e1"))
  | (k_extra "e1"; (repeat k_extra "e1"))
  | ((with_reducible refine es_unf ?_); (refine es_seq ?_); (try k_extra "t1"); (repeat k_extra "e1")))
def S__law_changes (K : PySem.W.Frag) (A : Ad) : Pm := fun vs G Q _ => ∃ (pr : Addr) (m : Str) (vss : List (List V)) (rows : List (List De)) (B : Int), vs = [.ref pr, .str m] ∧ RowsAt G pr vss ∧ Rz G vss rows ∧ Wf B rows ∧
  ∀ p acc G', Ex G G' → G p = none → G' p = some (.lst acc) → Izs G' acc ((chg rows m).map chD) → Q (.ref p) G'
/-! _law_changes -/
def t__law_changes_1 (K : PySem.W.Frag) (A : Ad) : TS := tSeq (tAsg (tCall (up (S__law_forces K A)) [] E0 (tCons (tOp (rIx K) (tVar 0) (tVar 3)) tNil)) (gName 4)) (tFor (iRng1 (tCons (tCB (rLenU K) (tCons (tOp (rIx K) (tVar 0) (tVar 3)) tNil)) tNil)) (gName 5) (tIfS (tAnd (tTest (tOp (rEqU K) (tOp (rIx K) (tOp (rIx K) (tOp (rIx K) (tVar 0) (tVar 3)) (tVar 5)) (tC (.int 0))) (tC (.str "change")))) (tTest (tOp (rEqU K) (tOp (rIx K) (tOp (rIx K) (tOp (rIx K) (tVar 0) (tVar 3)) (tVar 5)) (tC (.int 1))) (tVar 1)))) (tDrop (tBM K "list" (rAppend) (tVar 2) (tCons (tTup (tCons (tVar 3) (tCons (tOp (rIx K) (tOp (rIx K) (tVar 0) (tVar 3)) (tVar 5)) (tCons (tOp (rIx K) (tVar 4) (tVar 5)) tNil)))) tNil))) tNext))
def t__law_changes_2 (K : PySem.W.Frag) (A : Ad) : TS := tSeq (tFor (iRng1 (tCons (tC (.int 8)) tNil)) (gName 3) (t__law_changes_1 K A)) (tRet (tVar 2))
def t__law_changes (K : PySem.W.Frag) (A : Ad) : TS := tSeq (tAsg (tLst tNil) (gName 2)) (t__law_changes_2 K A)
theorem len__law_changes {K : PySem.W.Frag} {A : Ad} : ∀ vs G Q E, S__law_changes K A vs G Q E → vs.length = ["rows", "module"].length := by
  rintro vs G Q E ⟨pr, m, vss, rows, B, rfl, _⟩; rfl
theorem ok__law_changes {K : PySem.W.Frag} {A : Ad} : ∀ vs G Q E, S__law_changes K A vs G Q E → Es (t__law_changes K A) { nx := fun _ G' => Q .non G', rt := Q } (L2.start ["rows", "module", "found", "replica", "forces", "k"] vs) G := by
  rintro vs G Q E ⟨pr, m, vss, rows, B, rfl, hra, hz, w, q⟩
  change Es _ _ (_ :: _ :: _ :: _ :: _ :: _ :: []) _
  k_extra "e"
  refine ⟨sz1000 (by simp), fun p hp => ?_⟩
  k_extra "e"
  k_extra "e"
  refine es_forR1 ?_
  k_extra "e"
  refine ⟨by omega, fun k σ G' => ∃ c3 c4 c5 acc, σ = [some (.ref pr), some (.str m), some (.ref p), c3, c4, c5] ∧ Ex G G' ∧ G' p = some (.lst acc) ∧ Izs G' acc ((chgTo rows m k).map chD), ⟨_, _, _, [], rfl, Ex.new hp, upd_same, .nil⟩, ?_, ?_⟩
  · rintro k σ G' hk ⟨c3, c4, c5, acc, rfl, e1, h1, h2⟩
    obtain ⟨row, hrow, hlen, hok⟩ := w.row (k := k) (by omega)
    obtain ⟨xs, r, gp, gx, ⟨rvs, hr, hI⟩, _⟩ := hra.get hz hrow
    have hl : rvs.length = row.length := by have := izs_len hI; rwa [List.length_map] at this
    have la := izs_len h2
    rw [List.length_map] at la
    have la2 := chgTo_len w m k
    k_extra "e"
    refine er_ixL (SqL.of (e1 _ _ gp)) (atI_nat gx) ?_
    k_extra "e"
    refine ⟨r, row, rfl, ⟨rvs, e1 _ _ hr, e1.tz.izs hI⟩, by omega, fun d hd => (hok d hd).s, fun pf G2 e2 nf hf => ?_⟩
    k_extra "e"
    have hppf : p ≠ pf := fun z => by subst z; rw [nf] at h1; cases h1
    refine es_forR1 ?_
    k_extra "e"
    refine er_ixL (SqL.of (e2 _ _ (e1 _ _ gp))) (atI_nat gx) ?_
    k_extra "e"
    refine ec_lenL (SqL.of (e2 _ _ (e1 _ _ hr))) fun _ => ?_
    rw [hl]
    k_extra "e"
    refine ⟨by omega, fun i σ G3 => ∃ c5 acc, σ = [some (.ref pr), some (.str m), some (.ref p), some (.int (k : Int)), some (.ref pf), c5] ∧ Ex G G3 ∧ G3 pf = some (.lst ((frc row 1).map V.bl)) ∧ G3 p = some (.lst acc) ∧ Izs G3 acc ((chgTo rows m k ++ part (k : Int) row m i).map chD) ∧ i ≤ row.length, ⟨_, acc, rfl, e1.trans e2, hf, e2 _ _ h1, ?_, Nat.zero_le _⟩, ?_, ?_⟩
    · have : part (k : Int) row m 0 = [] := rfl
      rw [this, List.append_nil]; exact e2.tz.izs h2
    · rintro i σ G3 hi' ⟨c5, acc, rfl, x1, x2, x3, x4, x5⟩
      have hi : i < row.length := by omega
      have hfi : i < (frc row 1).length := by rw [frc_len]; exact hi
      have hdr : row[i]? = some row[i] := List.getElem?_eq_getElem hi
      obtain ⟨x, hx, ix⟩ := izs_get hI (show (row.map deD)[i]? = some (deD row[i]) by rw [List.getElem?_map, hdr]; rfl)
      have la3 := izs_len x4
      rw [List.length_map, List.length_append] at la3
      have la4 := part_len (k : Int) row m i
      have hps := part_succ (k := (k : Int)) (m := m) hdr (List.getElem?_eq_getElem hfi)
      have hfv : ((frc row 1).map V.bl)[i]? = some (.bl (frc row 1)[i]) := by rw [List.getElem?_map, List.getElem?_eq_getElem hfi]; rfl
      obtain ⟨t, ys, rfl, ht2, hw⟩ := de_word ix
      k_extra "e"
      refine er_ixL (SqL.of (x1 _ _ gp)) (atI_nat gx) ?_
      k_extra "e"
      refine er_ixL (SqL.of (x1 _ _ hr)) (atI_nat hx) ?_
      k_extra "e"
      refine er_ixT (SqT.of (x1.tz _ _ ht2)) (atI_nat hw) ?_
      k_extra "e"
      cases hdd : row[i] with
      | back n =>
        rw [hdd] at hps
        refine ifd (fun z => absurd z (by simp only [wordOf]; decide)) (fun _ => ?_)
        k_extra "e"
        refine ⟨_, acc, rfl, x1, x2, x3, ?_, by omega⟩
        rw [hps, if_neg (by simp [isCh]), List.append_nil]; exact x4
      | change m' rm bh n t' =>
        rw [hdd] at hps ix
        refine ifd (fun _ => ?_) (fun z => absurd rfl z)
        obtain ⟨t2, vr, vb, e', h1', _, _⟩ := de_chg ix
        cases e'
        k_extra "e"
        refine er_ixL (SqL.of (x1 _ _ gp)) (atI_nat gx) ?_
        k_extra "e"
        refine er_ixL (SqL.of (x1 _ _ hr)) (atI_nat hx) ?_
        k_extra "e"
        refine er_ixT (SqT.of (x1.tz _ _ h1')) (atI_nat (j := 1) rfl) ?_
        k_extra "e"
        refine ifd (fun hm => ?_) (fun hm => ?_)
        · subst hm
          k_extra "e"
          refine ee_bm ?_
          k_extra "e"
          refine ⟨ty_lst x3, ?_⟩
          k_extra "e"
          refine er_ixL (SqL.of (x1 _ _ gp)) (atI_nat gx) ?_
          k_extra "e"
          refine er_ixL (SqL.of (x1 _ _ hr)) (atI_nat hx) ?_
          k_extra "e"
          refine er_ixL (SqL.of x2) (atI_nat hfv) ?_
          k_extra "e"
          refine ⟨sz1000 (by simp), fun tp htp => ?_⟩
          have e5 := Ex.new (o := .tup [.int (k : Int), .ref t, .bl (frc row 1)[i]]) htp
          k_extra "e"
          refine em_append (e5 _ _ x3) (szlt (by omega)) ?_
          have tm := Tz.mutL (o := .lst (acc ++ [.ref tp])) (e5 _ _ x3)
          refine ⟨_, acc ++ [.ref tp], rfl, (x1.trans e5).mut hp, by rw [upd_ne hppf.symm]; exact e5 _ _ x2, upd_same, ?_, by omega⟩
          rw [hps, if_pos (by simp [isCh]), ← List.append_assoc, List.map_append]
          refine izs_app ((e5.tz.trans tm).izs x4) (.cons (.tup (tm _ _ upd_same) (.cons (.int _) (.cons ?_ (.cons (.bl _) .nil)))) .nil)
          exact ((x1.trans e5).tz.trans tm).iz ix
        · k_extra "e"
          refine ⟨_, acc, rfl, x1, x2, x3, ?_, by omega⟩
          rw [hps, if_neg (by simpa [isCh] using hm), List.append_nil]; exact x4
    · rintro σ G3 ⟨c5, acc, rfl, x1, x2, x3, x4, x5⟩
      refine ⟨_, _, _, acc, rfl, x1, x3, ?_⟩
      rw [part_all _ _ _ (by omega)] at x4
      rw [chgTo_succ, getD_some hrow]; exact x4
  · rintro σ G' ⟨c3, c4, c5, acc, rfl, e1, h1, h2⟩
    k_extra "e"
    exact q p acc G' e1 hp h1 h2
end Lw

namespace Lw
open PySem PySem.Spec PyProof.Rows L2
local macro_rules | `(tactic| k_extra "x1") => `(tactic| first
  | with_reducible refine es_seq ?_
  | with_reducible refine es_asg ?_
  | with_reducible refine es_if ?_
  | with_reducible refine es_ret ?_
  | with_reducible refine es_drop ?_
  | with_reducible refine es_next ?_
  | with_reducible refine es_augS ?_
  | with_reducible refine es_fld ?_
  | ((with_reducible show Ee (tVar _) _ _ _); refine ee_var rfl ?_)
  | with_reducible refine ee_c ?_
  | with_reducible refine ee_op ?_
  | with_reducible refine ee_un ?_
  | with_reducible refine eu_neg ?_
  | with_reducible refine ee_cb ?_
  | with_reducible refine ee_call ?_
  | with_reducible refine ea_nil ?_
  | with_reducible refine ea_cons ?_
  | with_reducible refine ee_sl ?_
  | with_reducible refine eo_no ?_
  | with_reducible refine eo_part ?_
  | with_reducible refine ee_tup ?_
  | with_reducible refine ee_lst ?_
  | with_reducible refine et_test ?_
  | with_reducible refine et_tB ?_
  | with_reducible refine et_tru ?_
  | with_reducible refine et_and ?_
  | with_reducible refine et_or ?_
  | with_reducible refine et_not ?_
  | with_reducible refine ee_and ?_
  | with_reducible refine ee_or ?_
  | with_reducible refine ee_not ?_
  | with_reducible refine ee_if ?_
  | with_reducible refine ee_chain ?_
  | with_reducible refine er_addI ?_
  | with_reducible refine er_subI ?_
  | with_reducible refine er_eqI ?_
  | with_reducible refine er_neI ?_
  | with_reducible refine er_eqNI ?_
  | with_reducible refine er_eqS ?_
  | with_reducible refine er_neS ?_
  | with_reducible refine er_eqB ?_
  | with_reducible refine er_neB ?_
  | with_reducible refine er_lt ?_
  | with_reducible refine er_le ?_
  | with_reducible refine er_gt ?_
  | with_reducible refine er_ge ?_
  | with_reducible refine er_isN_non ?_
  | with_reducible refine er_isN_bl ?_
  | with_reducible refine er_isN_int ?_
  | with_reducible refine er_isN_str ?_
  | with_reducible refine er_isN_ref ?_
  | with_reducible refine er_notN_non ?_
  | with_reducible refine er_notN_bl ?_
  | with_reducible refine er_notN_int ?_
  | with_reducible refine er_notN_str ?_
  | with_reducible refine er_notN_ref ?_
  | with_reducible refine er_isN ?_
  | with_reducible refine er_notN ?_
  | with_reducible refine ec_int ?_
  | with_reducible refine ec_intB ?_
  | with_reducible refine ec_max2 ?_
  | with_reducible refine ec_min2 ?_
  | with_reducible refine ip_I ?_
  | ((with_reducible refine eg_name ?_); (try dsimp only [L2.wipe, List.set_cons_zero, List.set_cons_succ]))
  | with_reducible refine eg_sub ?_
  | with_reducible refine egs_cons ?_
  | with_reducible refine egs_nil ?_
  | with_reducible refine tru_bl ?_
  | with_reducible refine tru_int ?_
  | with_reducible refine tru_non ?_
  | with_reducible refine iteT ?_
  | with_reducible refine iteF ?_
  | with_reducible refine ite_nt ?_
  | with_reducible refine ite_nf ?_
  | with_reducible refine ⟨_, rfl, ?_⟩)
local macro_rules | `(tactic| k_extra "s") => `(tactic| ((first | k_extra "x1" | ((with_reducible refine es_unf ?_); refine es_seq ?_)); (repeat k_extra "x1")))
local macro_rules | `(tactic| k_extra "x") => `(tactic| (repeat first | k_extra "x1" | ((with_reducible refine es_unf ?_); refine es_seq ?_)))
local macro_rules | `(tactic| k_extra "start") => `(tactic| dsimp only [L2.start, List.map_cons, List.map_nil, List.length_cons, List.length_nil, Nat.reduceAdd, Nat.reduceSub, List.replicate, List.cons_append, List.nil_append, Nat.zero_add])
local macro_rules | `(tactic| k_extra "e1") => `(tactic| first
  | with_reducible refine es_next ?_
  | ((with_reducible show Ee (tVar _) _ _ _); refine ee_var rfl ?_)
  | with_reducible refine ee_c ?_
  | with_reducible refine ee_op ?_
  | with_reducible refine ee_un ?_
  | with_reducible refine eu_neg ?_
  | with_reducible refine ee_cb ?_
  | with_reducible refine ee_call ?_
  | with_reducible refine ea_nil ?_
  | with_reducible refine ea_cons ?_
  | with_reducible refine ee_sl ?_
  | with_reducible refine eo_no ?_
  | with_reducible refine eo_part ?_
  | with_reducible refine ee_tup ?_
  | with_reducible refine ee_lst ?_
  | with_reducible refine et_test ?_
  | with_reducible refine et_tB ?_
  | with_reducible refine et_tru ?_
  | with_reducible refine et_and ?_
  | with_reducible refine et_or ?_
  | with_reducible refine et_not ?_
  | with_reducible refine ee_and ?_
  | with_reducible refine ee_or ?_
  | with_reducible refine ee_not ?_
  | with_reducible refine ee_if ?_
  | with_reducible refine ee_chain ?_
  | with_reducible refine er_addI ?_
  | with_reducible refine er_subI ?_
  | with_reducible refine er_eqI ?_
  | with_reducible refine er_neI ?_
  | with_reducible refine er_eqNI ?_
  | with_reducible refine er_eqS ?_
  | with_reducible refine er_neS ?_
  | with_reducible refine er_eqB ?_
  | with_reducible refine er_neB ?_
  | with_reducible refine er_lt ?_
  | with_reducible refine er_le ?_
  | with_reducible refine er_gt ?_
  | with_reducible refine er_ge ?_
  | with_reducible refine er_isN_non ?_
  | with_reducible refine er_isN_bl ?_
  | with_reducible refine er_isN_int ?_
  | with_reducible refine er_isN_str ?_
  | with_reducible refine er_isN_ref ?_
  | with_reducible refine er_notN_non ?_
  | with_reducible refine er_notN_bl ?_
  | with_reducible refine er_notN_int ?_
  | with_reducible refine er_notN_str ?_
  | with_reducible refine er_notN_ref ?_
  | with_reducible refine er_isN ?_
  | with_reducible refine er_notN ?_
  | with_reducible refine ec_int ?_
  | with_reducible refine ec_intB ?_
  | with_reducible refine ec_max2 ?_
  | with_reducible refine ec_min2 ?_
  | with_reducible refine ip_I ?_
  | ((with_reducible refine eg_name ?_); (try dsimp only [L2.wipe, List.set_cons_zero, List.set_cons_succ]))
  | with_reducible refine eg_sub ?_
  | with_reducible refine egs_cons ?_
  | with_reducible refine egs_nil ?_
  | with_reducible refine tru_bl ?_
  | with_reducible refine tru_int ?_
  | with_reducible refine tru_non ?_
  | with_reducible refine iteT ?_
  | with_reducible refine iteF ?_
  | with_reducible refine ite_nt ?_
  | with_reducible refine ite_nf ?_
  | with_reducible refine ex_bl ?_
  | with_reducible refine ex_int ?_
  | with_reducible refine ex_str ?_
  | with_reducible refine ex_strx ?_
  | with_reducible refine ex_ints1 ?_
  | with_reducible refine ex_ints2 ?_)
local macro_rules | `(tactic| k_extra "t1") => `(tactic| first
  | with_reducible refine es_asg ?_
  | with_reducible refine es_if ?_
  | with_reducible refine es_ret ?_
  | with_reducible refine es_drop ?_
  | with_reducible refine es_augS ?_
  | with_reducible refine es_fld ?_)
local macro_rules | `(tactic| k_extra "e") => `(tactic| first
  | ((with_reducible refine es_seq ?_); (try k_extra "t1"); (repeat k_extra "e1"))
  | (k_extra "t1"; (repeat k_extra "e1"))
  | (k_extra "e1"; (repeat k_extra "e1"))
  | ((with_reducible refine es_unf ?_); (refine es_seq ?_); (try k_extra "t1"); (repeat k_extra "e1")))
/-! ### the row of a module -/
def enD (e : Ent) : PyData := .tuple [mP e.mr, bP e.bh, .str ⟨#[e.ch]⟩, .bool e.fo]
def rwD (rem : List Mk) (e : Ent) : PyData := .tuple [mP e.mr, .str ⟨#[e.ch]⟩, .bool (e.fo && !rem.contains e.mr)]
theorem rowOf_D (rows : List (List De)) (m : Str) : (rowOf rows m).map rowD = (plc (srt rows m)).map (rwD (removed (chg rows m))) := by
  unfold rowOf; rw [List.map_map]; rfl
theorem eqv_mP (a b : Mk) : PyData.eqv (mP a) (mP b) = decide (a = b) := by
  obtain ⟨a1, a2⟩ := a
  obtain ⟨b1, b2⟩ := b
  simp only [mP, PyData.eqv, PyData.eqvAll, Bool.and_true]
  by_cases h1 : a1 = b1 <;> by_cases h2 : a2 = b2 <;> simp [h1, h2]
theorem any_mP (ms : List Mk) (b : Mk) : (ms.map mP).any (fun z => PyData.eqv z (mP b)) = ms.contains b := by
  induction ms with
  | nil => rfl
  | cons a r ih =>
    rw [List.map_cons, List.any_cons, ih, eqv_mP, List.contains_cons]
    congr 1
    by_cases h : a = b
    · subst h; simp
    · rw [decide_eq_false h]; symm; simpa using fun z => h z.symm
theorem iz_mark {G : Hp} {v : V} {m : Mk} (h : Iz G v (mP m)) : ∃ t, v = .ref t ∧ G t = some (.tup [.int m.1, .int m.2]) := by
  obtain ⟨t, xs, rfl, h1, h2⟩ := iz_tup h
  cases h2 with
  | cons a b => cases a; cases b with
    | cons c d => cases c; cases d; exact ⟨t, rfl, h1⟩
theorem iz_ent {G : Hp} {v : V} {e : Ent} (h : Iz G v (enD e)) : ∃ t vm vb, v = .ref t ∧ G t = some (.tup [vm, vb, .str ⟨#[e.ch]⟩, .bl e.fo]) ∧ Iz G vm (mP e.mr) ∧ Iz G vb (bP e.bh) := by
  obtain ⟨t, xs, rfl, h1, h2⟩ := iz_tup h
  cases h2 with
  | cons a b => cases b with
    | cons c d => cases d with
      | cons e1 f => cases e1; cases f with
        | cons g i => cases g; cases i; exact ⟨t, _, _, rfl, h1, a, c⟩
theorem iz_tr {G : Hp} {v : V} {x : Mk × Option Mk × Nat} (h : Iz G v (trD x)) : ∃ t vm vb, v = .ref t ∧ G t = some (.tup [vm, vb, .str ⟨#[x.2.2]⟩]) ∧ Iz G vm (mP x.1) ∧ Iz G vb (bP x.2.1) := by
  obtain ⟨t, xs, rfl, h1, h2⟩ := iz_tup h
  cases h2 with
  | cons a b => cases b with
    | cons c d => cases d with
      | cons e1 f => cases e1; cases f; exact ⟨t, _, _, rfl, h1, a, c⟩
theorem iz_ch {G : Hp} {v : V} {x : Int × De × Bool} (h : Iz G v (chD x)) : ∃ t vd, v = .ref t ∧ G t = some (.tup [.int x.1, vd, .bl x.2.2]) ∧ Iz G vd (deD x.2.1) := by
  obtain ⟨t, xs, rfl, h1, h2⟩ := iz_tup h
  cases h2 with
  | cons a b => cases a; cases b with
    | cons c d => cases d with
      | cons e1 f => cases e1; cases f; exact ⟨t, _, rfl, h1, c⟩
theorem iz_rw {G : Hp} {v : V} {rem : List Mk} {e : Ent} (h : Iz G v (rwD rem e)) : ∃ t vm, v = .ref t ∧ G t = some (.tup [vm, .str ⟨#[e.ch]⟩, .bl (e.fo && !rem.contains e.mr)]) ∧ Iz G vm (mP e.mr) := by
  obtain ⟨t, xs, rfl, h1, h2⟩ := iz_tup h
  cases h2 with
  | cons a b => cases b with
    | cons e1 f => cases e1; cases f with
      | cons g i => cases g; cases i; exact ⟨t, _, rfl, h1, a⟩
/-! sorting what stands for entries -/
theorem izs_zip {α : Type} {G : Hp} {f : α → PyData} : ∀ {vs : List V} {xs : List α}, Izs G vs (xs.map f) → ∀ z ∈ vs.zip xs, Iz G z.1 (f z.2)
  | _, [], h, z, hz => by simp at hz
  | _, x :: xs, h, z, hz => by
    rw [List.map_cons] at h
    cases h with
    | cons a b =>
      rw [List.zip_cons_cons] at hz
      rcases List.mem_cons.mp hz with rfl | hz
      · exact a
      · exact izs_zip b z hz
theorem izs_mapz {α : Type} {G : Hp} {f : α → PyData} : ∀ {zs : List (V × α)}, (∀ z ∈ zs, Iz G z.1 (f z.2)) → Izs G (zs.map (·.1)) (zs.map fun z => f z.2)
  | [], _ => .nil
  | z :: r, h => .cons (h z List.mem_cons_self) (izs_mapz fun y hy => h y (List.mem_cons_of_mem _ hy))
def keyd (vs : List V) (es : List Ent) : List (V × (Int × Int)) := (vs.zip es).map fun z => (z.1, z.2.mr)
theorem keyd_fst {vs : List V} {es : List Ent} (h : vs.length = es.length) : (keyd vs es).map (·.1) = vs := by
  unfold keyd
  rw [List.map_map]
  exact List.map_fst_zip (by omega)
theorem keyd_ents {K : PySem.W.Frag} {G : Hp} {vs : List V} {es : List Ent} (h : Izs G vs (es.map enD)) : EntsK K G (keyd vs es) := by
  intro x hx
  obtain ⟨z, hz, rfl⟩ := List.mem_map.mp hx
  obtain ⟨t, vm, vb, e1, h1, h2, _⟩ := iz_ent (izs_zip h z hz)
  obtain ⟨tm, e2, h3⟩ := iz_mark h2
  refine ⟨t, tm, _, e1, SqT.of (by rw [h1, e2]), SqT.of h3⟩
theorem keyd_sort {G : Hp} {vs : List V} {es : List Ent} (h : Izs G vs (es.map enD)) : Izs G (((keyd vs es).mergeSort mkLe).map (·.1)) ((es.mergeSort eLe).map enD) := by
  have hl : vs.length = es.length := by have := izs_len h; rwa [List.length_map] at this
  have e1 : ((vs.zip es).mergeSort fun a b => eLe a.2 b.2).map (fun z => (z.1, z.2.mr)) = (keyd vs es).mergeSort mkLe := by
    unfold keyd
    exact List.map_mergeSort fun a _ b _ => rfl
  have e2 : ((vs.zip es).mergeSort fun a b => eLe a.2 b.2).map (·.2) = es.mergeSort eLe := by
    refine (List.map_mergeSort (r := fun a b : V × Ent => eLe a.2 b.2) (s := eLe) (f := Prod.snd) fun a _ b _ => rfl).trans ?_
    rw [List.map_snd_zip (by omega)]
  rw [← e1, ← e2, List.map_map, List.map_map]
  exact izs_mapz (f := enD) fun z hz => izs_zip h z ((List.mergeSort_perm _ _).mem_iff.mp hz)
def S__law_row (K : PySem.W.Frag) (A : Ad) : Pm := fun vs G Q _ => ∃ (pr : Addr) (m : Str) (vss : List (List V)) (rows : List (List De)) (B : Int), vs = [.ref pr, .str m] ∧ RowsAt G pr vss ∧ Rz G vss rows ∧ Wf B rows ∧ LamX.Tabs (Tb A) G ∧
  ∀ p acc G', MU A G G' → Nn G p → G' p = some (.lst acc) → Izs G' acc ((rowOf rows m).map rowD) → Q (.ref p) G'
/-! _law_row -/
def t__law_row_1 (K : PySem.W.Frag) (A : Ad) : TS := tSeq (tFor (iList K (tCall (up (S__law_inserted K A)) [] E0 (tCons (tVar 4) (tCons (tVar 5) tNil)))) (gTup K 3 (gCons (gName 7) (gCons (gName 8) (gCons (gName 9) gNil)))) (tDrop (tBM K "list" (rAppend) (tVar 3) (tCons (tTup (tCons (tVar 7) (tCons (tVar 8) (tCons (tVar 9) (tCons (tVar 6) tNil))))) tNil)))) (tIfS (tTru K (tVar 6)) (tAsg (tOp (rAddU K) (tVar 2) (tCB (rListU K) (tCons (tOp (rIx K) (tVar 5) (tC (.int 2))) tNil))) (gName 2)) tNext)
def t__law_row_2 (K : PySem.W.Frag) (A : Ad) : TS := tSeq (tIfS (tTest (tOp (rNotN) (tVar 8) (tC .non))) (tAsg (tOp (rAddU K) (tBM K "list" (rIndexD K) (tLc (iList K (tVar 10)) (gName 12) tYes (tOp (rIx K) (tVar 12) (tC (.int 0))) [12]) (tCons (tVar 8) tNil)) (tC (.int 1))) (gName 11)) tNext) (tDrop (tBM K "list" (rInsertU) (tVar 10) (tCons (tVar 11) (tCons (tTup (tCons (tVar 7) (tCons (tVar 9) (tCons (tAndV (tVar 6) (tOp (rNotInU K) (tVar 7) (tVar 2))) tNil)))) tNil))))
def t__law_row_3 (K : PySem.W.Frag) (A : Ad) : TS := tSeq (tAsg (tC (.int 0)) (gName 11)) (t__law_row_2 K A)
def t__law_row_4 (K : PySem.W.Frag) (A : Ad) : TS := tSeq (tFor (iList K (tSortL K (Tb A) (tCons (tVar 3) tNil))) (gTup K 4 (gCons (gName 7) (gCons (gName 8) (gCons (gName 9) (gCons (gName 6) gNil))))) (t__law_row_3 K A)) (tRet (tVar 10))
def t__law_row_5 (K : PySem.W.Frag) (A : Ad) : TS := tSeq (tAsg (tLst tNil) (gName 10)) (t__law_row_4 K A)
def t__law_row_6 (K : PySem.W.Frag) (A : Ad) : TS := tSeq (tFor (iList K (tCall (up (S__law_changes K A)) [] E0 (tCons (tVar 0) (tCons (tVar 1) tNil)))) (gTup K 3 (gCons (gName 4) (gCons (gName 5) (gCons (gName 6) gNil)))) (t__law_row_1 K A)) (t__law_row_5 K A)
def t__law_row_7 (K : PySem.W.Frag) (A : Ad) : TS := tSeq (tAsg (tLst tNil) (gName 3)) (t__law_row_6 K A)
def t__law_row (K : PySem.W.Frag) (A : Ad) : TS := tSeq (tAsg (tLst tNil) (gName 2)) (t__law_row_7 K A)
theorem len__law_row {K : PySem.W.Frag} {A : Ad} : ∀ vs G Q E, S__law_row K A vs G Q E → vs.length = ["rows", "module"].length := by
  rintro vs G Q E ⟨pr, m, vss, rows, B, rfl, _⟩; rfl
theorem take_flat {α β : Type} {f : α → List β} {l : List α} {i : Nat} {x : α} (h : l[i]? = some x) : (l.take (i + 1)).flatMap f = (l.take i).flatMap f ++ f x := by
  rw [List.take_add_one, h, List.flatMap_append]; simp
theorem flat_take_le {α β : Type} {f : α → List β} (l : List α) (i : Nat) : ((l.take i).flatMap f).length ≤ (l.flatMap f).length := by
  have := congrArg List.length (List.flatMap_append (f := f) (xs := l.take i) (ys := l.drop i))
  rw [List.take_append_drop, List.length_append] at this
  omega
end Lw

namespace Lw
open PySem PySem.Spec PyProof.Rows L2
local macro_rules | `(tactic| k_extra "x1") => `(tactic| first
  | with_reducible refine es_seq ?_
  | with_reducible refine es_asg ?_
  | with_reducible refine es_if ?_
  | with_reducible refine es_ret ?_
  | with_reducible refine es_drop ?_
  | with_reducible refine es_next ?_
  | with_reducible refine es_augS ?_
  | with_reducible refine es_fld ?_
  | ((with_reducible show Ee (tVar _) _ _ _); refine ee_var rfl ?_)
  | with_reducible refine ee_c ?_
  | with_reducible refine ee_op ?_
  | with_reducible refine ee_un ?_
  | with_reducible refine eu_neg ?_
  | with_reducible refine ee_cb ?_
  | with_reducible refine ee_call ?_
  | with_reducible refine ea_nil ?_
  | with_reducible refine ea_cons ?_
  | with_reducible refine ee_sl ?_
  | with_reducible refine eo_no ?_
  | with_reducible refine eo_part ?_
  | with_reducible refine ee_tup ?_
  | with_reducible refine ee_lst ?_
  | with_reducible refine et_test ?_
  | with_reducible refine et_tB ?_
  | with_reducible refine et_tru ?_
  | with_reducible refine et_and ?_
  | with_reducible refine et_or ?_
  | with_reducible refine et_not ?_
  | with_reducible refine ee_and ?_
  | with_reducible refine ee_or ?_
  | with_reducible refine ee_not ?_
  | with_reducible refine ee_if ?_
  | with_reducible refine ee_chain ?_
  | with_reducible refine er_addI ?_
  | with_reducible refine er_subI ?_
  | with_reducible refine er_eqI ?_
  | with_reducible refine er_neI ?_
  | with_reducible refine er_eqNI ?_
  | with_reducible refine er_eqS ?_
  | with_reducible refine er_neS ?_
  | with_reducible refine er_eqB ?_
  | with_reducible refine er_neB ?_
  | with_reducible refine er_lt ?_
  | with_reducible refine er_le ?_
  | with_reducible refine er_gt ?_
  | with_reducible refine er_ge ?_
  | with_reducible refine er_isN_non ?_
  | with_reducible refine er_isN_bl ?_
  | with_reducible refine er_isN_int ?_
  | with_reducible refine er_isN_str ?_
  | with_reducible refine er_isN_ref ?_
  | with_reducible refine er_notN_non ?_
  | with_reducible refine er_notN_bl ?_
  | with_reducible refine er_notN_int ?_
  | with_reducible refine er_notN_str ?_
  | with_reducible refine er_notN_ref ?_
  | with_reducible refine er_isN ?_
  | with_reducible refine er_notN ?_
  | with_reducible refine ec_int ?_
  | with_reducible refine ec_intB ?_
  | with_reducible refine ec_max2 ?_
  | with_reducible refine ec_min2 ?_
  | with_reducible refine ip_I ?_
  | ((with_reducible refine eg_name ?_); (try dsimp only [L2.wipe, List.set_cons_zero, List.set_cons_succ]))
  | with_reducible refine eg_sub ?_
  | with_reducible refine egs_cons ?_
  | with_reducible refine egs_nil ?_
  | with_reducible refine tru_bl ?_
  | with_reducible refine tru_int ?_
  | with_reducible refine tru_non ?_
  | with_reducible refine iteT ?_
  | with_reducible refine iteF ?_
  | with_reducible refine ite_nt ?_
  | with_reducible refine ite_nf ?_
  | with_reducible refine ⟨_, rfl, ?_⟩)
local macro_rules | `(tactic| k_extra "s") => `(tactic| ((first | k_extra "x1" | ((with_reducible refine es_unf ?_); refine es_seq ?_)); (repeat k_extra "x1")))
local macro_rules | `(tactic| k_extra "x") => `(tactic| (repeat first | k_extra "x1" | ((with_reducible refine es_unf ?_); refine es_seq ?_)))
local macro_rules | `(tactic| k_extra "start") => `(tactic| dsimp only [L2.start, List.map_cons, List.map_nil, List.length_cons, List.length_nil, Nat.reduceAdd, Nat.reduceSub, List.replicate, List.cons_append, List.nil_append, Nat.zero_add])
local macro_rules | `(tactic| k_extra "e1") => `(tactic| first
  | with_reducible refine es_next ?_
  | ((with_reducible show Ee (tVar _) _ _ _); refine ee_var rfl ?_)
  | with_reducible refine ee_c ?_
  | with_reducible refine ee_op ?_
  | with_reducible refine ee_un ?_
  | with_reducible refine eu_neg ?_
  | with_reducible refine ee_cb ?_
  | with_reducible refine ee_call ?_
  | with_reducible refine ea_nil ?_
  | with_reducible refine ea_cons ?_
  | with_reducible refine ee_sl ?_
  | with_reducible refine eo_no ?_
  | with_reducible refine eo_part ?_
  | with_reducible refine ee_tup ?_
  | with_reducible refine ee_lst ?_
  | with_reducible refine et_test ?_
  | with_reducible refine et_tB ?_
  | with_reducible refine et_tru ?_
  | with_reducible refine et_and ?_
  | with_reducible refine et_or ?_
  | with_reducible refine et_not ?_
  | with_reducible refine ee_and ?_
  | with_reducible refine ee_or ?_
  | with_reducible refine ee_not ?_
  | with_reducible refine ee_if ?_
  | with_reducible refine ee_chain ?_
  | with_reducible refine er_addI ?_
  | with_reducible refine er_subI ?_
  | with_reducible refine er_eqI ?_
  | with_reducible refine er_neI ?_
  | with_reducible refine er_eqNI ?_
  | with_reducible refine er_eqS ?_
  | with_reducible refine er_neS ?_
  | with_reducible refine er_eqB ?_
  | with_reducible refine er_neB ?_
  | with_reducible refine er_lt ?_
  | with_reducible refine er_le ?_
  | with_reducible refine er_gt ?_
  | with_reducible refine er_ge ?_
  | with_reducible refine er_isN_non ?_
  | with_reducible refine er_isN_bl ?_
  | with_reducible refine er_isN_int ?_
  | with_reducible refine er_isN_str ?_
  | with_reducible refine er_isN_ref ?_
  | with_reducible refine er_notN_non ?_
  | with_reducible refine er_notN_bl ?_
  | with_reducible refine er_notN_int ?_
  | with_reducible refine er_notN_str ?_
  | with_reducible refine er_notN_ref ?_
  | with_reducible refine er_isN ?_
  | with_reducible refine er_notN ?_
  | with_reducible refine ec_int ?_
  | with_reducible refine ec_intB ?_
  | with_reducible refine ec_max2 ?_
  | with_reducible refine ec_min2 ?_
  | with_reducible refine ip_I ?_
  | ((with_reducible refine eg_name ?_); (try dsimp only [L2.wipe, List.set_cons_zero, List.set_cons_succ]))
  | with_reducible refine eg_sub ?_
  | with_reducible refine egs_cons ?_
  | with_reducible refine egs_nil ?_
  | with_reducible refine tru_bl ?_
  | with_reducible refine tru_int ?_
  | with_reducible refine tru_non ?_
  | with_reducible refine iteT ?_
  | with_reducible refine iteF ?_
  | with_reducible refine ite_nt ?_
  | with_reducible refine ite_nf ?_
  | with_reducible refine ex_bl ?_
  | with_reducible refine ex_int ?_
  | with_reducible refine ex_str ?_
  | with_reducible refine ex_strx ?_
  | with_reducible refine ex_ints1 ?_
  | with_reducible refine ex_ints2 ?_)
local macro_rules | `(tactic| k_extra "t1") => `(tactic| first
  | with_reducible refine es_asg ?_
  | with_reducible refine es_if ?_
  | with_reducible refine es_ret ?_
  | with_reducible refine es_drop ?_
  | with_reducible refine es_augS ?_
  | with_reducible refine es_fld ?_)
local macro_rules | `(tactic| k_extra "e") => `(tactic| first
  | ((with_reducible refine es_seq ?_); (try k_extra "t1"); (repeat k_extra "e1"))
  | (k_extra "t1"; (repeat k_extra "e1"))
  | (k_extra "e1"; (repeat k_extra "e1"))
  | ((with_reducible refine es_unf ?_); (refine es_seq ?_); (try k_extra "t1"); (repeat k_extra "e1")))
theorem contains_idx {l : List Mk} {b : Mk} (h : b ∈ l) : l[l.idxOf b]? = some b := by
  have := List.idxOf_lt_length_of_mem h
  rw [List.getElem?_eq_getElem this, List.getElem_idxOf]
theorem idx_first {l : List Mk} {b z : Mk} {j : Nat} (hj : j < l.idxOf b) (hz : l[j]? = some z) : z ≠ b := by
  intro e
  subst e
  have h1 := (List.getElem?_eq_some_iff.mp hz)
  have := List.not_of_lt_findIdx (p := (· == z)) (xs := l) (i := j) hj
  rw [h1.2] at this
  simp at this
/-- the second half: sorted, then placed -/
theorem law_row_place {K : PySem.W.Frag} {A : Ad} {G : Hp} {Q : V → Hp → Prop} {B : Int} {rows : List (List De)} {m : Str} {pf prm : Addr} {vs rvs : List V} {c0 c1 c4 c5 c6 c7 c8 c9 c10 c11 c12 : Option V} (w : Wf B rows) (T : LamX.Tabs (Tb A) G)
    (hf : G pf = some (.lst vs)) (hI : Izs G vs ((found (chg rows m)).map enD)) (hr : G prm = some (.lst rvs)) (hR : Izs G rvs ((removed (chg rows m)).map mP))
    (q : ∀ p acc G', MU A G G' → Nn G p → G' p = some (.lst acc) → Izs G' acc ((rowOf rows m).map rowD) → Q (.ref p) G') :
    Es (t__law_row_5 K A) { nx := fun _ G' => Q .non G', rt := Q } [c0, c1, some (.ref prm), some (.ref pf), c4, c5, c6, c7, c8, c9, c10, c11, c12] G := by
  have hl : vs.length = (found (chg rows m)).length := by have := izs_len hI; rwa [List.length_map] at this
  k_extra "e"
  refine ⟨sz1000 (by simp), fun pw hpw => ?_⟩
  have e0 := Ex.new (o := .lst []) hpw
  k_extra "e"
  k_extra "e"
  refine es_forL ?_
  refine ee_sortL ?_
  k_extra "e"
  refine ⟨pf, keyd vs (found (chg rows m)), rfl, by rw [keyd_fst hl]; exact SqL.of (e0 _ _ hf), keyd_ents (e0.tz.izs hI), T.ext e0, fun G2 ps u2 T2 hps => ?_⟩
  have hS : Izs (upd G2 ps (.lst (((keyd vs (found (chg rows m))).mergeSort mkLe).map (·.1)))) (((keyd vs (found (chg rows m))).mergeSort mkLe).map (·.1)) ((srt rows m).map enD) := (Ex.new hps).tz.izs (keyd_sort (u2.tz.izs (e0.tz.izs hI)))
  have u3 : MU A G (upd G2 ps (.lst (((keyd vs (found (chg rows m))).mergeSort mkLe).map (·.1)))) := (e0.upm.trans u2).trans (Ex.new hps).upm
  have hw3 : upd G2 ps (.lst (((keyd vs (found (chg rows m))).mergeSort mkLe).map (·.1))) pw = some (.lst []) := get_new (u2.lst upd_same) hps
  have hs3 : upd G2 ps (.lst (((keyd vs (found (chg rows m))).mergeSort mkLe).map (·.1))) ps = some (.lst (((keyd vs (found (chg rows m))).mergeSort mkLe).map (·.1))) := upd_same
  have hpp : pw ≠ ps := ne_new (u2.lst upd_same) hps
  generalize ((keyd vs (found (chg rows m))).mergeSort mkLe).map (·.1) = svs at hS u3 hw3 hs3 ⊢
  generalize upd G2 ps (.lst svs) = G3 at hS u3 hw3 hs3 ⊢
  have hN : Nn G pw := Nn.of hpw
  have lS : svs.length = (srt rows m).length := by have := izs_len hS; rwa [List.length_map] at this
  have lF := found_len w m
  have lF2 : (srt rows m).length = (found (chg rows m)).length := (srt_perm rows m).length_eq
  refine ⟨ps, svs, rfl, SqL.of hs3, fun i σ G' => ∃ c6 c7 c8 c9 c11 racc, σ = [c0, c1, some (.ref prm), some (.ref pf), c4, c5, c6, c7, c8, c9, some (.ref pw), c11, c12] ∧ MU A G G' ∧ G' ps = some (.lst svs) ∧ Izs G' svs ((srt rows m).map enD) ∧ G' pw = some (.lst racc) ∧ Izs G' racc ((plc ((srt rows m).take i)).map (rwD (removed (chg rows m)))) ∧ i ≤ (srt rows m).length,
    ⟨_, _, _, _, _, [], rfl, u3, hs3, hS, hw3, .nil, Nat.zero_le _⟩, ?_, ?_, ?_⟩
  · rintro i σ G' ⟨c6, c7, c8, c9, c11, racc, rfl, x1, x2, x3, x4, x5, x6⟩
    exact SqL.of x2
  · rintro i x σ G' hx ⟨c6, c7, c8, c9, c11, racc, rfl, x1, x2, x3, x4, x5, x6⟩
    have hi : i < (srt rows m).length := by rw [← lS]; exact (List.getElem?_eq_some_iff.mp hx).1
    have he : (srt rows m)[i]? = some (srt rows m)[i] := List.getElem?_eq_getElem hi
    generalize (srt rows m)[i] = e at he
    have heD : ((srt rows m).map enD)[i]? = some (enD e) := by rw [List.getElem?_map, he]; rfl
    obtain ⟨y, hy, iy⟩ := izs_get x3 heD
    rw [hx] at hy; cases hy
    obtain ⟨t, vm, vb, rfl, h1, h2, h3⟩ := iz_ent iy
    have hnext : (srt rows m).take (i + 1) = (srt rows m).take i ++ [e] := by rw [List.take_add_one, he]; rfl
    have lp := plc_len ((srt rows m).take i)
    rw [List.length_take] at lp
    have lra : racc.length = i := by
      have := izs_len x5
      rw [List.length_map, lp] at this; omega
    refine eg_tup (SqT.of h1) rfl ?_
    k_extra "e"
    k_extra "e"
    -- what is inserted, at a place
    have fin : ∀ (n : Nat) (c12' : Option V) (G2 : Hp), c12' = c12 → n ≤ racc.length → (plc ((srt rows m).take i)).take n ++ [e] ++ (plc ((srt rows m).take i)).drop n = pin (plc ((srt rows m).take i)) e → Ex G' G2 →
        Es (tDrop (tBM K "list" (rInsertU) (tVar 10) (tCons (tVar 11) (tCons (tTup (tCons (tVar 7) (tCons (tVar 9) (tCons (tAndV (tVar 6) (tOp (rNotInU K) (tVar 7) (tVar 2))) tNil)))) tNil)))) (Bd { nx := fun σ' G' => Es (tRet (tVar 10)) { nx := fun _ G' => Q .non G', rt := Q } σ' G', rt := Q } fun σ G' => ∃ c6 c7 c8 c9 c11 racc, σ = [c0, c1, some (.ref prm), some (.ref pf), c4, c5, c6, c7, c8, c9, some (.ref pw), c11, c12] ∧ MU A G G' ∧ G' ps = some (.lst svs) ∧ Izs G' svs ((srt rows m).map enD) ∧ G' pw = some (.lst racc) ∧ Izs G' racc ((plc ((srt rows m).take (i + 1))).map (rwD (removed (chg rows m)))) ∧ i + 1 ≤ (srt rows m).length)
          [c0, c1, some (.ref prm), some (.ref pf), c4, c5, some (.bl e.fo), some vm, some vb, some (.str ⟨#[e.ch]⟩), some (.ref pw), some (.int (n : Int)), c12'] G2 := by
      rintro n c12' G2 rfl hn hp e2
      have im2 := e2.tz.iz h2
      obtain ⟨tm, rfl, htm⟩ := iz_mark im2
      have after : ∀ G3, Ex G' G3 → ∀ tp, G3 tp = none → Em rInsertU (.ref pw) [.int (n : Int), .ref tp] (upd G3 tp (.tup [.ref tm, .str ⟨#[e.ch]⟩, .bl (e.fo && !(removed (chg rows m)).contains e.mr)])) fun _ G1 => ∃ c6 c7 c8 c9 c11 racc, [c0, c1, some (.ref prm), some (.ref pf), c4, c5, some (.bl e.fo), some (.ref tm), some vb, some (.str ⟨#[e.ch]⟩), some (.ref pw), some (.int (n : Int)), c12'] = [c0, c1, some (.ref prm), some (.ref pf), c4, c5, c6, c7, c8, c9, some (.ref pw), c11, c12'] ∧ MU A G G1 ∧ G1 ps = some (.lst svs) ∧ Izs G1 svs ((srt rows m).map enD) ∧ G1 pw = some (.lst racc) ∧ Izs G1 racc ((plc ((srt rows m).take (i + 1))).map (rwD (removed (chg rows m)))) ∧ i + 1 ≤ (srt rows m).length := by
        intro G3 e3 tp htp
        have e4 := e3.trans (Ex.new (o := .tup [.ref tm, .str ⟨#[e.ch]⟩, .bl (e.fo && !(removed (chg rows m)).contains e.mr)]) htp)
        have gt : upd G3 tp (.tup [.ref tm, .str ⟨#[e.ch]⟩, .bl (e.fo && !(removed (chg rows m)).contains e.mr)]) tp = some (.tup [.ref tm, .str ⟨#[e.ch]⟩, .bl (e.fo && !(removed (chg rows m)).contains e.mr)]) := upd_same
        generalize upd G3 tp (.tup [.ref tm, .str ⟨#[e.ch]⟩, .bl (e.fo && !(removed (chg rows m)).contains e.mr)]) = G4 at e4 gt ⊢
        refine em_insert (e4 _ _ x4) (szlt (by omega)) (by omega) ?_
        have tmv := Tz.mutL (o := .lst (racc.take n ++ [.ref tp] ++ racc.drop n)) (e4 _ _ x4)
        have hsd : ps ≠ pw := hpp.symm
        refine ⟨_, _, _, _, _, _, rfl, (x1.trans e4.upm).mutL (e4 _ _ x4) hN, by rw [upd_ne hsd]; exact e4 _ _ x2, (e4.tz.trans tmv).izs x3, upd_same, ?_, by omega⟩
        rw [hnext, plc_snoc, ← hp, List.map_append, List.map_append, List.map_take, List.map_drop]
        refine izs_app (izs_app ?_ (.cons (.tup (tmv _ _ gt) (.cons ((e4.tz.trans tmv).iz h2) (.cons (.str _) (.cons (.bl _) .nil)))) .nil)) ?_
        · exact izs_take n ((e4.tz.trans tmv).izs x5)
        · exact izs_drop n ((e4.tz.trans tmv).izs x5)
      k_extra "e"
      refine ee_bm ?_
      k_extra "e"
      refine ⟨ty_lst (e2 _ _ x4), ?_⟩
      k_extra "e"
      refine ifb (fun hfo => ?_) (fun hfo => ?_)
      · k_extra "e"
        refine er_notInD (ds := (removed (chg rows m)).map mP) im2.dp (.lst (SqL.of (e2 _ _ (x1.lst hr))) ((x1.tz.trans e2.tz).izs hR).dps) (sh_mP _) (sh_mPs _) ?_
        rw [any_mP]
        k_extra "e"
        refine ⟨sz1000 (by simp), fun tp htp => ?_⟩
        have := after G2 e2 tp htp
        rw [hfo, Bool.true_and] at this
        rw [hfo]
        k_extra "e"
        exact this
      · k_extra "e"
        refine ⟨sz1000 (by simp), fun tp htp => ?_⟩
        have := after G2 e2 tp htp
        rw [hfo, Bool.false_and] at this
        rw [hfo]
        k_extra "e"
        exact this
    cases hb : e.bh with
    | none =>
      rw [hb] at h3
      cases h3
      k_extra "e"
      exact fin 0 _ _ rfl (Nat.zero_le _) (by rw [pin, hb]; rfl) (Ex.refl _)
    | some b =>
      rw [hb] at h3
      obtain ⟨tb, rfl, htb⟩ := iz_mark h3
      have hbm := srt_beh w he hb
      have hjl := List.idxOf_lt_length_of_mem hbm
      rw [List.length_map, lp] at hjl
      k_extra "e"
      k_extra "e"
      refine ee_bm ?_
      refine ee_lcL ?_
      k_extra "e"
      refine ⟨pw, racc, rfl, SqL.of x4, fun pm hpm => ⟨fun k acc G2 => Ex G' G2 ∧ G2 pm = none ∧ Izs G2 acc (((plc ((srt rows m).take i)).map fun e => mP e.mr).take k) ∧ k ≤ racc.length, ⟨Ex.refl _, hpm, .nil, Nat.zero_le _⟩, ?_, ?_, ?_⟩⟩
      · rintro k acc G2 ⟨y1, y2, y3, y4⟩
        have := izs_len y3
        rw [List.length_take] at this
        exact ⟨y2, szlt (by omega), SqL.of (y1 _ _ x4)⟩
      · rintro k acc y G2 hy ⟨y1, y2, y3, y4⟩
        have hk := (List.getElem?_eq_some_iff.mp hy).1
        have hk2 : k < (plc ((srt rows m).take i)).length := by rw [lp]; omega
        have hz := List.getElem?_eq_getElem hk2
        obtain ⟨d, hd, id⟩ := izs_get' x5 hy
        rw [List.getElem?_map, hz] at hd
        cases hd
        obtain ⟨tz, vz, rfl, g1, g2⟩ := iz_rw id
        have y5 := y1.trans (Ex.new (o := .lst acc) y2)
        k_extra "e"
        refine ⟨rfl, et_yes ?_⟩
        refine iteT ?_
        k_extra "e"
        refine er_ixT (SqT.of (y5 _ _ g1)) (atI_nat (j := 0) rfl) ?_
        refine ⟨upd_same, G2, Ex.refl _, y1, y2, ?_, by omega⟩
        rw [List.take_add_one, List.getElem?_map, hz]
        exact izs_app y3 (.cons (y1.tz.iz g2) .nil)
      · rintro acc G2 ⟨y1, y2, y3, y4⟩
        rw [List.take_of_length_le (by rw [List.length_map, lp]; omega)] at y3
        have y5 := y1.trans (Ex.new (o := .lst acc) y2)
        refine ⟨ty_lst upd_same, ?_⟩
        k_extra "e"
        have hidx := contains_idx hbm
        refine em_indexD (d := mP b) (ds := (plc ((srt rows m).take i)).map fun e => mP e.mr) (j := ((plc ((srt rows m).take i)).map (·.mr)).idxOf b) (z := mP b) (.lst (SqL.of upd_same) ((Ex.new y2).tz.izs y3).dps) ((y5.tz.iz h3).dp) ?_ (sh_mP _) ?_ (by rw [eqv_mP]; simp) (fun j z' hj hz' => ?_) ?_
        · have := sh_mPs ((plc ((srt rows m).take i)).map (·.mr))
          rw [List.map_map] at this
          exact this
        · rw [List.getElem?_map] at hidx ⊢
          obtain ⟨z, hz, hz'⟩ := Option.map_eq_some_iff.mp hidx
          rw [hz]; simp only [Option.map_some]; rw [hz']
        · rw [List.getElem?_map] at hz'
          obtain ⟨z, hz, rfl⟩ := Option.map_eq_some_iff.mp hz'
          rw [eqv_mP, decide_eq_false_iff_not]
          exact idx_first hj (by rw [List.getElem?_map, hz]; rfl)
        k_extra "e"
        have hcast : ((((plc ((srt rows m).take i)).map (·.mr)).idxOf b : Nat) : Int) + 1 = ((((plc ((srt rows m).take i)).map (·.mr)).idxOf b + 1 : Nat) : Int) := by omega
        rw [hcast]
        exact fin _ _ _ rfl (by omega) (by rw [pin, hb]) y5
  · rintro σ G' ⟨c6, c7, c8, c9, c11, racc, rfl, x1, x2, x3, x4, x5, x6⟩
    k_extra "e"
    refine q pw racc G' x1 hN x4 ?_
    rw [rowOf_D]
    rwa [List.take_of_length_le (by rw [lS]; exact Nat.le_refl _)] at x5
theorem ok__law_row {K : PySem.W.Frag} {A : Ad} : ∀ vs G Q E, S__law_row K A vs G Q E → Es (t__law_row K A) { nx := fun _ G' => Q .non G', rt := Q } (L2.start ["rows", "module", "removed", "found", "replica", "deed", "force", "mark", "behind", "char", "row", "at", "each"] vs) G := by
  rintro vs G Q E ⟨pr, m, vss, rows, B, rfl, hra, hz, w, T, q⟩
  change Es _ _ (_ :: _ :: _ :: _ :: _ :: _ :: _ :: _ :: _ :: _ :: _ :: _ :: _ :: []) _
  k_extra "e"
  refine ⟨sz1000 (by simp), fun prm hprm => ?_⟩
  k_extra "e"
  k_extra "e"
  refine ⟨sz1000 (by simp), fun pf hpf => ?_⟩
  have e0 := (Ex.new (o := .lst []) hprm).trans (Ex.new (o := .lst []) hpf)
  have hrf : prm ≠ pf := ne_new upd_same hpf
  k_extra "e"
  k_extra "e"
  refine es_forL ?_
  k_extra "e"
  refine ⟨pr, m, vss, rows, B, rfl, hra.ex e0, hz.tz e0.tz, w, fun pc cacc G1 e1 npc hpc hC => ?_⟩
  have lC := izs_len hC
  rw [List.length_map] at lC
  have lC2 := chg_len w m
  have hpcf : pf ≠ pc := fun z => by subst z; rw [upd_same] at npc; cases npc
  refine ⟨pc, cacc, rfl, SqL.of hpc, fun i σ G' => ∃ c4 c5 c6 c7 c8 c9 q2 racc facc, σ = [some (.ref pr), some (.str m), some (.ref q2), some (.ref pf), c4, c5, c6, c7, c8, c9, none, none, none] ∧ Ex G G' ∧ G' pc = some (.lst cacc) ∧ Izs G' cacc ((chg rows m).map chD) ∧ G' pf = some (.lst facc) ∧ Izs G' facc ((((chg rows m).take i).flatMap entsOf).map enD) ∧ G' q2 = some (.lst racc) ∧ Izs G' racc ((((chg rows m).take i).flatMap rmsOf).map mP) ∧ pf ≠ q2 ∧ i ≤ (chg rows m).length,
    ⟨_, _, _, _, _, _, prm, [], [], rfl, e0.trans e1, hpc, hC, e1 _ _ upd_same, .nil, e1 _ _ (get_new upd_same hpf), .nil, hrf.symm, Nat.zero_le _⟩, ?_, ?_, ?_⟩
  · rintro i σ G' ⟨c4, c5, c6, c7, c8, c9, q2, racc, facc, rfl, x1, x2, x3, x4, x5, x6, x7, x8, x9⟩
    exact SqL.of x2
  · rintro i x σ G' hx ⟨c4, c5, c6, c7, c8, c9, q2, racc, facc, rfl, x1, x2, x3, x4, x5, x6, x7, x8, x9⟩
    have hi : i < (chg rows m).length := by rw [← lC]; exact (List.getElem?_eq_some_iff.mp hx).1
    have hy := List.getElem?_eq_getElem hi
    generalize (chg rows m)[i] = y at hy
    have hym := List.mem_of_getElem? hy
    obtain ⟨x', hx', ix⟩ := izs_get x3 (show ((chg rows m).map chD)[i]? = some (chD y) by rw [List.getElem?_map, hy]; rfl)
    rw [hx] at hx'; cases hx'
    obtain ⟨t, vd, rfl, h1, h2⟩ := iz_ch ix
    obtain ⟨k, hk, hyk, hyd, hyc⟩ := chg_mem hym
    obtain ⟨rm, bh, n, t', hde⟩ := isCh_of hyc
    have hok := w.ok k _ hyd
    rw [hde] at h2 hok
    have tf := take_flat (f := entsOf) hy
    have tr := take_flat (f := rmsOf) hy
    have lf := izs_len x5
    rw [List.length_map] at lf
    have lf2 := flat_take_le (f := entsOf) (chg rows m) i
    have lf3 : ((chg rows m).flatMap entsOf).length ≤ 80000 := found_len w m
    have lr := izs_len x7
    rw [List.length_map] at lr
    have lr2 := flat_take_le (f := rmsOf) (chg rows m) i
    have lr3 : ((chg rows m).flatMap rmsOf).length ≤ 80000 := rem_len w m
    have le1 := ents_len w hym
    have hents : entsOf y = (ins y.1 bh n t'.cps.toList).map fun e => ⟨e.1, e.2.1, e.2.2, y.2.2⟩ := by unfold entsOf; rw [hde]; rfl
    refine eg_tup (SqT.of h1) rfl ?_
    k_extra "e"
    k_extra "e"
    refine es_forL ?_
    k_extra "e"
    refine ⟨y.1, vd, m, rm, bh, n, t', rfl, h2, by have := hok.2.2.2.2.1; omega, fun pi iacc G2 e2 npi hpi hII => ?_⟩
    have lI := izs_len hII
    rw [List.length_map, ins_len] at lI
    have hpfi : pf ≠ pi := fun z => by subst z; rw [npi] at x4; cases x4
    have lt' : t'.cps.toList.length ≤ 100 := by have := hok.2.2.2.2.1; have e : t'.length = t'.cps.toList.length := by rw [Array.length_toList]; rfl
                                                omega
    refine ⟨pi, iacc, rfl, SqL.of hpi, fun j σ G3 => ∃ c7 c8 c9 facc', σ = [some (.ref pr), some (.str m), some (.ref q2), some (.ref pf), some (.int y.1), some vd, some (.bl y.2.2), c7, c8, c9, none, none, none] ∧ Ex G G3 ∧ G3 pi = some (.lst iacc) ∧ Izs G3 iacc ((ins y.1 bh n t'.cps.toList).map trD) ∧ G3 pc = some (.lst cacc) ∧ Izs G3 cacc ((chg rows m).map chD) ∧ G3 pf = some (.lst facc') ∧
      Izs G3 facc' ((((chg rows m).take i).flatMap entsOf ++ (entsOf y).take j).map enD) ∧ G3 q2 = some (.lst racc) ∧ Izs G3 racc ((((chg rows m).take i).flatMap rmsOf).map mP) ∧ Iz G3 vd (deD (.change m rm bh n t')) ∧ j ≤ iacc.length,
      ⟨_, _, _, facc, rfl, x1.trans e2, hpi, hII, e2 _ _ x2, e2.tz.izs x3, e2 _ _ x4, by rw [List.take_zero, List.append_nil]; exact e2.tz.izs x5, e2 _ _ x6, e2.tz.izs x7, e2.tz.iz h2, Nat.zero_le _⟩, ?_, ?_, ?_⟩
    · rintro j σ G3 ⟨c7, c8, c9, facc', rfl, y1, y2, y3, y4, y5, y6, y7, y8, y9, y10, y11⟩
      exact SqL.of y2
    · rintro j u σ G3 hu ⟨c7, c8, c9, facc', rfl, y1, y2, y3, y4, y5, y6, y7, y8, y9, y10, y11⟩
      have hj := (List.getElem?_eq_some_iff.mp hu).1
      have hj2 : j < t'.cps.toList.length := by omega
      have hs := ins_spec t'.cps.toList y.1 bh n j _ (List.getElem?_eq_getElem hj2)
      obtain ⟨u', hu', iu⟩ := izs_get y3 (show ((ins y.1 bh n t'.cps.toList).map trD)[j]? = some (trD ((n + (j : Nat), y.1), (if j = 0 then bh else some (n + (j : Nat) - 1, y.1)), t'.cps.toList[j])) by rw [List.getElem?_map, hs]; rfl)
      rw [hu] at hu'; cases hu'
      obtain ⟨tt, vm, vb, rfl, g1, g2, g3⟩ := iz_tr iu
      have l7 := izs_len y7
      rw [List.length_map, List.length_append, List.length_take] at l7
      have hen : (entsOf y)[j]? = some ⟨(n + (j : Nat), y.1), (if j = 0 then bh else some (n + (j : Nat) - 1, y.1)), t'.cps.toList[j], y.2.2⟩ := by rw [hents, List.getElem?_map, hs]; rfl
      refine eg_tup (SqT.of g1) rfl ?_
      k_extra "e"
      k_extra "e"
      refine ee_bm ?_
      k_extra "e"
      refine ⟨ty_lst y6, ?_⟩
      k_extra "e"
      refine ⟨sz1000 (by simp), fun tp htp => ?_⟩
      have e5 := Ex.new (o := .tup [vm, vb, .str ⟨#[t'.cps.toList[j]]⟩, .bl y.2.2]) htp
      k_extra "e"
      refine em_append (e5 _ _ y6) (szlt (by omega)) ?_
      have tm := Tz.mutL (o := .lst (facc' ++ [.ref tp])) (e5 _ _ y6)
      refine ⟨_, _, _, facc' ++ [.ref tp], rfl, (y1.trans e5).mut (nul_upd hpf), by rw [upd_ne hpfi.symm]; exact e5 _ _ y2, (e5.tz.trans tm).izs y3, by rw [upd_ne hpcf.symm]; exact e5 _ _ y4, (e5.tz.trans tm).izs y5, upd_same, ?_, by rw [upd_ne x8.symm]; exact e5 _ _ y8, (e5.tz.trans tm).izs y9, (e5.tz.trans tm).iz y10, by omega⟩
      rw [List.take_add_one, hen, ← List.append_assoc, List.map_append]
      exact izs_app ((e5.tz.trans tm).izs y7) (.cons (.tup (tm _ _ upd_same) (.cons ((e5.tz.trans tm).iz g2) (.cons ((e5.tz.trans tm).iz g3) (.cons (.str _) (.cons (.bl _) .nil))))) .nil)
    · rintro σ G3 ⟨c7, c8, c9, facc', rfl, y1, y2, y3, y4, y5, y6, y7, y8, y9, y10, y11⟩
      rw [List.take_of_length_le (l := entsOf y) (i := iacc.length) (by rw [hents, List.length_map, ins_len]; omega), ← tf] at y7
      k_extra "e"
      refine ifb (fun hfo => ?_) (fun hfo => ?_)
      · obtain ⟨a, vr, vb, e', h1', hvr, _⟩ := de_chg y10
        obtain ⟨tr2, rxs, e'', hrx, hri⟩ := iz_tup hvr
        cases e'
        cases e''
        k_extra "e"
        refine er_ixT (SqT.of h1') (atI_nat (j := 2) rfl) ?_
        k_extra "e"
        refine ec_list (.inr (SqT.of hrx)) fun pl hpl => ?_
        have e6 := Ex.new (o := .lst rxs) hpl
        have lrx := izs_len hri
        rw [List.length_map] at lrx
        have hrml := hok.2.2.2.1
        refine er_addL (e6 _ _ y8) upd_same (szM (by omega)) fun pn hpn => ?_
        have e7 := e6.trans (Ex.new (o := .lst (racc ++ rxs)) hpn)
        k_extra "e"
        refine ⟨_, _, _, _, _, _, pn, racc ++ rxs, facc', rfl, y1.trans e7, e7 _ _ y4, e7.tz.izs y5, e7 _ _ y6, e7.tz.izs y7, upd_same, ?_, ne_new (e6 _ _ y6) hpn, by omega⟩
        have : rmsOf y = rm := by unfold rmsOf; rw [if_pos hfo, hde]; rfl
        rw [tr, this, List.map_append]
        exact izs_app (e7.tz.izs y9) (e7.tz.izs hri)
      · k_extra "e"
        refine ⟨_, _, _, _, _, _, q2, racc, facc', rfl, y1, y4, y5, y6, y7, y8, ?_, x8, by omega⟩
        have : rmsOf y = [] := by unfold rmsOf; rw [if_neg (by rw [hfo]; decide)]
        rw [tr, this, List.append_nil]; exact y9
  · rintro σ G' ⟨c4, c5, c6, c7, c8, c9, q2, racc, facc, rfl, x1, x2, x3, x4, x5, x6, x7, x8, x9⟩
    rw [lC, List.take_length] at x5 x7
    exact law_row_place w (T.ext x1) x4 x5 x6 x7 fun p acc G'' u n h1 h2 => q p acc G'' (x1.upm.trans u) (fun o e => n o (x1 _ _ e)) h1 h2
end Lw

namespace Lw
open PySem PySem.Spec PyProof.Rows L2
local macro_rules | `(tactic| k_extra "x1") => `(tactic| first
  | with_reducible refine es_seq ?_
  | with_reducible refine es_asg ?_
  | with_reducible refine es_if ?_
  | with_reducible refine es_ret ?_
  | with_reducible refine es_drop ?_
  | with_reducible refine es_next ?_
  | with_reducible refine es_augS ?_
  | with_reducible refine es_fld ?_
  | ((with_reducible show Ee (tVar _) _ _ _); refine ee_var rfl ?_)
  | with_reducible refine ee_c ?_
  | with_reducible refine ee_op ?_
  | with_reducible refine ee_un ?_
  | with_reducible refine eu_neg ?_
  | with_reducible refine ee_cb ?_
  | with_reducible refine ee_call ?_
  | with_reducible refine ea_nil ?_
  | with_reducible refine ea_cons ?_
  | with_reducible refine ee_sl ?_
  | with_reducible refine eo_no ?_
  | with_reducible refine eo_part ?_
  | with_reducible refine ee_tup ?_
  | with_reducible refine ee_lst ?_
  | with_reducible refine et_test ?_
  | with_reducible refine et_tB ?_
  | with_reducible refine et_tru ?_
  | with_reducible refine et_and ?_
  | with_reducible refine et_or ?_
  | with_reducible refine et_not ?_
  | with_reducible refine ee_and ?_
  | with_reducible refine ee_or ?_
  | with_reducible refine ee_not ?_
  | with_reducible refine ee_if ?_
  | with_reducible refine ee_chain ?_
  | with_reducible refine er_addI ?_
  | with_reducible refine er_subI ?_
  | with_reducible refine er_eqI ?_
  | with_reducible refine er_neI ?_
  | with_reducible refine er_eqNI ?_
  | with_reducible refine er_eqS ?_
  | with_reducible refine er_neS ?_
  | with_reducible refine er_eqB ?_
  | with_reducible refine er_neB ?_
  | with_reducible refine er_lt ?_
  | with_reducible refine er_le ?_
  | with_reducible refine er_gt ?_
  | with_reducible refine er_ge ?_
  | with_reducible refine er_isN_non ?_
  | with_reducible refine er_isN_bl ?_
  | with_reducible refine er_isN_int ?_
  | with_reducible refine er_isN_str ?_
  | with_reducible refine er_isN_ref ?_
  | with_reducible refine er_notN_non ?_
  | with_reducible refine er_notN_bl ?_
  | with_reducible refine er_notN_int ?_
  | with_reducible refine er_notN_str ?_
  | with_reducible refine er_notN_ref ?_
  | with_reducible refine er_isN ?_
  | with_reducible refine er_notN ?_
  | with_reducible refine ec_int ?_
  | with_reducible refine ec_intB ?_
  | with_reducible refine ec_max2 ?_
  | with_reducible refine ec_min2 ?_
  | with_reducible refine ip_I ?_
  | ((with_reducible refine eg_name ?_); (try dsimp only [L2.wipe, List.set_cons_zero, List.set_cons_succ]))
  | with_reducible refine eg_sub ?_
  | with_reducible refine egs_cons ?_
  | with_reducible refine egs_nil ?_
  | with_reducible refine tru_bl ?_
  | with_reducible refine tru_int ?_
  | with_reducible refine tru_non ?_
  | with_reducible refine iteT ?_
  | with_reducible refine iteF ?_
  | with_reducible refine ite_nt ?_
  | with_reducible refine ite_nf ?_
  | with_reducible refine ⟨_, rfl, ?_⟩)
local macro_rules | `(tactic| k_extra "s") => `(tactic| ((first | k_extra "x1" | ((with_reducible refine es_unf ?_); refine es_seq ?_)); (repeat k_extra "x1")))
local macro_rules | `(tactic| k_extra "x") => `(tactic| (repeat first | k_extra "x1" | ((with_reducible refine es_unf ?_); refine es_seq ?_)))
local macro_rules | `(tactic| k_extra "start") => `(tactic| dsimp only [L2.start, List.map_cons, List.map_nil, List.length_cons, List.length_nil, Nat.reduceAdd, Nat.reduceSub, List.replicate, List.cons_append, List.nil_append, Nat.zero_add])
local macro_rules | `(tactic| k_extra "e1") => `(tactic| first
  | with_reducible refine es_next ?_
  | ((with_reducible show Ee (tVar _) _ _ _); refine ee_var rfl ?_)
  | with_reducible refine ee_c ?_
  | with_reducible refine ee_op ?_
  | with_reducible refine ee_un ?_
  | with_reducible refine eu_neg ?_
  | with_reducible refine ee_cb ?_
  | with_reducible refine ee_call ?_
  | with_reducible refine ea_nil ?_
  | with_reducible refine ea_cons ?_
  | with_reducible refine ee_sl ?_
  | with_reducible refine eo_no ?_
  | with_reducible refine eo_part ?_
  | with_reducible refine ee_tup ?_
  | with_reducible refine ee_lst ?_
  | with_reducible refine et_test ?_
  | with_reducible refine et_tB ?_
  | with_reducible refine et_tru ?_
  | with_reducible refine et_and ?_
  | with_reducible refine et_or ?_
  | with_reducible refine et_not ?_
  | with_reducible refine ee_and ?_
  | with_reducible refine ee_or ?_
  | with_reducible refine ee_not ?_
  | with_reducible refine ee_if ?_
  | with_reducible refine ee_chain ?_
  | with_reducible refine er_addI ?_
  | with_reducible refine er_subI ?_
  | with_reducible refine er_eqI ?_
  | with_reducible refine er_neI ?_
  | with_reducible refine er_eqNI ?_
  | with_reducible refine er_eqS ?_
  | with_reducible refine er_neS ?_
  | with_reducible refine er_eqB ?_
  | with_reducible refine er_neB ?_
  | with_reducible refine er_lt ?_
  | with_reducible refine er_le ?_
  | with_reducible refine er_gt ?_
  | with_reducible refine er_ge ?_
  | with_reducible refine er_isN_non ?_
  | with_reducible refine er_isN_bl ?_
  | with_reducible refine er_isN_int ?_
  | with_reducible refine er_isN_str ?_
  | with_reducible refine er_isN_ref ?_
  | with_reducible refine er_notN_non ?_
  | with_reducible refine er_notN_bl ?_
  | with_reducible refine er_notN_int ?_
  | with_reducible refine er_notN_str ?_
  | with_reducible refine er_notN_ref ?_
  | with_reducible refine er_isN ?_
  | with_reducible refine er_notN ?_
  | with_reducible refine ec_int ?_
  | with_reducible refine ec_intB ?_
  | with_reducible refine ec_max2 ?_
  | with_reducible refine ec_min2 ?_
  | with_reducible refine ip_I ?_
  | ((with_reducible refine eg_name ?_); (try dsimp only [L2.wipe, List.set_cons_zero, List.set_cons_succ]))
  | with_reducible refine eg_sub ?_
  | with_reducible refine egs_cons ?_
  | with_reducible refine egs_nil ?_
  | with_reducible refine tru_bl ?_
  | with_reducible refine tru_int ?_
  | with_reducible refine tru_non ?_
  | with_reducible refine iteT ?_
  | with_reducible refine iteF ?_
  | with_reducible refine ite_nt ?_
  | with_reducible refine ite_nf ?_
  | with_reducible refine ex_bl ?_
  | with_reducible refine ex_int ?_
  | with_reducible refine ex_str ?_
  | with_reducible refine ex_strx ?_
  | with_reducible refine ex_ints1 ?_
  | with_reducible refine ex_ints2 ?_)
local macro_rules | `(tactic| k_extra "t1") => `(tactic| first
  | with_reducible refine es_asg ?_
  | with_reducible refine es_if ?_
  | with_reducible refine es_ret ?_
  | with_reducible refine es_drop ?_
  | with_reducible refine es_augS ?_
  | with_reducible refine es_fld ?_)
local macro_rules | `(tactic| k_extra "e") => `(tactic| first
  | ((with_reducible refine es_seq ?_); (try k_extra "t1"); (repeat k_extra "e1"))
  | (k_extra "t1"; (repeat k_extra "e1"))
  | (k_extra "e1"; (repeat k_extra "e1"))
  | ((with_reducible refine es_unf ?_); (refine es_seq ?_); (try k_extra "t1"); (repeat k_extra "e1")))
/-! ### dicts of marks -/
abbrev mkT (m : Mk) : List L2.Key × V := (mkK m, .bl true)
theorem mkK_eq {a b : Mk} : mkK a = mkK b ↔ a = b := ⟨mkK_inj, fun h => by rw [h]⟩
def addM (ms : List Mk) (m : Mk) : List Mk := if m ∈ ms then ms else ms ++ [m]
theorem put_mkT (ms : List Mk) (m : Mk) : putK (ms.map mkT) (mkK m) (.bl true) = (addM ms m).map mkT := by
  unfold putK addM
  by_cases h : m ∈ ms
  · rw [if_pos h, if_pos (List.any_eq_true.mpr ⟨mkT m, List.mem_map.mpr ⟨m, h, rfl⟩, by simp⟩)]
    rw [List.map_map]
    refine List.map_congr_left fun x _ => ?_
    show (if mkK x = mkK m then (mkK x, V.bl true) else mkT x) = mkT x
    split <;> rfl
  · rw [if_neg h, if_neg (fun z => ?_), List.map_append]; rfl
    obtain ⟨x, hx, hx2⟩ := List.any_eq_true.mp z
    obtain ⟨y, hy, rfl⟩ := List.mem_map.mp hx
    have : mkK y = mkK m := of_decide_eq_true hx2
    rw [mkK_eq] at this
    subst this; exact h hy
def dedup (l : List Mk) : List Mk := l.foldl addM []
theorem dedup_snoc (l : List Mk) (m : Mk) : dedup (l ++ [m]) = addM (dedup l) m := by unfold dedup; rw [List.foldl_append]; rfl
theorem addM_mem {ms : List Mk} {m x : Mk} : x ∈ addM ms m ↔ x ∈ ms ∨ x = m := by
  unfold addM
  split
  · rename_i h
    constructor
    · exact .inl
    · rintro (h' | rfl)
      · exact h'
      · exact h
  · rw [List.mem_append, List.mem_singleton]
theorem dedup_mem : ∀ (l : List Mk) (x : Mk), x ∈ dedup l ↔ x ∈ l := by
  intro l
  induction l using snoc_ind with
  | h0 => intro x; exact Iff.rfl
  | hs l m ih => intro x; rw [dedup_snoc, addM_mem, ih, List.mem_append, List.mem_singleton]
theorem dedup_nodup : ∀ l : List Mk, (dedup l).Nodup := by
  intro l
  induction l using snoc_ind with
  | h0 => exact List.nodup_nil
  | hs l m ih =>
    rw [dedup_snoc]
    unfold addM
    split
    · exact ih
    · rename_i h
      rw [List.nodup_append]
      exact ⟨ih, by simp, fun a ha b hb e => by rw [List.mem_singleton] at hb; subst hb; subst e; exact h ha⟩
theorem dedup_len (l : List Mk) : (dedup l).length ≤ l.length := by
  induction l using snoc_ind with
  | h0 => exact Nat.le_refl _
  | hs l m ih =>
    rw [dedup_snoc, List.length_append, List.length_cons, List.length_nil]
    unfold addM
    split
    · omega
    · rw [List.length_append, List.length_cons, List.length_nil]; omega
/-- a dict of marks tells the marks of a list -/
def Marks (kvs : List (List L2.Key × V)) (l : List Mk) : Prop := ∀ m : Mk, (valV kvs (mkK m)).isSome = l.contains m
theorem Marks.nil : Marks [] [] := fun m => rfl
theorem marks_merge : ∀ (ms : List Mk) {kvs : List (List L2.Key × V)} {l : List Mk}, Marks kvs l → Marks (mergeT kvs (ms.map mkT)) (l ++ ms)
  | [], kvs, l, h => by rw [List.append_nil]; exact h
  | a :: r, kvs, l, h => by
    have h1 : Marks (putK kvs (mkK a) (.bl true)) (l ++ [a]) := fun m => by
      rw [valV_put]
      by_cases e : m = a
      · subst e; rw [if_pos rfl]; simp
      · rw [if_neg (fun z => e (mkK_inj z)), h m]
        rw [List.contains_eq_mem, List.contains_eq_mem]
        simp [e]
    have := marks_merge r h1
    rw [List.append_assoc] at this
    exact this
theorem marks_congr {kvs : List (List L2.Key × V)} {l l' : List Mk} (h : Marks kvs l) (e : ∀ m, m ∈ l ↔ m ∈ l') : Marks kvs l' := fun m => by
  rw [h m, List.contains_eq_mem, List.contains_eq_mem]
  exact decide_eq_decide.mpr (e m)
theorem mkV (m : Mk) : (mkK m).map kV = [V.int m.1, V.int m.2] := rfl
def S_Deeds_row (K : PySem.W.Frag) (A : Ad) : Pm := fun vs G Q _ => ∃ (a : Addr) (m : Str) (vss : List (List V)) (rows : List (List De)) (B : Int), vs = [.ref a, .str m] ∧ DsAt A G a vss ∧ Rz G vss rows ∧ Wf B rows ∧ B ≤ 10000000000000000 ∧ LamX.Tabs (Tb A) G ∧
  ∀ p acc G', MU A G G' → Nn G p → G' p = some (.lst acc) → Izs G' acc ((rowOf rows m).map rowD) → Q (.ref p) G'
/-! Deeds.row -/
def t_Deeds_row_1 (K : PySem.W.Frag) (A : Ad) : TS := tSeq (tDrop (tBM K "list" (rExtend) (tVar 3) (tCons (tLc (iList K (tCall (up (S_inserted K A)) [] E0 (tCons (tVar 4) (tCons (tVar 5) tNil)))) (gTup K 3 (gCons (gName 9) (gCons (gName 10) (gCons (gName 11) gNil)))) tYes (tTup (tCons (tVar 9) (tCons (tVar 10) (tCons (tVar 11) (tCons (tVar 6) tNil))))) [9, 10, 11]) tNil))) (tIfS (tTru K (tVar 6)) (tDrop (tBM K "dict" rUpdT (tVar 2) (tCons (tDcT (iTup K (tOp (rIx K) (tVar 5) (tC (.int 2)))) (gName 9) tYes (tVar 9) (tC (.bl true)) [9]) tNil))) tNext)
def t_Deeds_row_2 (K : PySem.W.Frag) (A : Ad) : TS := tSeq (tDrop (tBM K "list" (rInsertU) (tVar 7) (tCons (tVar 12) (tCons (tVar 9) tNil)))) (sDPut (tVar 8) (tVar 9) (tTup (tCons (tVar 11) (tCons (tAndV (tVar 6) (tDNotIn (tVar 9) (tVar 2))) tNil))))
def t_Deeds_row_3 (K : PySem.W.Frag) (A : Ad) : TS := tSeq (tIfS (tTest (tOp (rNotN) (tVar 10) (tC .non))) (tAsg (tOp (rAddU K) (tBM K "list" (rIndexD K) (tVar 7) (tCons (tVar 10) tNil)) (tC (.int 1))) (gName 12)) tNext) (t_Deeds_row_2 K A)
def t_Deeds_row_4 (K : PySem.W.Frag) (A : Ad) : TS := tSeq (tAsg (tC (.int 0)) (gName 12)) (t_Deeds_row_3 K A)
def t_Deeds_row_5 (K : PySem.W.Frag) (A : Ad) : TS := tSeq (tFor (iList K (tSortL K (Tb A) (tCons (tVar 3) tNil))) (gTup K 4 (gCons (gName 9) (gCons (gName 10) (gCons (gName 11) (gCons (gName 6) gNil))))) (t_Deeds_row_4 K A)) (tRet (tLc (iList K (tVar 7)) (gName 9) tYes (tOp (rAddU K) (tTup (tCons (tVar 9) tNil)) (tDGet (tVar 8) (tVar 9))) [9]))
def t_Deeds_row_6 (K : PySem.W.Frag) (A : Ad) : TS := tSeq (tAsg tDNewT (gName 8)) (t_Deeds_row_5 K A)
def t_Deeds_row_7 (K : PySem.W.Frag) (A : Ad) : TS := tSeq (tAsg (tLst tNil) (gName 7)) (t_Deeds_row_6 K A)
def t_Deeds_row_8 (K : PySem.W.Frag) (A : Ad) : TS := tSeq (tFor (iList K (tMeth A.cDeeds "changes" (up (S_Deeds_changes K A)) [] E0 (tVar 0) (tCons (tVar 1) tNil))) (gTup K 3 (gCons (gName 4) (gCons (gName 5) (gCons (gName 6) gNil)))) (t_Deeds_row_1 K A)) (t_Deeds_row_7 K A)
def t_Deeds_row_9 (K : PySem.W.Frag) (A : Ad) : TS := tSeq (tAsg (tLst tNil) (gName 3)) (t_Deeds_row_8 K A)
def t_Deeds_row (K : PySem.W.Frag) (A : Ad) : TS := tSeq (tAsg tDNewT (gName 2)) (t_Deeds_row_9 K A)
theorem len_Deeds_row {K : PySem.W.Frag} {A : Ad} : ∀ vs G Q E, S_Deeds_row K A vs G Q E → vs.length = ["self", "module"].length := by
  rintro vs G Q E ⟨a, m, vss, rows, B, rfl, _⟩; rfl
/-- {mark: True for mark in deed[2]} -/
theorem ee_marks {K : PySem.W.Frag} {G : Hp} {Q : V → Hp → Prop} {tl : TE} {σ : L2.St} {i : Nat} {rm : List Mk} (hi : i < σ.length) (h : Ee tl σ G fun v G1 => ∃ a xs, v = .ref a ∧ G1 a = some (.tup xs) ∧ Izs G1 xs (rm.map mP) ∧ rm.length ≤ 1000 ∧
      ∀ p G2, Ex G1 G2 → G2 p = none → Q (.ref p) (upd G2 p (.dT ((dedup rm).map mkT)))) : Ee (tDcT (iTup K tl) (gName i) tYes (tVar i) (tC (.bl true)) [i]) σ G Q := by
  refine ee_dcT (ei_tup fun H Q' e l => h H _ e fun v G1 H1 e1 ⟨a, xs, h1, h2, h3, h4, q⟩ => l _ G1 H1 e1 ⟨a, xs, h1, SqT.of h2, _, (fun G => SqT K G a xs), _, wk_tup (a := a) (xs := xs), fun G p o hg hn => (Ex.new hn).st hg, fun p hp => ?_⟩)
  have lx := izs_len h3
  rw [List.length_map] at lx
  refine ⟨fun j kvs G' => Ex G1 G' ∧ G' p = none ∧ kvs = (dedup (rm.take j)).map mkT ∧ j ≤ rm.length, ⟨Ex.refl _, hp, rfl, Nat.zero_le _⟩, ?_, ?_, ?_⟩
  · rintro j kvs G' _ ⟨x1, x2, rfl, x4⟩
    have := dedup_len (rm.take j)
    rw [List.length_take] at this
    exact ⟨x2, by rw [List.length_map]; exact szlt (by omega), SqT.of (x1 _ _ h2)⟩
  · rintro j kvs x G' G'' hj ⟨x1, x2, rfl, x4⟩ ⟨rfl, hx⟩
    have hx : xs[j]? = some x := hx
    have hjr : j < rm.length := by omega
    have hrm := List.getElem?_eq_getElem hjr
    obtain ⟨x', hx', ix⟩ := izs_get h3 (show (rm.map mP)[j]? = some (mP rm[j]) by rw [List.getElem?_map, hrm]; rfl)
    rw [hx] at hx'; cases hx'
    obtain ⟨t, rfl, ht⟩ := iz_mark ix
    refine eg_name ⟨?_, et_yes ?_⟩
    · show (((σ.set i none).set i (some (.ref t))).set i none) = σ.set i none
      rw [List.set_set, List.set_set]
    refine iteT ?_
    refine ee_var (v := .ref t) ?_ ?_
    · show ((σ.set i none).set i (some (V.ref t)))[i]? = _
      rw [List.set_set, List.getElem?_set_self hi]
    refine ee_c ⟨mkK rm[j], t, rfl, (x1.trans (Ex.new x2)) _ _ ht, upd_same, G', Ex.refl _, x1, x2, ?_, by omega⟩
    rw [put_mkT, List.take_add_one, hrm]
    exact congrArg (List.map mkT) (dedup_snoc _ _).symm
  · rintro kvs G' ⟨x1, x2, rfl, x4⟩
    rw [List.take_of_length_le (by omega)]
    exact q p G' x1 x2
end Lw

namespace Lw
open PySem PySem.Spec PyProof.Rows L2
local macro_rules | `(tactic| k_extra "x1") => `(tactic| first
  | with_reducible refine es_seq ?_
  | with_reducible refine es_asg ?_
  | with_reducible refine es_if ?_
  | with_reducible refine es_ret ?_
  | with_reducible refine es_drop ?_
  | with_reducible refine es_next ?_
  | with_reducible refine es_augS ?_
  | with_reducible refine es_fld ?_
  | ((with_reducible show Ee (tVar _) _ _ _); refine ee_var rfl ?_)
  | with_reducible refine ee_c ?_
  | with_reducible refine ee_op ?_
  | with_reducible refine ee_un ?_
  | with_reducible refine eu_neg ?_
  | with_reducible refine ee_cb ?_
  | with_reducible refine ee_call ?_
  | with_reducible refine ea_nil ?_
  | with_reducible refine ea_cons ?_
  | with_reducible refine ee_sl ?_
  | with_reducible refine eo_no ?_
  | with_reducible refine eo_part ?_
  | with_reducible refine ee_tup ?_
  | with_reducible refine ee_lst ?_
  | with_reducible refine et_test ?_
  | with_reducible refine et_tB ?_
  | with_reducible refine et_tru ?_
  | with_reducible refine et_and ?_
  | with_reducible refine et_or ?_
  | with_reducible refine et_not ?_
  | with_reducible refine ee_and ?_
  | with_reducible refine ee_or ?_
  | with_reducible refine ee_not ?_
  | with_reducible refine ee_if ?_
  | with_reducible refine ee_chain ?_
  | with_reducible refine er_addI ?_
  | with_reducible refine er_subI ?_
  | with_reducible refine er_eqI ?_
  | with_reducible refine er_neI ?_
  | with_reducible refine er_eqNI ?_
  | with_reducible refine er_eqS ?_
  | with_reducible refine er_neS ?_
  | with_reducible refine er_eqB ?_
  | with_reducible refine er_neB ?_
  | with_reducible refine er_lt ?_
  | with_reducible refine er_le ?_
  | with_reducible refine er_gt ?_
  | with_reducible refine er_ge ?_
  | with_reducible refine er_isN_non ?_
  | with_reducible refine er_isN_bl ?_
  | with_reducible refine er_isN_int ?_
  | with_reducible refine er_isN_str ?_
  | with_reducible refine er_isN_ref ?_
  | with_reducible refine er_notN_non ?_
  | with_reducible refine er_notN_bl ?_
  | with_reducible refine er_notN_int ?_
  | with_reducible refine er_notN_str ?_
  | with_reducible refine er_notN_ref ?_
  | with_reducible refine er_isN ?_
  | with_reducible refine er_notN ?_
  | with_reducible refine ec_int ?_
  | with_reducible refine ec_intB ?_
  | with_reducible refine ec_max2 ?_
  | with_reducible refine ec_min2 ?_
  | with_reducible refine ip_I ?_
  | ((with_reducible refine eg_name ?_); (try dsimp only [L2.wipe, List.set_cons_zero, List.set_cons_succ]))
  | with_reducible refine eg_sub ?_
  | with_reducible refine egs_cons ?_
  | with_reducible refine egs_nil ?_
  | with_reducible refine tru_bl ?_
  | with_reducible refine tru_int ?_
  | with_reducible refine tru_non ?_
  | with_reducible refine iteT ?_
  | with_reducible refine iteF ?_
  | with_reducible refine ite_nt ?_
  | with_reducible refine ite_nf ?_
  | with_reducible refine ⟨_, rfl, ?_⟩)
local macro_rules | `(tactic| k_extra "s") => `(tactic| ((first | k_extra "x1" | ((with_reducible refine es_unf ?_); refine es_seq ?_)); (repeat k_extra "x1")))
local macro_rules | `(tactic| k_extra "x") => `(tactic| (repeat first | k_extra "x1" | ((with_reducible refine es_unf ?_); refine es_seq ?_)))
local macro_rules | `(tactic| k_extra "start") => `(tactic| dsimp only [L2.start, List.map_cons, List.map_nil, List.length_cons, List.length_nil, Nat.reduceAdd, Nat.reduceSub, List.replicate, List.cons_append, List.nil_append, Nat.zero_add])
local macro_rules | `(tactic| k_extra "e1") => `(tactic| first
  | with_reducible refine es_next ?_
  | ((with_reducible show Ee (tVar _) _ _ _); refine ee_var rfl ?_)
  | with_reducible refine ee_c ?_
  | with_reducible refine ee_op ?_
  | with_reducible refine ee_un ?_
  | with_reducible refine eu_neg ?_
  | with_reducible refine ee_cb ?_
  | with_reducible refine ee_call ?_
  | with_reducible refine ea_nil ?_
  | with_reducible refine ea_cons ?_
  | with_reducible refine ee_sl ?_
  | with_reducible refine eo_no ?_
  | with_reducible refine eo_part ?_
  | with_reducible refine ee_tup ?_
  | with_reducible refine ee_lst ?_
  | with_reducible refine et_test ?_
  | with_reducible refine et_tB ?_
  | with_reducible refine et_tru ?_
  | with_reducible refine et_and ?_
  | with_reducible refine et_or ?_
  | with_reducible refine et_not ?_
  | with_reducible refine ee_and ?_
  | with_reducible refine ee_or ?_
  | with_reducible refine ee_not ?_
  | with_reducible refine ee_if ?_
  | with_reducible refine ee_chain ?_
  | with_reducible refine er_addI ?_
  | with_reducible refine er_subI ?_
  | with_reducible refine er_eqI ?_
  | with_reducible refine er_neI ?_
  | with_reducible refine er_eqNI ?_
  | with_reducible refine er_eqS ?_
  | with_reducible refine er_neS ?_
  | with_reducible refine er_eqB ?_
  | with_reducible refine er_neB ?_
  | with_reducible refine er_lt ?_
  | with_reducible refine er_le ?_
  | with_reducible refine er_gt ?_
  | with_reducible refine er_ge ?_
  | with_reducible refine er_isN_non ?_
  | with_reducible refine er_isN_bl ?_
  | with_reducible refine er_isN_int ?_
  | with_reducible refine er_isN_str ?_
  | with_reducible refine er_isN_ref ?_
  | with_reducible refine er_notN_non ?_
  | with_reducible refine er_notN_bl ?_
  | with_reducible refine er_notN_int ?_
  | with_reducible refine er_notN_str ?_
  | with_reducible refine er_notN_ref ?_
  | with_reducible refine er_isN ?_
  | with_reducible refine er_notN ?_
  | with_reducible refine ec_int ?_
  | with_reducible refine ec_intB ?_
  | with_reducible refine ec_max2 ?_
  | with_reducible refine ec_min2 ?_
  | with_reducible refine ip_I ?_
  | ((with_reducible refine eg_name ?_); (try dsimp only [L2.wipe, List.set_cons_zero, List.set_cons_succ]))
  | with_reducible refine eg_sub ?_
  | with_reducible refine egs_cons ?_
  | with_reducible refine egs_nil ?_
  | with_reducible refine tru_bl ?_
  | with_reducible refine tru_int ?_
  | with_reducible refine tru_non ?_
  | with_reducible refine iteT ?_
  | with_reducible refine iteF ?_
  | with_reducible refine ite_nt ?_
  | with_reducible refine ite_nf ?_
  | with_reducible refine ex_bl ?_
  | with_reducible refine ex_int ?_
  | with_reducible refine ex_str ?_
  | with_reducible refine ex_strx ?_
  | with_reducible refine ex_ints1 ?_
  | with_reducible refine ex_ints2 ?_)
local macro_rules | `(tactic| k_extra "t1") => `(tactic| first
  | with_reducible refine es_asg ?_
  | with_reducible refine es_if ?_
  | with_reducible refine es_ret ?_
  | with_reducible refine es_drop ?_
  | with_reducible refine es_augS ?_
  | with_reducible refine es_fld ?_)
local macro_rules | `(tactic| k_extra "e") => `(tactic| first
  | ((with_reducible refine es_seq ?_); (try k_extra "t1"); (repeat k_extra "e1"))
  | (k_extra "t1"; (repeat k_extra "e1"))
  | (k_extra "e1"; (repeat k_extra "e1"))
  | ((with_reducible refine es_unf ?_); (refine es_seq ?_); (try k_extra "t1"); (repeat k_extra "e1")))
theorem Up.mutD {T : List (Addr × Str)} {G H : Hp} {p : Addr} {o : HO} {kvs : List (List L2.Key × V)} (e : Up T G H) (hp : H p = some (.dT kvs)) (n : Nn G p) : Up T G (upd H p o) :=
  e.mut hp (fun ps z => by cases z) (fun q c z => by unfold LamX.CodeO at z; cases z) n
theorem row_place {K : PySem.W.Frag} {A : Ad} {G : Hp} {Q : V → Hp → Prop} {B : Int} {rows : List (List De)} {m : Str} {pf pd : Addr} {vs : List V} {kvs : List (List L2.Key × V)} {c0 c1 c4 c5 c6 c7 c8 c9 c10 c11 c12 : Option V} (w : Wf B rows) (T : LamX.Tabs (Tb A) G)
    (hf : G pf = some (.lst vs)) (hI : Izs G vs ((found (chg rows m)).map enD)) (hd : G pd = some (.dT kvs)) (hM : Marks kvs (removed (chg rows m)))
    (q : ∀ p acc G', MU A G G' → Nn G p → G' p = some (.lst acc) → Izs G' acc ((rowOf rows m).map rowD) → Q (.ref p) G') :
    Es (t_Deeds_row_7 K A) { nx := fun _ G' => Q .non G', rt := Q } [c0, c1, some (.ref pd), some (.ref pf), c4, c5, c6, c7, c8, c9, c10, c11, c12] G := by
  have hl : vs.length = (found (chg rows m)).length := by have := izs_len hI; rwa [List.length_map] at this
  k_extra "e"
  refine ⟨sz1000 (by simp), fun pw hpw => ?_⟩
  k_extra "e"
  k_extra "e"
  refine ee_dnewT fun pn hpn => ?_
  have hwn : pw ≠ pn := ne_new upd_same hpn
  have hpnG : G pn = none := nul_upd hpn
  have e0 := (Ex.new (o := .lst []) hpw).trans (Ex.new (o := .dT []) hpn)
  have g0 : upd (upd G pw (.lst [])) pn (.dT []) pw = some (.lst []) := get_new upd_same hpn
  have g1 : upd (upd G pw (.lst [])) pn (.dT []) pn = some (.dT []) := upd_same
  generalize upd (upd G pw (.lst [])) pn (.dT []) = G1 at e0 g0 g1 ⊢
  k_extra "e"
  k_extra "e"
  refine es_forL ?_
  refine ee_sortL ?_
  k_extra "e"
  refine ⟨pf, keyd vs (found (chg rows m)), rfl, by rw [keyd_fst hl]; exact SqL.of (e0 _ _ hf), keyd_ents (e0.tz.izs hI), T.ext e0, fun G2 ps u2 T2 hps => ?_⟩
  have hS : Izs (upd G2 ps (.lst (((keyd vs (found (chg rows m))).mergeSort mkLe).map (·.1)))) (((keyd vs (found (chg rows m))).mergeSort mkLe).map (·.1)) ((srt rows m).map enD) := (Ex.new hps).tz.izs (keyd_sort (u2.tz.izs (e0.tz.izs hI)))
  have g0' := u2.lst g0
  have g1' : G2 pn = some (.dT []) := u2.get _ _ g1 (fun ps z => by cases z)
  have gd' : G2 pd = some (.dT kvs) := u2.get _ _ (e0 _ _ hd) (fun ps z => by cases z)
  have u3 : MU A G (upd G2 ps (.lst (((keyd vs (found (chg rows m))).mergeSort mkLe).map (·.1)))) := (e0.upm.trans u2).trans (Ex.new hps).upm
  have hw3 : upd G2 ps (.lst (((keyd vs (found (chg rows m))).mergeSort mkLe).map (·.1))) pw = some (.lst []) := get_new g0' hps
  have hn3 : upd G2 ps (.lst (((keyd vs (found (chg rows m))).mergeSort mkLe).map (·.1))) pn = some (.dT []) := get_new g1' hps
  have hd3 : upd G2 ps (.lst (((keyd vs (found (chg rows m))).mergeSort mkLe).map (·.1))) pd = some (.dT kvs) := get_new gd' hps
  have hs3 : upd G2 ps (.lst (((keyd vs (found (chg rows m))).mergeSort mkLe).map (·.1))) ps = some (.lst (((keyd vs (found (chg rows m))).mergeSort mkLe).map (·.1))) := upd_same
  have hpp : pw ≠ ps := ne_new g0' hps
  have hpn2 : pn ≠ ps := ne_new g1' hps
  have hdn : pd ≠ pn := fun z => by subst z; rw [hpnG] at hd; cases hd
  generalize ((keyd vs (found (chg rows m))).mergeSort mkLe).map (·.1) = svs at hS u3 hw3 hs3 hn3 hd3 ⊢
  generalize upd G2 ps (.lst svs) = G3 at hS u3 hw3 hs3 hn3 hd3 ⊢
  have hdw : pd ≠ pw := fun z => by subst z; rw [hw3] at hd3; cases hd3
  have hN : Nn G pw := Nn.of hpw
  have hNn : Nn G pn := Nn.of hpnG
  have lS : svs.length = (srt rows m).length := by have := izs_len hS; rwa [List.length_map] at this
  have lF := found_len w m
  have lF2 : (srt rows m).length = (found (chg rows m)).length := (srt_perm rows m).length_eq
  have nod := srt_nodup w m
  refine ⟨ps, svs, rfl, SqL.of hs3, fun i σ G' => ∃ c6 c9 c10 c11 c12 racc sk, σ = [c0, c1, some (.ref pd), some (.ref pf), c4, c5, c6, some (.ref pw), some (.ref pn), c9, c10, c11, c12] ∧ MU A G G' ∧ G' ps = some (.lst svs) ∧ Izs G' svs ((srt rows m).map enD) ∧ G' pw = some (.lst racc) ∧ Izs G' racc ((plc ((srt rows m).take i)).map fun e => mP e.mr) ∧ G' pd = some (.dT kvs) ∧ G' pn = some (.dT sk) ∧ sk.length ≤ i ∧
      (∀ (j : Nat) (e : Ent), j < i → (srt rows m)[j]? = some e → ∃ te, valV sk (mkK e.mr) = some (.ref te) ∧ G' te = some (.tup [.str ⟨#[e.ch]⟩, .bl (e.fo && !(removed (chg rows m)).contains e.mr)])) ∧ i ≤ (srt rows m).length,
    ⟨_, _, _, _, _, [], [], rfl, u3, hs3, hS, hw3, .nil, hd3, hn3, Nat.le_refl _, (fun j e h => by omega), Nat.zero_le _⟩, ?_, ?_, ?_⟩
  · rintro i σ G' ⟨c6, c9, c10, c11, c12, racc, sk, rfl, x1, x2, x3, x4, x5, x6, x7, x8, x9, x10⟩
    exact SqL.of x2
  · rintro i x σ G' hx ⟨c6, c9, c10, c11, c12, racc, sk, rfl, x1, x2, x3, x4, x5, x6, x7, x8, x9, x10⟩
    have hi : i < (srt rows m).length := by rw [← lS]; exact (List.getElem?_eq_some_iff.mp hx).1
    have he : (srt rows m)[i]? = some (srt rows m)[i] := List.getElem?_eq_getElem hi
    generalize (srt rows m)[i] = e at he
    have heD : ((srt rows m).map enD)[i]? = some (enD e) := by rw [List.getElem?_map, he]; rfl
    obtain ⟨y, hy, iy⟩ := izs_get x3 heD
    rw [hx] at hy; cases hy
    obtain ⟨t, vm, vb, rfl, h1, h2, h3⟩ := iz_ent iy
    obtain ⟨tm, rfl, htm⟩ := iz_mark h2
    have hnext : (srt rows m).take (i + 1) = (srt rows m).take i ++ [e] := by rw [List.take_add_one, he]; rfl
    have lp := plc_len ((srt rows m).take i)
    rw [List.length_take] at lp
    have lra : racc.length = i := by
      have := izs_len x5
      rw [List.length_map, lp] at this; omega
    -- no earlier one has this mark
    have other : ∀ (j : Nat) (e' : Ent), j < i → (srt rows m)[j]? = some e' → mkK e'.mr ≠ mkK e.mr := by
      intro j e' hj he' z
      have a1 : ((srt rows m).map (·.mr))[j]? = some e'.mr := by rw [List.getElem?_map, he']; rfl
      have a2 : ((srt rows m).map (·.mr))[i]? = some e.mr := by rw [List.getElem?_map, he]; rfl
      have b1 := List.getElem?_eq_some_iff.mp a1
      have b2 := List.getElem?_eq_some_iff.mp a2
      have := (List.getElem_inj nod).mp (b1.2.trans ((mkK_inj z).trans b2.2.symm))
      omega
    refine eg_tup (SqT.of h1) rfl ?_
    k_extra "e"
    k_extra "e"
    have fin : ∀ (n : Nat), n ≤ racc.length → (plc ((srt rows m).take i)).take n ++ [e] ++ (plc ((srt rows m).take i)).drop n = pin (plc ((srt rows m).take i)) e →
        Es (t_Deeds_row_2 K A) (Bd { nx := fun σ' G' => Es (tRet (tLc (iList K (tVar 7)) (gName 9) tYes (tOp (rAddU K) (tTup (tCons (tVar 9) tNil)) (tDGet (tVar 8) (tVar 9))) [9])) { nx := fun _ G' => Q .non G', rt := Q } σ' G', rt := Q } fun σ G' => ∃ c6 c9 c10 c11 c12 racc sk, σ = [c0, c1, some (.ref pd), some (.ref pf), c4, c5, c6, some (.ref pw), some (.ref pn), c9, c10, c11, c12] ∧ MU A G G' ∧ G' ps = some (.lst svs) ∧ Izs G' svs ((srt rows m).map enD) ∧ G' pw = some (.lst racc) ∧ Izs G' racc ((plc ((srt rows m).take (i + 1))).map fun e => mP e.mr) ∧ G' pd = some (.dT kvs) ∧ G' pn = some (.dT sk) ∧ sk.length ≤ i + 1 ∧
          (∀ (j : Nat) (e : Ent), j < i + 1 → (srt rows m)[j]? = some e → ∃ te, valV sk (mkK e.mr) = some (.ref te) ∧ G' te = some (.tup [.str ⟨#[e.ch]⟩, .bl (e.fo && !(removed (chg rows m)).contains e.mr)])) ∧ i + 1 ≤ (srt rows m).length)
          [c0, c1, some (.ref pd), some (.ref pf), c4, c5, some (.bl e.fo), some (.ref pw), some (.ref pn), some (.ref tm), some vb, some (.str ⟨#[e.ch]⟩), some (.int (n : Int))] G' := by
      intro n hn hp
      k_extra "e"
      refine ee_bm ?_
      k_extra "e"
      refine ⟨ty_lst x4, ?_⟩
      k_extra "e"
      refine em_insert x4 (szlt (by omega)) (by omega) ?_
      have tz := Tz.mutL (o := .lst (racc.take n ++ [.ref tm] ++ racc.drop n)) x4
      have ux := x1.mutL (o := .lst (racc.take n ++ [.ref tm] ++ racc.drop n)) x4 hN
      have w1 : upd G' pw (.lst (racc.take n ++ [.ref tm] ++ racc.drop n)) pw = some (.lst (racc.take n ++ [.ref tm] ++ racc.drop n)) := upd_same
      have w2 := get_ne (u := .lst (racc.take n ++ [.ref tm] ++ racc.drop n)) x2 hpp.symm
      have w3 := get_ne (u := .lst (racc.take n ++ [.ref tm] ++ racc.drop n)) x6 hdw
      have w4 := get_ne (u := .lst (racc.take n ++ [.ref tm] ++ racc.drop n)) x7 hwn.symm
      have w5 : Izs (upd G' pw (.lst (racc.take n ++ [.ref tm] ++ racc.drop n))) (racc.take n ++ [.ref tm] ++ racc.drop n) ((plc ((srt rows m).take (i + 1))).map fun e => mP e.mr) := by
        rw [hnext, plc_snoc, ← hp, List.map_append, List.map_append, List.map_take, List.map_drop]
        refine izs_app (izs_app (izs_take n (tz.izs x5)) (.cons (tz.iz h2) .nil)) (izs_drop n (tz.izs x5))
      generalize upd G' pw (.lst (racc.take n ++ [.ref tm] ++ racc.drop n)) = G4 at tz ux w1 w2 w3 w4 w5 ⊢
      generalize racc.take n ++ [.ref tm] ++ racc.drop n = racc' at w1 w5
      have htm4 := tz _ _ htm
      refine es_dputT ?_
      k_extra "e"
      have last : ∀ tp, G4 tp = none → ∃ (a : Addr) (kvs' : List (List L2.Key × V)) (k : List L2.Key) (b : Addr), V.ref pn = .ref a ∧ upd G4 tp (.tup [.str ⟨#[e.ch]⟩, .bl (e.fo && !(removed (chg rows m)).contains e.mr)]) a = some (.dT kvs') ∧ V.ref tm = .ref b ∧ upd G4 tp (.tup [.str ⟨#[e.ch]⟩, .bl (e.fo && !(removed (chg rows m)).contains e.mr)]) b = some (.tup (k.map kV)) ∧ kvs'.length < sizeLine ∧
          ∃ c6 c9 c10 c11 c12 racc sk, [c0, c1, some (.ref pd), some (.ref pf), c4, c5, some (.bl e.fo), some (.ref pw), some (.ref pn), some (.ref tm), some vb, some (.str ⟨#[e.ch]⟩), some (.int (n : Int))] = [c0, c1, some (.ref pd), some (.ref pf), c4, c5, c6, some (.ref pw), some (.ref pn), c9, c10, c11, c12] ∧ MU A G (upd (upd G4 tp (.tup [.str ⟨#[e.ch]⟩, .bl (e.fo && !(removed (chg rows m)).contains e.mr)])) a (.dT (putK kvs' k (.ref tp)))) ∧ upd (upd G4 tp (.tup [.str ⟨#[e.ch]⟩, .bl (e.fo && !(removed (chg rows m)).contains e.mr)])) a (.dT (putK kvs' k (.ref tp))) ps = some (.lst svs) ∧ Izs (upd (upd G4 tp (.tup [.str ⟨#[e.ch]⟩, .bl (e.fo && !(removed (chg rows m)).contains e.mr)])) a (.dT (putK kvs' k (.ref tp)))) svs ((srt rows m).map enD) ∧ upd (upd G4 tp (.tup [.str ⟨#[e.ch]⟩, .bl (e.fo && !(removed (chg rows m)).contains e.mr)])) a (.dT (putK kvs' k (.ref tp))) pw = some (.lst racc) ∧ Izs (upd (upd G4 tp (.tup [.str ⟨#[e.ch]⟩, .bl (e.fo && !(removed (chg rows m)).contains e.mr)])) a (.dT (putK kvs' k (.ref tp)))) racc ((plc ((srt rows m).take (i + 1))).map fun e => mP e.mr) ∧ upd (upd G4 tp (.tup [.str ⟨#[e.ch]⟩, .bl (e.fo && !(removed (chg rows m)).contains e.mr)])) a (.dT (putK kvs' k (.ref tp))) pd = some (.dT kvs) ∧ upd (upd G4 tp (.tup [.str ⟨#[e.ch]⟩, .bl (e.fo && !(removed (chg rows m)).contains e.mr)])) a (.dT (putK kvs' k (.ref tp))) pn = some (.dT sk) ∧ sk.length ≤ i + 1 ∧
          (∀ (j : Nat) (e' : Ent), j < i + 1 → (srt rows m)[j]? = some e' → ∃ te, valV sk (mkK e'.mr) = some (.ref te) ∧ upd (upd G4 tp (.tup [.str ⟨#[e.ch]⟩, .bl (e.fo && !(removed (chg rows m)).contains e.mr)])) a (.dT (putK kvs' k (.ref tp))) te = some (.tup [.str ⟨#[e'.ch]⟩, .bl (e'.fo && !(removed (chg rows m)).contains e'.mr)])) ∧ i + 1 ≤ (srt rows m).length := by
        intro tp htp
        have e4 := Ex.new (o := .tup [.str ⟨#[e.ch]⟩, .bl (e.fo && !(removed (chg rows m)).contains e.mr)]) htp
        have gt : upd G4 tp (.tup [.str ⟨#[e.ch]⟩, .bl (e.fo && !(removed (chg rows m)).contains e.mr)]) tp = some (.tup [.str ⟨#[e.ch]⟩, .bl (e.fo && !(removed (chg rows m)).contains e.mr)]) := upd_same
        generalize upd G4 tp (.tup [.str ⟨#[e.ch]⟩, .bl (e.fo && !(removed (chg rows m)).contains e.mr)]) = G5 at e4 gt ⊢
        have g5 := e4 _ _ w4
        have tz5 := Tz.mutT (o := .dT (putK sk (mkK e.mr) (.ref tp))) g5
        refine ⟨pn, sk, mkK e.mr, tm, rfl, g5, rfl, e4 _ _ htm4, szlt (by omega), _, _, _, _, _, racc', putK sk (mkK e.mr) (.ref tp), rfl, (ux.trans e4.upm).mutD g5 hNn, by rw [upd_ne hpn2.symm]; exact e4 _ _ w2, ((tz.trans e4.tz).trans tz5).izs x3, by rw [upd_ne hwn]; exact e4 _ _ w1, (e4.tz.trans tz5).izs w5, by rw [upd_ne hdn]; exact e4 _ _ w3, upd_same, by have := length_putK sk (mkK e.mr) (.ref tp); omega, fun j e' hj he' => ?_, by omega⟩
        rw [valV_put]
        by_cases hji : j = i
        · subst hji
          rw [he] at he'; cases he'
          exact ⟨tp, by rw [if_pos rfl], tz5 _ _ gt⟩
        · rw [if_neg (other j e' (by omega) he')]
          obtain ⟨te, a1, a2⟩ := x9 j e' (by omega) he'
          exact ⟨te, a1, ((tz.trans e4.tz).trans tz5) _ _ a2⟩
      refine ifb (fun hfo => ?_) (fun hfo => ?_)
      · refine ee_dnotIn ?_
        k_extra "e"
        refine ⟨pd, _, rfl, DGet.t (k := mkK e.mr) w3 htm4, ?_⟩
        rw [hM]
        k_extra "e"
        refine ⟨sz1000 (by simp), fun tp htp => ?_⟩
        k_extra "e"
        have := last tp htp
        rw [hfo, Bool.true_and] at this
        rw [hfo]
        exact this
      · k_extra "e"
        refine ⟨sz1000 (by simp), fun tp htp => ?_⟩
        k_extra "e"
        have := last tp htp
        rw [hfo, Bool.false_and] at this
        rw [hfo]
        exact this
    cases hb : e.bh with
    | none =>
      rw [hb] at h3
      cases h3
      k_extra "e"
      exact fin 0 (Nat.zero_le _) (by rw [pin, hb]; rfl)
    | some b =>
      rw [hb] at h3
      obtain ⟨tb, rfl, htb⟩ := iz_mark h3
      have hbm := srt_beh w he hb
      have hjl := List.idxOf_lt_length_of_mem hbm
      rw [List.length_map, lp] at hjl
      k_extra "e"
      k_extra "e"
      refine ee_bm ?_
      k_extra "e"
      refine ⟨ty_lst x4, ?_⟩
      k_extra "e"
      have hidx := contains_idx hbm
      refine em_indexD (d := mP b) (ds := (plc ((srt rows m).take i)).map fun e => mP e.mr) (j := ((plc ((srt rows m).take i)).map (·.mr)).idxOf b) (z := mP b) (.lst (SqL.of x4) x5.dps) h3.dp ?_ (sh_mP _) ?_ (by rw [eqv_mP]; simp) (fun j z' hj hz' => ?_) ?_
      · have := sh_mPs ((plc ((srt rows m).take i)).map (·.mr))
        rw [List.map_map] at this
        exact this
      · rw [List.getElem?_map] at hidx ⊢
        obtain ⟨z, hz, hz'⟩ := Option.map_eq_some_iff.mp hidx
        rw [hz]; simp only [Option.map_some]; rw [hz']
      · rw [List.getElem?_map] at hz'
        obtain ⟨z, hz, rfl⟩ := Option.map_eq_some_iff.mp hz'
        rw [eqv_mP, decide_eq_false_iff_not]
        exact idx_first hj (by rw [List.getElem?_map, hz]; rfl)
      k_extra "e"
      have hcast : ((((plc ((srt rows m).take i)).map (·.mr)).idxOf b : Nat) : Int) + 1 = ((((plc ((srt rows m).take i)).map (·.mr)).idxOf b + 1 : Nat) : Int) := by omega
      rw [hcast]
      exact fin _ (by omega) (by rw [pin, hb])
  · rintro σ G' ⟨c6, c9, c10, c11, c12, racc, sk, rfl, x1, x2, x3, x4, x5, x6, x7, x8, x9, x10⟩
    rw [lS, List.take_length] at x5
    have lrp : racc.length = (plc (srt rows m)).length := by have := izs_len x5; rwa [List.length_map] at this
    have lp := plc_len (srt rows m)
    k_extra "e"
    refine ee_lcL ?_
    k_extra "e"
    refine ⟨pw, racc, rfl, SqL.of x4, fun p hp => ⟨fun k acc G2 => Ex G' G2 ∧ G2 p = none ∧ Izs G2 acc (((plc (srt rows m)).map (rwD (removed (chg rows m)))).take k) ∧ k ≤ racc.length, ⟨Ex.refl _, hp, .nil, Nat.zero_le _⟩, ?_, ?_, ?_⟩⟩
    · rintro k acc G2 ⟨y1, y2, y3, y4⟩
      have := izs_len y3
      rw [List.length_take] at this
      exact ⟨y2, szlt (by omega), SqL.of (y1 _ _ x4)⟩
    · rintro k acc y G2 hy ⟨y1, y2, y3, y4⟩
      have hk := (List.getElem?_eq_some_iff.mp hy).1
      have hk2 : k < (plc (srt rows m)).length := by omega
      have hz := List.getElem?_eq_getElem hk2
      generalize (plc (srt rows m))[k] = e at hz
      obtain ⟨y', hy', iy⟩ := izs_get x5 (show ((plc (srt rows m)).map fun e => mP e.mr)[k]? = some (mP e.mr) by rw [List.getElem?_map, hz]; rfl)
      rw [hy] at hy'; cases hy'
      obtain ⟨tm, rfl, htm⟩ := iz_mark iy
      obtain ⟨j, hj⟩ := List.getElem?_of_mem ((plc_mem _ _).mp (List.mem_of_getElem? hz))
      obtain ⟨te, a1, a2⟩ := x9 j e (by rw [lS]; exact (List.getElem?_eq_some_iff.mp hj).1) hj
      have y5 := y1.trans (Ex.new (o := .lst acc) y2)
      k_extra "e"
      refine ⟨rfl, et_yes ?_⟩
      refine iteT ?_
      k_extra "e"
      refine ⟨sz1000 (by simp), fun t1 ht1 => ?_⟩
      have y6 := y5.trans (Ex.new (o := .tup [.ref tm]) ht1)
      refine ee_dget ?_
      k_extra "e"
      refine ⟨pn, .ref te, rfl, by have := DGet.t (k := mkK e.mr) (y6 _ _ x7) (y6 _ _ htm); rw [a1] at this; exact this, ?_⟩
      refine er_addT (SqT.of upd_same) (SqT.of (y6 _ _ a2)) (by simp) (by simp) (sz1000 (by simp)) fun t2 ht2 => ?_
      have hp1 : p ≠ t1 := ne_new upd_same ht1
      have hp2 : p ≠ t2 := ne_new (get_new upd_same ht1) ht2
      have n1 : G2 t1 = none := nul_upd ht1
      have n2 : upd G2 t1 (.tup [.ref tm]) t2 = none := by
        have := ht2
        rw [upd_comm hp1] at this
        exact nul_upd this
      refine ⟨by rw [upd_ne hp2, upd_ne hp1, upd_same], upd (upd G2 t1 (.tup [.ref tm])) t2 (.tup ([.ref tm] ++ [.str ⟨#[e.ch]⟩, .bl (e.fo && !(removed (chg rows m)).contains e.mr)])), ?_, ?_, ?_, ?_, by omega⟩
      · rw [upd_comm hp1, upd_comm hp2]; exact Ex.refl _
      · exact y1.trans ((Ex.new n1).trans (Ex.new n2))
      · rw [upd_ne hp2, upd_ne hp1]; exact y2
      · have e9 := (Ex.new (o := .tup [.ref tm]) n1).trans (Ex.new (o := .tup ([.ref tm] ++ [.str ⟨#[e.ch]⟩, .bl (e.fo && !(removed (chg rows m)).contains e.mr)])) n2)
        rw [List.take_add_one, List.getElem?_map, hz]
        exact izs_app (e9.tz.izs y3) (.cons (.tup upd_same (.cons ((y1.trans e9).tz.iz iy) (.cons (.str _) (.cons (.bl _) .nil)))) .nil)
    · rintro acc G2 ⟨y1, y2, y3, y4⟩
      rw [List.take_of_length_le (by rw [List.length_map]; omega)] at y3
      refine q p _ _ (x1.trans (y1.trans (Ex.new y2)).upm) (x1.nn2 (Nn.of hp)) upd_same ?_
      rw [rowOf_D]
      exact (Ex.new y2).tz.izs y3
end Lw

namespace Lw
open PySem PySem.Spec PyProof.Rows L2
local macro_rules | `(tactic| k_extra "x1") => `(tactic| first
  | with_reducible refine es_seq ?_
  | with_reducible refine es_asg ?_
  | with_reducible refine es_if ?_
  | with_reducible refine es_ret ?_
  | with_reducible refine es_drop ?_
  | with_reducible refine es_next ?_
  | with_reducible refine es_augS ?_
  | with_reducible refine es_fld ?_
  | ((with_reducible show Ee (tVar _) _ _ _); refine ee_var rfl ?_)
  | with_reducible refine ee_c ?_
  | with_reducible refine ee_op ?_
  | with_reducible refine ee_un ?_
  | with_reducible refine eu_neg ?_
  | with_reducible refine ee_cb ?_
  | with_reducible refine ee_call ?_
  | with_reducible refine ea_nil ?_
  | with_reducible refine ea_cons ?_
  | with_reducible refine ee_sl ?_
  | with_reducible refine eo_no ?_
  | with_reducible refine eo_part ?_
  | with_reducible refine ee_tup ?_
  | with_reducible refine ee_lst ?_
  | with_reducible refine et_test ?_
  | with_reducible refine et_tB ?_
  | with_reducible refine et_tru ?_
  | with_reducible refine et_and ?_
  | with_reducible refine et_or ?_
  | with_reducible refine et_not ?_
  | with_reducible refine ee_and ?_
  | with_reducible refine ee_or ?_
  | with_reducible refine ee_not ?_
  | with_reducible refine ee_if ?_
  | with_reducible refine ee_chain ?_
  | with_reducible refine er_addI ?_
  | with_reducible refine er_subI ?_
  | with_reducible refine er_eqI ?_
  | with_reducible refine er_neI ?_
  | with_reducible refine er_eqNI ?_
  | with_reducible refine er_eqS ?_
  | with_reducible refine er_neS ?_
  | with_reducible refine er_eqB ?_
  | with_reducible refine er_neB ?_
  | with_reducible refine er_lt ?_
  | with_reducible refine er_le ?_
  | with_reducible refine er_gt ?_
  | with_reducible refine er_ge ?_
  | with_reducible refine er_isN_non ?_
  | with_reducible refine er_isN_bl ?_
  | with_reducible refine er_isN_int ?_
  | with_reducible refine er_isN_str ?_
  | with_reducible refine er_isN_ref ?_
  | with_reducible refine er_notN_non ?_
  | with_reducible refine er_notN_bl ?_
  | with_reducible refine er_notN_int ?_
  | with_reducible refine er_notN_str ?_
  | with_reducible refine er_notN_ref ?_
  | with_reducible refine er_isN ?_
  | with_reducible refine er_notN ?_
  | with_reducible refine ec_int ?_
  | with_reducible refine ec_intB ?_
  | with_reducible refine ec_max2 ?_
  | with_reducible refine ec_min2 ?_
  | with_reducible refine ip_I ?_
  | ((with_reducible refine eg_name ?_); (try dsimp only [L2.wipe, List.set_cons_zero, List.set_cons_succ]))
  | with_reducible refine eg_sub ?_
  | with_reducible refine egs_cons ?_
  | with_reducible refine egs_nil ?_
  | with_reducible refine tru_bl ?_
  | with_reducible refine tru_int ?_
  | with_reducible refine tru_non ?_
  | with_reducible refine iteT ?_
  | with_reducible refine iteF ?_
  | with_reducible refine ite_nt ?_
  | with_reducible refine ite_nf ?_
  | with_reducible refine ⟨_, rfl, ?_⟩)
local macro_rules | `(tactic| k_extra "s") => `(tactic| ((first | k_extra "x1" | ((with_reducible refine es_unf ?_); refine es_seq ?_)); (repeat k_extra "x1")))
local macro_rules | `(tactic| k_extra "x") => `(tactic| (repeat first | k_extra "x1" | ((with_reducible refine es_unf ?_); refine es_seq ?_)))
local macro_rules | `(tactic| k_extra "start") => `(tactic| dsimp only [L2.start, List.map_cons, List.map_nil, List.length_cons, List.length_nil, Nat.reduceAdd, Nat.reduceSub, List.replicate, List.cons_append, List.nil_append, Nat.zero_add])
local macro_rules | `(tactic| k_extra "e1") => `(tactic| first
  | with_reducible refine es_next ?_
  | ((with_reducible show Ee (tVar _) _ _ _); refine ee_var rfl ?_)
  | with_reducible refine ee_c ?_
  | with_reducible refine ee_op ?_
  | with_reducible refine ee_un ?_
  | with_reducible refine eu_neg ?_
  | with_reducible refine ee_cb ?_
  | with_reducible refine ee_call ?_
  | with_reducible refine ea_nil ?_
  | with_reducible refine ea_cons ?_
  | with_reducible refine ee_sl ?_
  | with_reducible refine eo_no ?_
  | with_reducible refine eo_part ?_
  | with_reducible refine ee_tup ?_
  | with_reducible refine ee_lst ?_
  | with_reducible refine et_test ?_
  | with_reducible refine et_tB ?_
  | with_reducible refine et_tru ?_
  | with_reducible refine et_and ?_
  | with_reducible refine et_or ?_
  | with_reducible refine et_not ?_
  | with_reducible refine ee_and ?_
  | with_reducible refine ee_or ?_
  | with_reducible refine ee_not ?_
  | with_reducible refine ee_if ?_
  | with_reducible refine ee_chain ?_
  | with_reducible refine er_addI ?_
  | with_reducible refine er_subI ?_
  | with_reducible refine er_eqI ?_
  | with_reducible refine er_neI ?_
  | with_reducible refine er_eqNI ?_
  | with_reducible refine er_eqS ?_
  | with_reducible refine er_neS ?_
  | with_reducible refine er_eqB ?_
  | with_reducible refine er_neB ?_
  | with_reducible refine er_lt ?_
  | with_reducible refine er_le ?_
  | with_reducible refine er_gt ?_
  | with_reducible refine er_ge ?_
  | with_reducible refine er_isN_non ?_
  | with_reducible refine er_isN_bl ?_
  | with_reducible refine er_isN_int ?_
  | with_reducible refine er_isN_str ?_
  | with_reducible refine er_isN_ref ?_
  | with_reducible refine er_notN_non ?_
  | with_reducible refine er_notN_bl ?_
  | with_reducible refine er_notN_int ?_
  | with_reducible refine er_notN_str ?_
  | with_reducible refine er_notN_ref ?_
  | with_reducible refine er_isN ?_
  | with_reducible refine er_notN ?_
  | with_reducible refine ec_int ?_
  | with_reducible refine ec_intB ?_
  | with_reducible refine ec_max2 ?_
  | with_reducible refine ec_min2 ?_
  | with_reducible refine ip_I ?_
  | ((with_reducible refine eg_name ?_); (try dsimp only [L2.wipe, List.set_cons_zero, List.set_cons_succ]))
  | with_reducible refine eg_sub ?_
  | with_reducible refine egs_cons ?_
  | with_reducible refine egs_nil ?_
  | with_reducible refine tru_bl ?_
  | with_reducible refine tru_int ?_
  | with_reducible refine tru_non ?_
  | with_reducible refine iteT ?_
  | with_reducible refine iteF ?_
  | with_reducible refine ite_nt ?_
  | with_reducible refine ite_nf ?_
  | with_reducible refine ex_bl ?_
  | with_reducible refine ex_int ?_
  | with_reducible refine ex_str ?_
  | with_reducible refine ex_strx ?_
  | with_reducible refine ex_ints1 ?_
  | with_reducible refine ex_ints2 ?_)
local macro_rules | `(tactic| k_extra "t1") => `(tactic| first
  | with_reducible refine es_asg ?_
  | with_reducible refine es_if ?_
  | with_reducible refine es_ret ?_
  | with_reducible refine es_drop ?_
  | with_reducible refine es_augS ?_
  | with_reducible refine es_fld ?_)
local macro_rules | `(tactic| k_extra "e") => `(tactic| first
  | ((with_reducible refine es_seq ?_); (try k_extra "t1"); (repeat k_extra "e1"))
  | (k_extra "t1"; (repeat k_extra "e1"))
  | (k_extra "e1"; (repeat k_extra "e1"))
  | ((with_reducible refine es_unf ?_); (refine es_seq ?_); (try k_extra "t1"); (repeat k_extra "e1")))
theorem ok_Deeds_row {K : PySem.W.Frag} {A : Ad} (C : Cf K A) : ∀ vs G Q E, S_Deeds_row K A vs G Q E → Es (t_Deeds_row K A) { nx := fun _ G' => Q .non G', rt := Q } (L2.start ["self", "module", "removed", "found", "replica", "deed", "in_force", "places", "seen", "mark", "behind", "char", "index"] vs) G := by
  rintro vs G Q E ⟨a, m, vss, rows, B, rfl, hD, hz, w, hB, T, q⟩
  have hD' := hD
  obtain ⟨dx, pr, ha, hra⟩ := hD'
  change Es _ _ (_ :: _ :: _ :: _ :: _ :: _ :: _ :: _ :: _ :: _ :: _ :: _ :: _ :: []) _
  k_extra "e"
  refine ee_dnewT fun pd hpd => ?_
  k_extra "e"
  k_extra "e"
  refine ⟨sz1000 (by simp), fun pf hpf => ?_⟩
  have e0 := (Ex.new (o := .dT []) hpd).trans (Ex.new (o := .lst []) hpf)
  have hdf : pd ≠ pf := ne_new upd_same hpf
  k_extra "e"
  k_extra "e"
  refine es_forL ?_
  refine ee_meth ?_
  k_extra "e"
  refine ⟨a, dx, _, rfl, e0 _ _ ha, rfl, ?_⟩
  k_extra "e"
  refine ⟨a, m, vss, rows, B, rfl, hD.ex e0, hz.tz e0.tz, w, fun pc cacc G1 e1 npc hpc hC => ?_⟩
  have lC := izs_len hC
  rw [List.length_map] at lC
  have lC2 := chg_len w m
  have hpcf : pf ≠ pc := fun z => by subst z; rw [upd_same] at npc; cases npc
  have hpcd : pd ≠ pc := fun z => by subst z; rw [get_new upd_same hpf] at npc; cases npc
  refine ⟨pc, cacc, rfl, SqL.of hpc, fun i σ G' => ∃ c4 c5 c6 kvs facc, σ = [some (.ref a), some (.str m), some (.ref pd), some (.ref pf), c4, c5, c6, none, none, none, none, none, none] ∧ Ex G G' ∧ G' pc = some (.lst cacc) ∧ Izs G' cacc ((chg rows m).map chD) ∧ G' pf = some (.lst facc) ∧ Izs G' facc ((((chg rows m).take i).flatMap entsOf).map enD) ∧ G' pd = some (.dT kvs) ∧ Marks kvs (((chg rows m).take i).flatMap rmsOf) ∧ kvs.length ≤ (((chg rows m).take i).flatMap rmsOf).length ∧ i ≤ (chg rows m).length,
    ⟨_, _, _, [], [], rfl, e0.trans e1, hpc, hC, e1 _ _ upd_same, .nil, e1 _ _ (get_new upd_same hpf), Marks.nil, Nat.le_refl _, Nat.zero_le _⟩, ?_, ?_, ?_⟩
  · rintro i σ G' ⟨c4, c5, c6, kvs, facc, rfl, x1, x2, x3, x4, x5, x6, x7, x8, x9⟩
    exact SqL.of x2
  · rintro i x σ G' hx ⟨c4, c5, c6, kvs, facc, rfl, x1, x2, x3, x4, x5, x6, x7, x8, x9⟩
    have hi : i < (chg rows m).length := by rw [← lC]; exact (List.getElem?_eq_some_iff.mp hx).1
    have hy := List.getElem?_eq_getElem hi
    generalize (chg rows m)[i] = y at hy
    have hym := List.mem_of_getElem? hy
    obtain ⟨x', hx', ix⟩ := izs_get x3 (show ((chg rows m).map chD)[i]? = some (chD y) by rw [List.getElem?_map, hy]; rfl)
    rw [hx] at hx'; cases hx'
    obtain ⟨t, vd, rfl, h1, h2⟩ := iz_ch ix
    obtain ⟨k, hk, hyk, hyd, hyc⟩ := chg_mem hym
    obtain ⟨rm, bh, n, t', hde⟩ := isCh_of hyc
    have hok := w.ok k _ hyd
    rw [hde] at h2 hok
    have tf := take_flat (f := entsOf) hy
    have tr := take_flat (f := rmsOf) hy
    have lf := izs_len x5
    rw [List.length_map] at lf
    have lf2 := flat_take_le (f := entsOf) (chg rows m) i
    have lf3 : ((chg rows m).flatMap entsOf).length ≤ 80000 := found_len w m
    have lr2 := flat_take_le (f := rmsOf) (chg rows m) i
    have lr3 : ((chg rows m).flatMap rmsOf).length ≤ 80000 := rem_len w m
    have le1 := ents_len w hym
    have hents : entsOf y = (ins y.1 bh n t'.cps.toList).map fun e => ⟨e.1, e.2.1, e.2.2, y.2.2⟩ := by unfold entsOf; rw [hde]; rfl
    have lt' : t'.cps.toList.length ≤ 100 := by have := hok.2.2.2.2.1; have e : t'.length = t'.cps.toList.length := by rw [Array.length_toList]; rfl
                                                omega
    refine eg_tup (SqT.of h1) rfl ?_
    k_extra "e"
    k_extra "e"
    refine ee_bm ?_
    k_extra "e"
    refine ⟨ty_lst x4, ?_⟩
    k_extra "e"
    refine ee_lcL ?_
    k_extra "e"
    refine ⟨y.1, vd, m, rm, bh, n, t', rfl, h2, by have := hok.2.2.2.2.1; omega, fun pi iacc G2 e2 npi hpi hII => ?_⟩
    have lI := izs_len hII
    rw [List.length_map, ins_len] at lI
    refine ⟨pi, iacc, rfl, SqL.of hpi, fun p hp => ⟨fun j acc G3 => Ex G2 G3 ∧ G3 p = none ∧ Izs G3 acc (((entsOf y).take j).map enD) ∧ j ≤ iacc.length, ⟨Ex.refl _, hp, .nil, Nat.zero_le _⟩, ?_, ?_, ?_⟩⟩
    · rintro j acc G3 ⟨y1, y2, y3, y4⟩
      have := izs_len y3
      rw [List.length_map, List.length_take] at this
      exact ⟨y2, szlt (by omega), SqL.of (y1 _ _ hpi)⟩
    · rintro j acc u G3 hu ⟨y1, y2, y3, y4⟩
      have hj := (List.getElem?_eq_some_iff.mp hu).1
      have hj2 : j < t'.cps.toList.length := by omega
      have hs := ins_spec t'.cps.toList y.1 bh n j _ (List.getElem?_eq_getElem hj2)
      obtain ⟨u', hu', iu⟩ := izs_get hII (show ((ins y.1 bh n t'.cps.toList).map trD)[j]? = some (trD ((n + (j : Nat), y.1), (if j = 0 then bh else some (n + (j : Nat) - 1, y.1)), t'.cps.toList[j])) by rw [List.getElem?_map, hs]; rfl)
      rw [hu] at hu'; cases hu'
      obtain ⟨tt, vm, vb, rfl, g1, g2, g3⟩ := iz_tr iu
      have hen : (entsOf y)[j]? = some ⟨(n + (j : Nat), y.1), (if j = 0 then bh else some (n + (j : Nat) - 1, y.1)), t'.cps.toList[j], y.2.2⟩ := by rw [hents, List.getElem?_map, hs]; rfl
      have y5 := y1.trans (Ex.new (o := .lst acc) y2)
      refine eg_tup (SqT.of (y5 _ _ g1)) rfl ?_
      k_extra "e"
      refine ⟨rfl, et_yes ?_⟩
      refine iteT ?_
      k_extra "e"
      refine ⟨sz1000 (by simp), fun tp htp => ?_⟩
      have hpt : p ≠ tp := ne_new upd_same htp
      have nt : G3 tp = none := nul_upd htp
      have e6 := Ex.new (o := .tup [vm, vb, .str ⟨#[t'.cps.toList[j]]⟩, .bl y.2.2]) nt
      refine ⟨by rw [upd_ne hpt, upd_same], upd G3 tp (.tup [vm, vb, .str ⟨#[t'.cps.toList[j]]⟩, .bl y.2.2]), by rw [upd_comm hpt]; exact Ex.refl _, y1.trans e6, by rw [upd_ne hpt]; exact y2, ?_, by omega⟩
      rw [List.take_add_one, hen, List.map_append]
      exact izs_app (e6.tz.izs y3) (.cons (.tup upd_same (.cons ((y1.trans e6).tz.iz g2) (.cons ((y1.trans e6).tz.iz g3) (.cons (.str _) (.cons (.bl _) .nil))))) .nil)
    · rintro acc G3 ⟨y1, y2, y3, y4⟩
      rw [List.take_of_length_le (l := entsOf y) (i := iacc.length) (by rw [hents, List.length_map, ins_len]; omega)] at y3
      have la := izs_len y3
      rw [List.length_map] at la
      have y5 := y1.trans (Ex.new (o := .lst acc) y2)
      have y6 := e2.trans y5
      k_extra "e"
      refine em_extend (y6 _ _ x4) upd_same (szM (by omega)) ?_
      have tz := (y6.tz).trans (Tz.mutL (o := .lst (facc ++ acc)) (y6 _ _ x4))
      have tzn := (Ex.new (o := .lst acc) y2).tz.trans (Tz.mutL (o := .lst (facc ++ acc)) (y6 _ _ x4))
      have z1 := (x1.trans y6).mut (o := .lst (facc ++ acc)) (nul_upd hpf)
      have z2 : upd (upd G3 p (.lst acc)) pf (.lst (facc ++ acc)) pc = some (.lst cacc) := by rw [upd_ne hpcf.symm]; exact y6 _ _ x2
      have z4 : upd (upd G3 p (.lst acc)) pf (.lst (facc ++ acc)) pf = some (.lst (facc ++ acc)) := upd_same
      have z6 : upd (upd G3 p (.lst acc)) pf (.lst (facc ++ acc)) pd = some (.dT kvs) := by rw [upd_ne hdf]; exact y6 _ _ x6
      have z5 : Izs (upd (upd G3 p (.lst acc)) pf (.lst (facc ++ acc))) (facc ++ acc) ((((chg rows m).take (i + 1)).flatMap entsOf).map enD) := by
        rw [tf, List.map_append]
        exact izs_app (tz.izs x5) (tzn.izs y3)
      have z3 := tz.izs x3
      have zd := tz.iz h2
      generalize upd (upd G3 p (.lst acc)) pf (.lst (facc ++ acc)) = G5 at z1 z2 z3 z4 z5 z6 zd ⊢
      k_extra "e"
      refine ifb (fun hfo => ?_) (fun hfo => ?_)
      · have hr : rmsOf y = rm := by unfold rmsOf; rw [if_pos hfo, hde]; rfl
        obtain ⟨a2, vr, vb, e', h1', hvr, _⟩ := de_chg zd
        obtain ⟨tr2, rxs, e'', hrx, hri⟩ := iz_tup hvr
        cases e'
        cases e''
        have hrml := hok.2.2.2.1
        k_extra "e"
        refine ee_bm ?_
        k_extra "e"
        refine ⟨ty_dT z6, ?_⟩
        k_extra "e"
        refine ee_marks (rm := rm) (by simp) ?_
        k_extra "e"
        refine er_ixT (SqT.of h1') (atI_nat (j := 2) rfl) ?_
        refine ⟨tr2, rxs, rfl, hrx, hri, by omega, fun po G6 e6 hpo => ?_⟩
        have e7 := e6.trans (Ex.new (o := .dT ((dedup rm).map mkT)) hpo)
        have hdo : pd ≠ po := ne_new (e6 _ _ z6) hpo
        have ldd := dedup_len rm
        k_extra "e"
        refine em_updT (f := fun _ => .bl true) (e7 _ _ z6) upd_same hdo (dedup_nodup rm) (fun x hx => hok.2.2.1 x ((dedup_mem rm x).mp hx)) (szM (by omega)) ?_
        have tm := Tz.mutT (o := .dT (mergeT kvs ((dedup rm).map mkT))) (e7 _ _ z6)
        refine ⟨_, _, _, mergeT kvs ((dedup rm).map mkT), facc ++ acc, rfl, (z1.trans e7).mut hpd, by rw [upd_ne hpcd.symm]; exact e7 _ _ z2, (e7.tz.trans tm).izs z3, by rw [upd_ne hdf.symm]; exact e7 _ _ z4, (e7.tz.trans tm).izs z5, upd_same, ?_, ?_, by omega⟩
        · rw [tr, hr]
          exact marks_congr (marks_merge (dedup rm) x7) fun x => by rw [List.mem_append, List.mem_append, dedup_mem]
        · have := mergeT_len ((dedup rm).map mkT) kvs
          rw [List.length_map] at this
          rw [tr, hr, List.length_append]
          omega
      · have hr : rmsOf y = [] := by unfold rmsOf; rw [if_neg (by rw [hfo]; decide)]
        k_extra "e"
        refine ⟨_, _, _, kvs, facc ++ acc, rfl, z1, z2, z3, z4, z5, z6, by rw [tr, hr, List.append_nil]; exact x7, by rw [tr, hr, List.append_nil]; exact x8, by omega⟩
  · rintro σ G' ⟨c4, c5, c6, kvs, facc, rfl, x1, x2, x3, x4, x5, x6, x7, x8, x9⟩
    rw [lC, List.take_length] at x5 x7
    exact row_place w (T.ext x1) x4 x5 x6 x7 fun p acc G'' u n h1 h2 => q p acc G'' (x1.upm.trans u) (fun o e => n o (x1 _ _ e)) h1 h2
end Lw

namespace Lw
open PySem PySem.Spec PyProof.Rows L2
local macro_rules | `(tactic| k_extra "x1") => `(tactic| first
  | with_reducible refine es_seq ?_
  | with_reducible refine es_asg ?_
  | with_reducible refine es_if ?_
  | with_reducible refine es_ret ?_
  | with_reducible refine es_drop ?_
  | with_reducible refine es_next ?_
  | with_reducible refine es_augS ?_
  | with_reducible refine es_fld ?_
  | ((with_reducible show Ee (tVar _) _ _ _); refine ee_var rfl ?_)
  | with_reducible refine ee_c ?_
  | with_reducible refine ee_op ?_
  | with_reducible refine ee_un ?_
  | with_reducible refine eu_neg ?_
  | with_reducible refine ee_cb ?_
  | with_reducible refine ee_call ?_
  | with_reducible refine ea_nil ?_
  | with_reducible refine ea_cons ?_
  | with_reducible refine ee_sl ?_
  | with_reducible refine eo_no ?_
  | with_reducible refine eo_part ?_
  | with_reducible refine ee_tup ?_
  | with_reducible refine ee_lst ?_
  | with_reducible refine et_test ?_
  | with_reducible refine et_tB ?_
  | with_reducible refine et_tru ?_
  | with_reducible refine et_and ?_
  | with_reducible refine et_or ?_
  | with_reducible refine et_not ?_
  | with_reducible refine ee_and ?_
  | with_reducible refine ee_or ?_
  | with_reducible refine ee_not ?_
  | with_reducible refine ee_if ?_
  | with_reducible refine ee_chain ?_
  | with_reducible refine er_addI ?_
  | with_reducible refine er_subI ?_
  | with_reducible refine er_eqI ?_
  | with_reducible refine er_neI ?_
  | with_reducible refine er_eqNI ?_
  | with_reducible refine er_eqS ?_
  | with_reducible refine er_neS ?_
  | with_reducible refine er_eqB ?_
  | with_reducible refine er_neB ?_
  | with_reducible refine er_lt ?_
  | with_reducible refine er_le ?_
  | with_reducible refine er_gt ?_
  | with_reducible refine er_ge ?_
  | with_reducible refine er_isN_non ?_
  | with_reducible refine er_isN_bl ?_
  | with_reducible refine er_isN_int ?_
  | with_reducible refine er_isN_str ?_
  | with_reducible refine er_isN_ref ?_
  | with_reducible refine er_notN_non ?_
  | with_reducible refine er_notN_bl ?_
  | with_reducible refine er_notN_int ?_
  | with_reducible refine er_notN_str ?_
  | with_reducible refine er_notN_ref ?_
  | with_reducible refine er_isN ?_
  | with_reducible refine er_notN ?_
  | with_reducible refine ec_int ?_
  | with_reducible refine ec_intB ?_
  | with_reducible refine ec_max2 ?_
  | with_reducible refine ec_min2 ?_
  | with_reducible refine ip_I ?_
  | ((with_reducible refine eg_name ?_); (try dsimp only [L2.wipe, List.set_cons_zero, List.set_cons_succ]))
  | with_reducible refine eg_sub ?_
  | with_reducible refine egs_cons ?_
  | with_reducible refine egs_nil ?_
  | with_reducible refine tru_bl ?_
  | with_reducible refine tru_int ?_
  | with_reducible refine tru_non ?_
  | with_reducible refine iteT ?_
  | with_reducible refine iteF ?_
  | with_reducible refine ite_nt ?_
  | with_reducible refine ite_nf ?_
  | with_reducible refine ⟨_, rfl, ?_⟩)
local macro_rules | `(tactic| k_extra "s") => `(tactic| ((first | k_extra "x1" | ((with_reducible refine es_unf ?_); refine es_seq ?_)); (repeat k_extra "x1")))
local macro_rules | `(tactic| k_extra "x") => `(tactic| (repeat first | k_extra "x1" | ((with_reducible refine es_unf ?_); refine es_seq ?_)))
local macro_rules | `(tactic| k_extra "start") => `(tactic| dsimp only [L2.start, List.map_cons, List.map_nil, List.length_cons, List.length_nil, Nat.reduceAdd, Nat.reduceSub, List.replicate, List.cons_append, List.nil_append, Nat.zero_add])
local macro_rules | `(tactic| k_extra "e1") => `(tactic| first
  | with_reducible refine es_next ?_
  | ((with_reducible show Ee (tVar _) _ _ _); refine ee_var rfl ?_)
  | with_reducible refine ee_c ?_
  | with_reducible refine ee_op ?_
  | with_reducible refine ee_un ?_
  | with_reducible refine eu_neg ?_
  | with_reducible refine ee_cb ?_
  | with_reducible refine ee_call ?_
  | with_reducible refine ea_nil ?_
  | with_reducible refine ea_cons ?_
  | with_reducible refine ee_sl ?_
  | with_reducible refine eo_no ?_
  | with_reducible refine eo_part ?_
  | with_reducible refine ee_tup ?_
  | with_reducible refine ee_lst ?_
  | with_reducible refine et_test ?_
  | with_reducible refine et_tB ?_
  | with_reducible refine et_tru ?_
  | with_reducible refine et_and ?_
  | with_reducible refine et_or ?_
  | with_reducible refine et_not ?_
  | with_reducible refine ee_and ?_
  | with_reducible refine ee_or ?_
  | with_reducible refine ee_not ?_
  | with_reducible refine ee_if ?_
  | with_reducible refine ee_chain ?_
  | with_reducible refine er_addI ?_
  | with_reducible refine er_subI ?_
  | with_reducible refine er_eqI ?_
  | with_reducible refine er_neI ?_
  | with_reducible refine er_eqNI ?_
  | with_reducible refine er_eqS ?_
  | with_reducible refine er_neS ?_
  | with_reducible refine er_eqB ?_
  | with_reducible refine er_neB ?_
  | with_reducible refine er_lt ?_
  | with_reducible refine er_le ?_
  | with_reducible refine er_gt ?_
  | with_reducible refine er_ge ?_
  | with_reducible refine er_isN_non ?_
  | with_reducible refine er_isN_bl ?_
  | with_reducible refine er_isN_int ?_
  | with_reducible refine er_isN_str ?_
  | with_reducible refine er_isN_ref ?_
  | with_reducible refine er_notN_non ?_
  | with_reducible refine er_notN_bl ?_
  | with_reducible refine er_notN_int ?_
  | with_reducible refine er_notN_str ?_
  | with_reducible refine er_notN_ref ?_
  | with_reducible refine er_isN ?_
  | with_reducible refine er_notN ?_
  | with_reducible refine ec_int ?_
  | with_reducible refine ec_intB ?_
  | with_reducible refine ec_max2 ?_
  | with_reducible refine ec_min2 ?_
  | with_reducible refine ip_I ?_
  | ((with_reducible refine eg_name ?_); (try dsimp only [L2.wipe, List.set_cons_zero, List.set_cons_succ]))
  | with_reducible refine eg_sub ?_
  | with_reducible refine egs_cons ?_
  | with_reducible refine egs_nil ?_
  | with_reducible refine tru_bl ?_
  | with_reducible refine tru_int ?_
  | with_reducible refine tru_non ?_
  | with_reducible refine iteT ?_
  | with_reducible refine iteF ?_
  | with_reducible refine ite_nt ?_
  | with_reducible refine ite_nf ?_
  | with_reducible refine ex_bl ?_
  | with_reducible refine ex_int ?_
  | with_reducible refine ex_str ?_
  | with_reducible refine ex_strx ?_
  | with_reducible refine ex_ints1 ?_
  | with_reducible refine ex_ints2 ?_)
local macro_rules | `(tactic| k_extra "t1") => `(tactic| first
  | with_reducible refine es_asg ?_
  | with_reducible refine es_if ?_
  | with_reducible refine es_ret ?_
  | with_reducible refine es_drop ?_
  | with_reducible refine es_augS ?_
  | with_reducible refine es_fld ?_)
local macro_rules | `(tactic| k_extra "e") => `(tactic| first
  | ((with_reducible refine es_seq ?_); (try k_extra "t1"); (repeat k_extra "e1"))
  | (k_extra "t1"; (repeat k_extra "e1"))
  | (k_extra "e1"; (repeat k_extra "e1"))
  | ((with_reducible refine es_unf ?_); (refine es_seq ?_); (try k_extra "t1"); (repeat k_extra "e1")))
/-! ### _law_last, _law_modules, _law_letters -/
theorem max_if (i j : Int) : (if j > i then j else i) = max i j := by
  rw [Int.max_def]
  by_cases h : j > i
  · rw [if_pos h, if_pos (by omega)]
  · rw [if_neg h]
    by_cases h2 : i ≤ j
    · rw [if_pos h2]; omega
    · rw [if_neg h2]
theorem lstD_ge (l : Int) (d : De) : l ≤ lstD l d := by
  cases d with
  | back n => exact Int.le_refl _
  | change m rm bh n t => exact Int.le_max_left _ _
theorem row_ge : ∀ (row : List De) (l : Int), l ≤ row.foldl lstD l
  | [], l => Int.le_refl _
  | d :: r, l => Int.le_trans (lstD_ge l d) (row_ge r _)
theorem row_in : ∀ {row : List De} {l : Int} {m : Str} {rm : List Mk} {bh : Option Mk} {n : Int} {t : Str}, De.change m rm bh n t ∈ row → n + t.length ≤ row.foldl lstD l
  | d :: r, l, m, rm, bh, n, t, h => by
    rw [List.foldl_cons]
    rcases List.mem_cons.mp h with rfl | h
    · refine Int.le_trans ?_ (row_ge r _)
      exact Int.le_max_right _ _
    · exact row_in h
theorem rows_ge : ∀ (rows : List (List De)) (l : Int), l ≤ rows.foldl (fun l row => row.foldl lstD l) l
  | [], l => Int.le_refl _
  | d :: r, l => Int.le_trans (row_ge d l) (rows_ge r _)
theorem rows_in : ∀ {rows : List (List De)} {l : Int} {row : List De} {m : Str} {rm : List Mk} {bh : Option Mk} {n : Int} {t : Str}, row ∈ rows → De.change m rm bh n t ∈ row → n + t.length ≤ rows.foldl (fun l row => row.foldl lstD l) l
  | d :: r, l, row, m, rm, bh, n, t, h, hd => by
    rw [List.foldl_cons]
    rcases List.mem_cons.mp h with rfl | h
    · exact Int.le_trans (row_in hd) (rows_ge r _)
    · exact rows_in h hd
theorem getD_mem {rows : List (List De)} {k : Nat} {d : De} (h : d ∈ rows.getD k []) : rows.getD k [] ∈ rows ∧ k < rows.length := by
  by_cases hk : k < rows.length
  · refine ⟨?_, hk⟩
    rw [getD_some (List.getElem?_eq_getElem hk)]; exact List.getElem_mem hk
  · rw [List.getD_eq_getElem?_getD, List.getElem?_eq_none (by omega)] at h
    cases h
theorem lst_ge {rows : List (List De)} {k : Nat} {m : Str} {rm : List Mk} {bh : Option Mk} {n : Int} {t : Str} (h : De.change m rm bh n t ∈ rows.getD k []) : n + t.length ≤ lst rows := rows_in (getD_mem h).1 h
theorem lst_nn (rows : List (List De)) : 0 ≤ lst rows := rows_ge rows 0
theorem has_lst {rows : List (List De)} {m : Str} {b : Mk} (h : HasMk rows m b) : b.1 + 1 ≤ lst rows := by
  obtain ⟨k, hk, d, hd, hi⟩ := h
  cases d with
  | back n => exact hi.elim
  | change m' rm bh n t =>
    obtain ⟨_, _, _, h4⟩ := hi
    have := lst_ge hd
    omega
def S__law_last (K : PySem.W.Frag) (A : Ad) : Pm := fun vs G Q _ => ∃ (pr : Addr) (vss : List (List V)) (rows : List (List De)) (B : Int), vs = [.ref pr] ∧ RowsAt G pr vss ∧ Rz G vss rows ∧ Wf B rows ∧ ∀ G', Ex G G' → Q (.int (lst rows)) G'
/-! _law_last -/
def t__law_last_1 (K : PySem.W.Frag) (A : Ad) : TS := tSeq (tFor (iList K (tVar 0)) (gName 2) (tFor (iList K (tVar 2)) (gName 3) (tIfS (tTest (tOp (rEqU K) (tOp (rIx K) (tVar 3) (tC (.int 0))) (tC (.str "change")))) (tAsg (tCB rMax2U (tCons (tVar 1) (tCons (tOp (rAddU K) (tOp (rIx K) (tVar 3) (tC (.int 4))) (tCB (rLenU K) (tCons (tOp (rIx K) (tVar 3) (tC (.int 5))) tNil))) tNil))) (gName 1)) tNext))) (tRet (tVar 1))
def t__law_last (K : PySem.W.Frag) (A : Ad) : TS := tSeq (tAsg (tC (.int 0)) (gName 1)) (t__law_last_1 K A)
theorem len__law_last {K : PySem.W.Frag} {A : Ad} : ∀ vs G Q E, S__law_last K A vs G Q E → vs.length = ["rows"].length := by
  rintro vs G Q E ⟨pr, vss, rows, B, rfl, _⟩; rfl
theorem ok__law_last {K : PySem.W.Frag} {A : Ad} : ∀ vs G Q E, S__law_last K A vs G Q E → Es (t__law_last K A) { nx := fun _ G' => Q .non G', rt := Q } (L2.start ["rows", "last", "row", "deed"] vs) G := by
  rintro vs G Q E ⟨pr, vss, rows, B, rfl, hra, hz, w, q⟩
  change Es _ _ (_ :: _ :: _ :: _ :: []) _
  obtain ⟨refs, r1, r2, r3, r4, r5⟩ := hra
  k_extra "e"
  k_extra "e"
  refine es_forL ?_
  k_extra "e"
  refine ⟨pr, _, rfl, SqL.of r1, fun i σ G' => ∃ c2 c3, σ = [some (.ref pr), some (.int ((rows.take i).foldl (fun l row => row.foldl lstD l) 0)), c2, c3] ∧ Ex G G' ∧ i ≤ rows.length, ⟨_, _, rfl, Ex.refl _, Nat.zero_le _⟩, ?_, ?_, ?_⟩
  · rintro i σ G' ⟨c2, c3, rfl, x1, x2⟩
    exact SqL.of (x1 _ _ r1)
  · rintro i x σ G' hx ⟨c2, c3, rfl, x1, x2⟩
    obtain ⟨r, hr, rfl⟩ := Option.map_eq_some_iff.mp (by rw [← List.getElem?_map]; exact hx)
    have hi : i < vss.length := by rw [← r2]; exact (List.getElem?_eq_some_iff.mp hr).1
    have hi2 : i < rows.length := by rw [← hz.1]; exact hi
    have hrow := List.getElem?_eq_getElem hi2
    have hv := List.getElem?_eq_getElem hi
    have g := r3 i r _ hr hv
    have gI := hz.2 i _ _ hv hrow
    generalize rows[i] = row at hrow gI
    generalize vss[i] = rvs at g gI
    have lr := izs_len gI
    rw [List.length_map] at lr
    have hst : (rows.take (i + 1)).foldl (fun l row => row.foldl lstD l) 0 = row.foldl lstD ((rows.take i).foldl (fun l row => row.foldl lstD l) 0) := by
      rw [List.take_add_one, hrow, List.foldl_append]; rfl
    k_extra "e"
    refine es_forL ?_
    k_extra "e"
    refine ⟨r, rvs, rfl, SqL.of (x1 _ _ g), fun j σ G' => ∃ c3, σ = [some (.ref pr), some (.int ((row.take j).foldl lstD ((rows.take i).foldl (fun l row => row.foldl lstD l) 0))), some (.ref r), c3] ∧ Ex G G' ∧ j ≤ row.length, ⟨_, rfl, x1, Nat.zero_le _⟩, ?_, ?_, ?_⟩
    · rintro j σ G' ⟨c3, rfl, y1, y2⟩
      exact SqL.of (y1 _ _ g)
    · rintro j y σ G' hy ⟨c3, rfl, y1, y2⟩
      have hj : j < row.length := by rw [← lr]; exact (List.getElem?_eq_some_iff.mp hy).1
      have hd := List.getElem?_eq_getElem hj
      obtain ⟨y', hy', iy⟩ := izs_get (y1.tz.izs gI) (show (row.map deD)[j]? = some (deD row[j]) by rw [List.getElem?_map, hd]; rfl)
      rw [hy] at hy'; cases hy'
      have hst2 : (row.take (j + 1)).foldl lstD ((rows.take i).foldl (fun l row => row.foldl lstD l) 0) = lstD ((row.take j).foldl lstD ((rows.take i).foldl (fun l row => row.foldl lstD l) 0)) row[j] := by
        rw [List.take_add_one, hd, List.foldl_append]; rfl
      obtain ⟨t, ys, rfl, ht2, hw⟩ := de_word iy
      k_extra "e"
      k_extra "e"
      refine er_ixT (SqT.of ht2) (atI_nat hw) ?_
      k_extra "e"
      cases hdd : row[j] with
      | back n =>
        rw [hdd] at hst2
        refine ifd (fun z => absurd z (by simp only [wordOf]; decide)) (fun _ => ?_)
        k_extra "e"
        exact ⟨_, by rw [hst2]; rfl, y1, by omega⟩
      | change m rm bh n t' =>
        rw [hdd] at hst2 iy
        have hok := w.ok i row[j] (by rw [getD_some hrow]; exact List.getElem_mem hj)
        rw [hdd] at hok
        refine ifd (fun _ => ?_) (fun z => absurd rfl z)
        obtain ⟨t2, vr, vb, e', h1', _, _⟩ := de_chg iy
        cases e'
        k_extra "e"
        refine er_ixT (SqT.of h1') (atI_nat (j := 4) rfl) ?_
        k_extra "e"
        refine er_ixT (SqT.of h1') (atI_nat (j := 5) rfl) ?_
        k_extra "e"
        refine ec_lenS (sz1000 (by have := hok.2.2.2.2.1; omega)) ?_
        k_extra "e"
        refine ⟨some (.ref t), ?_, y1, by omega⟩
        rw [hst2, max_if]; rfl
    · rintro σ G' ⟨c3, rfl, y1, y2⟩
      refine ⟨some (.ref r), c3, ?_, y1, by omega⟩
      rw [hst, List.take_of_length_le (l := row) (i := rvs.length) (by omega)]
  · rintro σ G' ⟨c2, c3, rfl, x1, x2⟩
    rw [List.take_of_length_le (by rw [List.length_map, r2, hz.1]; exact Nat.le_refl _)]
    k_extra "e"
    exact q _ x1
end Lw

namespace Lw
open PySem PySem.Spec PyProof.Rows L2
local macro_rules | `(tactic| k_extra "x1") => `(tactic| first
  | with_reducible refine es_seq ?_
  | with_reducible refine es_asg ?_
  | with_reducible refine es_if ?_
  | with_reducible refine es_ret ?_
  | with_reducible refine es_drop ?_
  | with_reducible refine es_next ?_
  | with_reducible refine es_augS ?_
  | with_reducible refine es_fld ?_
  | ((with_reducible show Ee (tVar _) _ _ _); refine ee_var rfl ?_)
  | with_reducible refine ee_c ?_
  | with_reducible refine ee_op ?_
  | with_reducible refine ee_un ?_
  | with_reducible refine eu_neg ?_
  | with_reducible refine ee_cb ?_
  | with_reducible refine ee_call ?_
  | with_reducible refine ea_nil ?_
  | with_reducible refine ea_cons ?_
  | with_reducible refine ee_sl ?_
  | with_reducible refine eo_no ?_
  | with_reducible refine eo_part ?_
  | with_reducible refine ee_tup ?_
  | with_reducible refine ee_lst ?_
  | with_reducible refine et_test ?_
  | with_reducible refine et_tB ?_
  | with_reducible refine et_tru ?_
  | with_reducible refine et_and ?_
  | with_reducible refine et_or ?_
  | with_reducible refine et_not ?_
  | with_reducible refine ee_and ?_
  | with_reducible refine ee_or ?_
  | with_reducible refine ee_not ?_
  | with_reducible refine ee_if ?_
  | with_reducible refine ee_chain ?_
  | with_reducible refine er_addI ?_
  | with_reducible refine er_subI ?_
  | with_reducible refine er_eqI ?_
  | with_reducible refine er_neI ?_
  | with_reducible refine er_eqNI ?_
  | with_reducible refine er_eqS ?_
  | with_reducible refine er_neS ?_
  | with_reducible refine er_eqB ?_
  | with_reducible refine er_neB ?_
  | with_reducible refine er_lt ?_
  | with_reducible refine er_le ?_
  | with_reducible refine er_gt ?_
  | with_reducible refine er_ge ?_
  | with_reducible refine er_isN_non ?_
  | with_reducible refine er_isN_bl ?_
  | with_reducible refine er_isN_int ?_
  | with_reducible refine er_isN_str ?_
  | with_reducible refine er_isN_ref ?_
  | with_reducible refine er_notN_non ?_
  | with_reducible refine er_notN_bl ?_
  | with_reducible refine er_notN_int ?_
  | with_reducible refine er_notN_str ?_
  | with_reducible refine er_notN_ref ?_
  | with_reducible refine er_isN ?_
  | with_reducible refine er_notN ?_
  | with_reducible refine ec_int ?_
  | with_reducible refine ec_intB ?_
  | with_reducible refine ec_max2 ?_
  | with_reducible refine ec_min2 ?_
  | with_reducible refine ip_I ?_
  | ((with_reducible refine eg_name ?_); (try dsimp only [L2.wipe, List.set_cons_zero, List.set_cons_succ]))
  | with_reducible refine eg_sub ?_
  | with_reducible refine egs_cons ?_
  | with_reducible refine egs_nil ?_
  | with_reducible refine tru_bl ?_
  | with_reducible refine tru_int ?_
  | with_reducible refine tru_non ?_
  | with_reducible refine iteT ?_
  | with_reducible refine iteF ?_
  | with_reducible refine ite_nt ?_
  | with_reducible refine ite_nf ?_
  | with_reducible refine ⟨_, rfl, ?_⟩)
local macro_rules | `(tactic| k_extra "s") => `(tactic| ((first | k_extra "x1" | ((with_reducible refine es_unf ?_); refine es_seq ?_)); (repeat k_extra "x1")))
local macro_rules | `(tactic| k_extra "x") => `(tactic| (repeat first | k_extra "x1" | ((with_reducible refine es_unf ?_); refine es_seq ?_)))
local macro_rules | `(tactic| k_extra "start") => `(tactic| dsimp only [L2.start, List.map_cons, List.map_nil, List.length_cons, List.length_nil, Nat.reduceAdd, Nat.reduceSub, List.replicate, List.cons_append, List.nil_append, Nat.zero_add])
local macro_rules | `(tactic| k_extra "e1") => `(tactic| first
  | with_reducible refine es_next ?_
  | ((with_reducible show Ee (tVar _) _ _ _); refine ee_var rfl ?_)
  | with_reducible refine ee_c ?_
  | with_reducible refine ee_op ?_
  | with_reducible refine ee_un ?_
  | with_reducible refine eu_neg ?_
  | with_reducible refine ee_cb ?_
  | with_reducible refine ee_call ?_
  | with_reducible refine ea_nil ?_
  | with_reducible refine ea_cons ?_
  | with_reducible refine ee_sl ?_
  | with_reducible refine eo_no ?_
  | with_reducible refine eo_part ?_
  | with_reducible refine ee_tup ?_
  | with_reducible refine ee_lst ?_
  | with_reducible refine et_test ?_
  | with_reducible refine et_tB ?_
  | with_reducible refine et_tru ?_
  | with_reducible refine et_and ?_
  | with_reducible refine et_or ?_
  | with_reducible refine et_not ?_
  | with_reducible refine ee_and ?_
  | with_reducible refine ee_or ?_
  | with_reducible refine ee_not ?_
  | with_reducible refine ee_if ?_
  | with_reducible refine ee_chain ?_
  | with_reducible refine er_addI ?_
  | with_reducible refine er_subI ?_
  | with_reducible refine er_eqI ?_
  | with_reducible refine er_neI ?_
  | with_reducible refine er_eqNI ?_
  | with_reducible refine er_eqS ?_
  | with_reducible refine er_neS ?_
  | with_reducible refine er_eqB ?_
  | with_reducible refine er_neB ?_
  | with_reducible refine er_lt ?_
  | with_reducible refine er_le ?_
  | with_reducible refine er_gt ?_
  | with_reducible refine er_ge ?_
  | with_reducible refine er_isN_non ?_
  | with_reducible refine er_isN_bl ?_
  | with_reducible refine er_isN_int ?_
  | with_reducible refine er_isN_str ?_
  | with_reducible refine er_isN_ref ?_
  | with_reducible refine er_notN_non ?_
  | with_reducible refine er_notN_bl ?_
  | with_reducible refine er_notN_int ?_
  | with_reducible refine er_notN_str ?_
  | with_reducible refine er_notN_ref ?_
  | with_reducible refine er_isN ?_
  | with_reducible refine er_notN ?_
  | with_reducible refine ec_int ?_
  | with_reducible refine ec_intB ?_
  | with_reducible refine ec_max2 ?_
  | with_reducible refine ec_min2 ?_
  | with_reducible refine ip_I ?_
  | ((with_reducible refine eg_name ?_); (try dsimp only [L2.wipe, List.set_cons_zero, List.set_cons_succ]))
  | with_reducible refine eg_sub ?_
  | with_reducible refine egs_cons ?_
  | with_reducible refine egs_nil ?_
  | with_reducible refine tru_bl ?_
  | with_reducible refine tru_int ?_
  | with_reducible refine tru_non ?_
  | with_reducible refine iteT ?_
  | with_reducible refine iteF ?_
  | with_reducible refine ite_nt ?_
  | with_reducible refine ite_nf ?_
  | with_reducible refine ex_bl ?_
  | with_reducible refine ex_int ?_
  | with_reducible refine ex_str ?_
  | with_reducible refine ex_strx ?_
  | with_reducible refine ex_ints1 ?_
  | with_reducible refine ex_ints2 ?_)
local macro_rules | `(tactic| k_extra "t1") => `(tactic| first
  | with_reducible refine es_asg ?_
  | with_reducible refine es_if ?_
  | with_reducible refine es_ret ?_
  | with_reducible refine es_drop ?_
  | with_reducible refine es_augS ?_
  | with_reducible refine es_fld ?_)
local macro_rules | `(tactic| k_extra "e") => `(tactic| first
  | ((with_reducible refine es_seq ?_); (try k_extra "t1"); (repeat k_extra "e1"))
  | (k_extra "t1"; (repeat k_extra "e1"))
  | (k_extra "e1"; (repeat k_extra "e1"))
  | ((with_reducible refine es_unf ?_); (refine es_seq ?_); (try k_extra "t1"); (repeat k_extra "e1")))
/-! ### names of modules, letters (of this law) -/
def modS : List Str := [Str.ofString "main", Str.ofString "a", Str.ofString "a b'[]", PySem.Txt.mul (Str.ofString "z") 40]
theorem modS_ok : ∀ m ∈ modS, m.length ≤ 100 ∧ PyData.strOk m = true := by
  have h : (modS.all fun m => decide (m.length ≤ 100) && PyData.strOk m) = true := by decide +kernel
  intro m hm
  have := List.all_eq_true.mp h m hm
  simpa using this
def S__law_modules (K : PySem.W.Frag) (A : Ad) : Pm := fun vs G Q _ => vs = [] ∧ ∀ p, G p = none → Q (.ref p) (upd G p (.lst (modS.map V.str)))
/-! _law_modules -/
def t__law_modules (K : PySem.W.Frag) (A : Ad) : TS := (tRet (tLst (tCons (tC (.str "main")) (tCons (tC (.str "a")) (tCons (tC (.str "a b'[]")) (tCons (tOp rRepS (tC (.str "z")) (tC (.int 40))) tNil))))))
theorem len__law_modules {K : PySem.W.Frag} {A : Ad} : ∀ vs G Q E, S__law_modules K A vs G Q E → vs.length = ([] : List Str).length := by
  rintro vs G Q E ⟨rfl, _⟩; rfl
theorem mulOk40 : MulOk (Str.ofString "z") 40 := by unfold MulOk; decide +kernel
theorem ok__law_modules {K : PySem.W.Frag} {A : Ad} : ∀ vs G Q E, S__law_modules K A vs G Q E → Es (t__law_modules K A) { nx := fun _ G' => Q .non G', rt := Q } (L2.start [] vs) G := by
  rintro vs G Q E ⟨rfl, q⟩
  unfold t__law_modules
  k_extra "e"
  refine er_repS mulOk40 ?_
  k_extra "e"
  exact ⟨sz1000 (by simp), fun p hp => q p hp⟩
/-- the most letters of a deed -/
def TL : Nat := 4
def CH : Str := Str.ofString " !\"#$&'()*+,-./0123456789:;<=>?@ABCDEFGHIJKLMNOPQRSTUVWXYZ[\\]^_`abcdefghijklmnopqrstuvwxyz{|}~\n"
theorem CH_len : CH.cps.toList.length = 95 := by decide +kernel
theorem CH_ok : ∀ c ∈ CH.cps.toList, c < 1114112 := by decide +kernel
def TxS (n : Nat) (t : Str) : Prop := t.length ≤ n ∧ PyData.strOk t = true
theorem txS_app {n : Nat} {t : Str} {c : Nat} (h : TxS n t) (hc : c < 1114112) : TxS (n + 1) (t ++ ⟨#[c]⟩) := by
  refine ⟨?_, ?_⟩
  · have : (t ++ (⟨#[c]⟩ : Str)).length = t.length + 1 := by
      show (t.cps ++ #[c]).size = t.cps.size + 1
      rw [Array.size_append]; rfl
    rw [this]; have := h.1; omega
  · have h2 := h.2
    unfold PyData.strOk at h2 ⊢
    show (t.cps ++ #[c]).all (· < 0x110000) = true
    rw [Array.all_append, h2]
    simpa using hc
def S__law_letters (K : PySem.W.Frag) (A : Ad) : Pm := fun vs G Q _ => ∃ (p : Addr) (ds : List Int) (i : Int), vs = [.ref p, .int i] ∧ Li G p ds ∧ Dr ds ∧ 0 ≤ i ∧ ∀ t, TxS TL t → Q (.str t) G
/-! _law_letters -/
def t__law_letters_1 (K : PySem.W.Frag) (A : Ad) : TS := tSeq (tFor (iRng1 (tCons (tOp (rModU) (tCall (up (S__law_at K A)) [] E0 (tCons (tVar 0) (tCons (tVar 1) tNil))) (tC (.int 5))) tNil)) (gName 4) (tAsg (tOp (rAddU K) (tVar 3) (tOp (rIx K) (tVar 2) (tOp (rModU) (tOp (rAddU K) (tCall (up (S__law_at K A)) [] E0 (tCons (tVar 0) (tCons (tOp (rAddU K) (tVar 1) (tC (.int 1))) tNil))) (tOp (rMulU) (tC (.int 37)) (tVar 4))) (tC (.int 95))))) (gName 3))) (tRet (tVar 3))
def t__law_letters_2 (K : PySem.W.Frag) (A : Ad) : TS := tSeq (tAsg (tC (.str "")) (gName 3)) (t__law_letters_1 K A)
def t__law_letters (K : PySem.W.Frag) (A : Ad) : TS := tSeq (tAsg (tC (.str " !\"#$&'()*+,-./0123456789:;<=>?@ABCDEFGHIJKLMNOPQRSTUVWXYZ[\\]^_`abcdefghijklmnopqrstuvwxyz{|}~\n")) (gName 2)) (t__law_letters_2 K A)
theorem len__law_letters {K : PySem.W.Frag} {A : Ad} : ∀ vs G Q E, S__law_letters K A vs G Q E → vs.length = ["draws", "index"].length := by
  rintro vs G Q E ⟨p, ds, i, rfl, _⟩; rfl
theorem at_call {K : PySem.W.Frag} {A : Ad} {G : Hp} {p : Addr} {ds : List Int} {i : Int} {Q : V → Hp → Prop} {E : XK} (h : Li G p ds) (hd : Dr ds) (hi : 0 ≤ i) (q : ∀ x, Rn x → Q (.int x) G) : S__law_at K A [.ref p, .int i] G Q E := ⟨p, ds, i, rfl, h, hd, hi, q⟩
theorem ok__law_letters {K : PySem.W.Frag} {A : Ad} : ∀ vs G Q E, S__law_letters K A vs G Q E → Es (t__law_letters K A) { nx := fun _ G' => Q .non G', rt := Q } (L2.start ["draws", "index", "chars", "text", "k"] vs) G := by
  rintro vs G Q E ⟨p, ds, i, rfl, h, hd, hi, q⟩
  change Es _ _ (_ :: _ :: _ :: _ :: _ :: []) _
  k_extra "e"
  k_extra "e"
  k_extra "e"
  refine es_forR1 ?_
  k_extra "e"
  refine at_call h hd hi fun x hx => ?_
  k_extra "e"
  refine er_mod (by decide) ?_
  k_extra "e"
  have hx0 : 0 ≤ x % 5 := by omega
  have hx1 : x % 5 ≤ 4 := by omega
  refine ⟨by omega, fun k σ G' => ∃ c4 t, σ = [some (.ref p), some (.int i), some (.str CH), some (.str t), c4] ∧ G' = G ∧ TxS k t ∧ (k : Int) ≤ x % 5, ⟨_, _, rfl, rfl, ⟨by decide +kernel, by decide +kernel⟩, hx0⟩, ?_, ?_⟩
  · rintro k σ G' hk ⟨c4, t, rfl, rfl, ht, hk2⟩
    k_extra "e"
    refine at_call h hd (by omega) fun y hy => ?_
    k_extra "e"
    refine er_mulL (by decide) ?_
    k_extra "e"
    refine er_mod (by decide) ?_
    obtain ⟨j, hj⟩ := Int.eq_ofNat_of_zero_le (show 0 ≤ (y + 37 * (k : Int)) % 95 by omega)
    have hj2 : j < CH.cps.toList.length := by rw [CH_len]; omega
    rw [hj]
    refine er_ixS (sz1000 (by decide +kernel)) (atI_nat (List.getElem?_eq_getElem hj2)) ?_
    have hc := CH_ok _ (List.getElem_mem hj2)
    have ht2 := txS_app (c := CH.cps.toList[j]) ht hc
    refine er_addS (sz1000 (by have := ht.1; show t.length + 1 ≤ 1000; omega)) ?_
    k_extra "e"
    exact ⟨_, _, rfl, rfl, ht2, by omega⟩
  · rintro σ G' ⟨c4, t, rfl, rfl, ht, hk2⟩
    k_extra "e"
    exact q t ⟨by have := ht.1; unfold TL; omega, ht.2⟩
end Lw

namespace Lw
open PySem PySem.Spec PyProof.Rows L2
local macro_rules | `(tactic| k_extra "x1") => `(tactic| first
  | with_reducible refine es_seq ?_
  | with_reducible refine es_asg ?_
  | with_reducible refine es_if ?_
  | with_reducible refine es_ret ?_
  | with_reducible refine es_drop ?_
  | with_reducible refine es_next ?_
  | with_reducible refine es_augS ?_
  | with_reducible refine es_fld ?_
  | ((with_reducible show Ee (tVar _) _ _ _); refine ee_var rfl ?_)
  | with_reducible refine ee_c ?_
  | with_reducible refine ee_op ?_
  | with_reducible refine ee_un ?_
  | with_reducible refine eu_neg ?_
  | with_reducible refine ee_cb ?_
  | with_reducible refine ee_call ?_
  | with_reducible refine ea_nil ?_
  | with_reducible refine ea_cons ?_
  | with_reducible refine ee_sl ?_
  | with_reducible refine eo_no ?_
  | with_reducible refine eo_part ?_
  | with_reducible refine ee_tup ?_
  | with_reducible refine ee_lst ?_
  | with_reducible refine et_test ?_
  | with_reducible refine et_tB ?_
  | with_reducible refine et_tru ?_
  | with_reducible refine et_and ?_
  | with_reducible refine et_or ?_
  | with_reducible refine et_not ?_
  | with_reducible refine ee_and ?_
  | with_reducible refine ee_or ?_
  | with_reducible refine ee_not ?_
  | with_reducible refine ee_if ?_
  | with_reducible refine ee_chain ?_
  | with_reducible refine er_addI ?_
  | with_reducible refine er_subI ?_
  | with_reducible refine er_eqI ?_
  | with_reducible refine er_neI ?_
  | with_reducible refine er_eqNI ?_
  | with_reducible refine er_eqS ?_
  | with_reducible refine er_neS ?_
  | with_reducible refine er_eqB ?_
  | with_reducible refine er_neB ?_
  | with_reducible refine er_lt ?_
  | with_reducible refine er_le ?_
  | with_reducible refine er_gt ?_
  | with_reducible refine er_ge ?_
  | with_reducible refine er_isN_non ?_
  | with_reducible refine er_isN_bl ?_
  | with_reducible refine er_isN_int ?_
  | with_reducible refine er_isN_str ?_
  | with_reducible refine er_isN_ref ?_
  | with_reducible refine er_notN_non ?_
  | with_reducible refine er_notN_bl ?_
  | with_reducible refine er_notN_int ?_
  | with_reducible refine er_notN_str ?_
  | with_reducible refine er_notN_ref ?_
  | with_reducible refine er_isN ?_
  | with_reducible refine er_notN ?_
  | with_reducible refine ec_int ?_
  | with_reducible refine ec_intB ?_
  | with_reducible refine ec_max2 ?_
  | with_reducible refine ec_min2 ?_
  | with_reducible refine ip_I ?_
  | ((with_reducible refine eg_name ?_); (try dsimp only [L2.wipe, List.set_cons_zero, List.set_cons_succ]))
  | with_reducible refine eg_sub ?_
  | with_reducible refine egs_cons ?_
  | with_reducible refine egs_nil ?_
  | with_reducible refine tru_bl ?_
  | with_reducible refine tru_int ?_
  | with_reducible refine tru_non ?_
  | with_reducible refine iteT ?_
  | with_reducible refine iteF ?_
  | with_reducible refine ite_nt ?_
  | with_reducible refine ite_nf ?_
  | with_reducible refine ⟨_, rfl, ?_⟩)
local macro_rules | `(tactic| k_extra "s") => `(tactic| ((first | k_extra "x1" | ((with_reducible refine es_unf ?_); refine es_seq ?_)); (repeat k_extra "x1")))
local macro_rules | `(tactic| k_extra "x") => `(tactic| (repeat first | k_extra "x1" | ((with_reducible refine es_unf ?_); refine es_seq ?_)))
local macro_rules | `(tactic| k_extra "start") => `(tactic| dsimp only [L2.start, List.map_cons, List.map_nil, List.length_cons, List.length_nil, Nat.reduceAdd, Nat.reduceSub, List.replicate, List.cons_append, List.nil_append, Nat.zero_add])
local macro_rules | `(tactic| k_extra "e1") => `(tactic| first
  | with_reducible refine es_next ?_
  | ((with_reducible show Ee (tVar _) _ _ _); refine ee_var rfl ?_)
  | with_reducible refine ee_c ?_
  | with_reducible refine ee_op ?_
  | with_reducible refine ee_un ?_
  | with_reducible refine eu_neg ?_
  | with_reducible refine ee_cb ?_
  | with_reducible refine ee_call ?_
  | with_reducible refine ea_nil ?_
  | with_reducible refine ea_cons ?_
  | with_reducible refine ee_sl ?_
  | with_reducible refine eo_no ?_
  | with_reducible refine eo_part ?_
  | with_reducible refine ee_tup ?_
  | with_reducible refine ee_lst ?_
  | with_reducible refine et_test ?_
  | with_reducible refine et_tB ?_
  | with_reducible refine et_tru ?_
  | with_reducible refine et_and ?_
  | with_reducible refine et_or ?_
  | with_reducible refine et_not ?_
  | with_reducible refine ee_and ?_
  | with_reducible refine ee_or ?_
  | with_reducible refine ee_not ?_
  | with_reducible refine ee_if ?_
  | with_reducible refine ee_chain ?_
  | with_reducible refine er_addI ?_
  | with_reducible refine er_subI ?_
  | with_reducible refine er_eqI ?_
  | with_reducible refine er_neI ?_
  | with_reducible refine er_eqNI ?_
  | with_reducible refine er_eqS ?_
  | with_reducible refine er_neS ?_
  | with_reducible refine er_eqB ?_
  | with_reducible refine er_neB ?_
  | with_reducible refine er_lt ?_
  | with_reducible refine er_le ?_
  | with_reducible refine er_gt ?_
  | with_reducible refine er_ge ?_
  | with_reducible refine er_isN_non ?_
  | with_reducible refine er_isN_bl ?_
  | with_reducible refine er_isN_int ?_
  | with_reducible refine er_isN_str ?_
  | with_reducible refine er_isN_ref ?_
  | with_reducible refine er_notN_non ?_
  | with_reducible refine er_notN_bl ?_
  | with_reducible refine er_notN_int ?_
  | with_reducible refine er_notN_str ?_
  | with_reducible refine er_notN_ref ?_
  | with_reducible refine er_isN ?_
  | with_reducible refine er_notN ?_
  | with_reducible refine ec_int ?_
  | with_reducible refine ec_intB ?_
  | with_reducible refine ec_max2 ?_
  | with_reducible refine ec_min2 ?_
  | with_reducible refine ip_I ?_
  | ((with_reducible refine eg_name ?_); (try dsimp only [L2.wipe, List.set_cons_zero, List.set_cons_succ]))
  | with_reducible refine eg_sub ?_
  | with_reducible refine egs_cons ?_
  | with_reducible refine egs_nil ?_
  | with_reducible refine tru_bl ?_
  | with_reducible refine tru_int ?_
  | with_reducible refine tru_non ?_
  | with_reducible refine iteT ?_
  | with_reducible refine iteF ?_
  | with_reducible refine ite_nt ?_
  | with_reducible refine ite_nf ?_
  | with_reducible refine ex_bl ?_
  | with_reducible refine ex_int ?_
  | with_reducible refine ex_str ?_
  | with_reducible refine ex_strx ?_
  | with_reducible refine ex_ints1 ?_
  | with_reducible refine ex_ints2 ?_)
local macro_rules | `(tactic| k_extra "t1") => `(tactic| first
  | with_reducible refine es_asg ?_
  | with_reducible refine es_if ?_
  | with_reducible refine es_ret ?_
  | with_reducible refine es_drop ?_
  | with_reducible refine es_augS ?_
  | with_reducible refine es_fld ?_)
local macro_rules | `(tactic| k_extra "e") => `(tactic| first
  | ((with_reducible refine es_seq ?_); (try k_extra "t1"); (repeat k_extra "e1"))
  | (k_extra "t1"; (repeat k_extra "e1"))
  | (k_extra "e1"; (repeat k_extra "e1"))
  | ((with_reducible refine es_unf ?_); (refine es_seq ?_); (try k_extra "t1"); (repeat k_extra "e1")))
/-! ### a drawn deed -/
/-- the most that a number grows -/
def INC : Int := 6
def DFit (rows : List (List De)) (r : Nat) : De → Prop
  | .back _ => True
  | .change m rm bh n t => 1 ≤ n ∧ n ≤ lst rows + INC ∧ TxS TL t ∧ m ∈ modS ∧ rm.length ≤ 3 ∧ (∀ x ∈ rm, HasMk rows m x ∧ x.1 < n) ∧ (∀ b, bh = some b → HasMk rows m b ∧ b.1 < n) ∧ ∀ d ∈ rows.getD r [], Befo d (.change m rm bh n t)
theorem row_marks {rows : List (List De)} {m : Str} {x : Mk × Nat × Bool} (h : x ∈ rowOf rows m) : HasMk rows m x.1 := by
  unfold rowOf at h
  obtain ⟨e, he, rfl⟩ := List.mem_map.mp h
  exact found_has.mp (List.mem_map.mpr ⟨e, srt_mem.mp ((plc_mem _ _).mp he), rfl⟩)
theorem iz_row {G : Hp} {v : V} {x : Mk × Nat × Bool} (h : Iz G v (rowD x)) : ∃ t vm, v = .ref t ∧ G t = some (.tup [vm, .str ⟨#[x.2.1]⟩, .bl x.2.2]) ∧ Iz G vm (mP x.1) := by
  obtain ⟨t, xs, rfl, h1, h2⟩ := iz_tup h
  cases h2 with
  | cons a b => cases b with
    | cons e1 f => cases e1; cases f with
      | cons g i => cases g; cases i; exact ⟨t, _, rfl, h1, a⟩
theorem rowOf_len {B : Int} {rows : List (List De)} (w : Wf B rows) (m : Str) : (rowOf rows m).length ≤ 80000 := by
  unfold rowOf
  rw [List.length_map, plc_len, (srt_perm rows m).length_eq]
  exact found_len w m
def S__law_deed (K : PySem.W.Frag) (A : Ad) : Pm := fun vs G Q _ => ∃ (p pr : Addr) (ds : List Int) (i : Int) (vss : List (List V)) (rows : List (List De)) (B : Int) (r : Nat), vs = [.ref p, .int i, .ref pr, .int (r : Int)] ∧ Li G p ds ∧ Dr ds ∧ 0 ≤ i ∧ RowsAt G pr vss ∧ Rz G vss rows ∧ Wf B rows ∧ r < 8 ∧ LamX.Tabs (Tb A) G ∧
  ∀ v d G', MU A G G' → Iz G' v (deD d) → DFit rows r d → Q v G'
/-! _law_deed -/
def t__law_deed_1 (K : PySem.W.Frag) (A : Ad) : TS := tSeq (tIfS (tTest (tOp (rEqU K) (tOp (rModU) (tOp (rDivU) (tCall (up (S__law_at K A)) [] E0 (tCons (tVar 0) (tCons (tOp (rAddU K) (tVar 1) (tC (.int 8))) tNil))) (tC (.int 4))) (tC (.int 2))) (tC (.int 0)))) (tAsg (tCB rMax2U (tCons (tVar 10) (tCons (tOp (rAddU K) (tCall (up (S__law_last K A)) [] E0 (tCons (tVar 2) tNil)) (tC (.int 1))) tNil))) (gName 10)) tNext) (tRet (tTup (tCons (tC (.str "change")) (tCons (tVar 5) (tCons (tCB (rTupU K) (tCons (tVar 7) tNil)) (tCons (tVar 9) (tCons (tVar 10) (tCons (tCall (up (S__law_letters K A)) [] E0 (tCons (tVar 0) (tCons (tOp (rAddU K) (tVar 1) (tC (.int 9))) tNil))) tNil))))))))
def t__law_deed_2 (K : PySem.W.Frag) (A : Ad) : TS := tSeq (tAsg (tOp (rAddU K) (tVar 10) (tOp (rIx K) (tLst (tCons (tC (.int 0)) (tCons (tC (.int 0)) (tCons (tC (.int 1)) (tCons (tC (.int 5)) tNil))))) (tOp (rModU) (tCall (up (S__law_at K A)) [] E0 (tCons (tVar 0) (tCons (tOp (rAddU K) (tVar 1) (tC (.int 8))) tNil))) (tC (.int 4))))) (gName 10)) (t__law_deed_1 K A)
def t__law_deed_3 (K : PySem.W.Frag) (A : Ad) : TS := tSeq (tFor (iList K (tVar 4)) (gName 12) (tIfS (tTest (tOp (rEqU K) (tOp (rIx K) (tVar 12) (tC (.int 0))) (tC (.str "change")))) (tAsg (tCB rMax2U (tCons (tVar 10) (tCons (tOp (rAddU K) (tOp (rIx K) (tVar 12) (tC (.int 4))) (tCB (rLenU K) (tCons (tOp (rIx K) (tVar 12) (tC (.int 5))) tNil))) tNil))) (gName 10)) tNext)) (t__law_deed_2 K A)
def t__law_deed_4 (K : PySem.W.Frag) (A : Ad) : TS := tSeq (tFor (iList K (tOp (rAddU K) (tVar 7) (tLst (tCons (tVar 9) tNil)))) (gName 11) (tIfS (tTest (tOp (rNotN) (tVar 11) (tC .non))) (tAsg (tCB rMax2U (tCons (tVar 10) (tCons (tOp (rAddU K) (tOp (rIx K) (tVar 11) (tC (.int 0))) (tC (.int 1))) tNil))) (gName 10)) tNext)) (t__law_deed_3 K A)
def t__law_deed_5 (K : PySem.W.Frag) (A : Ad) : TS := tSeq (tAsg (tC (.int 1)) (gName 10)) (t__law_deed_4 K A)
def t__law_deed_6 (K : PySem.W.Frag) (A : Ad) : TS := tSeq (tIfS (tAnd (tTest (tOp (rGtI) (tCB (rLenU K) (tCons (tVar 6) tNil)) (tC (.int 0)))) (tTest (tOp (rNeU K) (tOp (rModU) (tCall (up (S__law_at K A)) [] E0 (tCons (tVar 0) (tCons (tOp (rAddU K) (tVar 1) (tC (.int 7))) tNil))) (tC (.int 5))) (tC (.int 0))))) (tAsg (tOp (rIx K) (tVar 6) (tOp (rModU) (tOp (rDivU) (tCall (up (S__law_at K A)) [] E0 (tCons (tVar 0) (tCons (tOp (rAddU K) (tVar 1) (tC (.int 7))) tNil))) (tC (.int 5))) (tCB (rLenU K) (tCons (tVar 6) tNil)))) (gName 9)) tNext) (t__law_deed_5 K A)
def t__law_deed_7 (K : PySem.W.Frag) (A : Ad) : TS := tSeq (tAsg (tC .non) (gName 9)) (t__law_deed_6 K A)
def t__law_deed_8 (K : PySem.W.Frag) (A : Ad) : TS := tSeq (tFor (iRng1 (tCons (tOp (rModU) (tCall (up (S__law_at K A)) [] E0 (tCons (tVar 0) (tCons (tOp (rAddU K) (tVar 1) (tC (.int 2))) tNil))) (tC (.int 4))) tNil)) (gName 8) (tIfS (tTest (tOp (rGtI) (tCB (rLenU K) (tCons (tVar 6) tNil)) (tC (.int 0)))) (tDrop (tBM K "list" (rAppend) (tVar 7) (tCons (tOp (rIx K) (tVar 6) (tOp (rModU) (tCall (up (S__law_at K A)) [] E0 (tCons (tVar 0) (tCons (tOp (rAddU K) (tOp (rAddU K) (tVar 1) (tC (.int 3))) (tVar 8)) tNil))) (tCB (rLenU K) (tCons (tVar 6) tNil)))) tNil))) tNext)) (t__law_deed_7 K A)
def t__law_deed_9 (K : PySem.W.Frag) (A : Ad) : TS := tSeq (tAsg (tLst tNil) (gName 7)) (t__law_deed_8 K A)
def t__law_deed_10 (K : PySem.W.Frag) (A : Ad) : TS := tSeq (tAsg (tLc (iList K (tCall (up (S__law_row K A)) [] E0 (tCons (tVar 2) (tCons (tVar 5) tNil)))) (gName 13) tYes (tOp (rIx K) (tVar 13) (tC (.int 0))) [13]) (gName 6)) (t__law_deed_9 K A)
def t__law_deed_11 (K : PySem.W.Frag) (A : Ad) : TS := tSeq (tAsg (tOp (rIx K) (tCall (up (S__law_modules K A)) [] E0 tNil) (tOp (rDivU) (tOp (rModU) (tCall (up (S__law_at K A)) [] E0 (tCons (tVar 0) (tCons (tOp (rAddU K) (tVar 1) (tC (.int 1))) tNil))) (tC (.int 16))) (tC (.int 5)))) (gName 5)) (t__law_deed_10 K A)
def t__law_deed_12 (K : PySem.W.Frag) (A : Ad) : TS := tSeq (tIfS (tAnd (tTest (tOp (rEqU K) (tOp (rModU) (tCall (up (S__law_at K A)) [] E0 (tCons (tVar 0) (tCons (tVar 1) tNil))) (tC (.int 4))) (tC (.int 3)))) (tTest (tOp (rGtI) (tCB (rLenU K) (tCons (tVar 4) tNil)) (tC (.int 0))))) (tRet (tTup (tCons (tC (.str "back")) (tCons (tOp (rAddU K) (tC (.int 1)) (tOp (rModU) (tCall (up (S__law_at K A)) [] E0 (tCons (tVar 0) (tCons (tOp (rAddU K) (tVar 1) (tC (.int 1))) tNil))) (tCB (rLenU K) (tCons (tVar 4) tNil)))) tNil)))) tNext) (t__law_deed_11 K A)
def t__law_deed (K : PySem.W.Frag) (A : Ad) : TS := tSeq (tAsg (tOp (rIx K) (tVar 2) (tVar 3)) (gName 4)) (t__law_deed_12 K A)
theorem len__law_deed {K : PySem.W.Frag} {A : Ad} : ∀ vs G Q E, S__law_deed K A vs G Q E → vs.length = ["draws", "index", "rows", "replica"].length := by
  rintro vs G Q E ⟨p, pr, ds, i, vss, rows, B, r, rfl, _⟩; rfl
/-- the last part: the number is raised, the deed is made -/
theorem deed_end {K : PySem.W.Frag} {A : Ad} {G : Hp} {Q : V → Hp → Prop} {p pr pm : Addr} {ds : List Int} {i : Int} {vss : List (List V)} {rows : List (List De)} {B : Int} {r : Nat} {m : Str} {rm : List Mk} {bh : Option Mk} {vb : V} {rvs : List V} {n : Int} {c4 c6 c8 c11 c12 c13 : Option V}
    (h : Li G p ds) (hd : Dr ds) (hi : 0 ≤ i) (hra : RowsAt G pr vss) (hz : Rz G vss rows) (w : Wf B rows) (hm : m ∈ modS) (hr : G pm = some (.lst rvs)) (hI : Izs G rvs (rm.map mP)) (hl : rm.length ≤ 3) (hb : Iz G vb (bP bh)) (h1 : 1 ≤ n) (h2 : n ≤ lst rows + 1)
    (hrm : ∀ x ∈ rm, HasMk rows m x ∧ x.1 < n) (hbm : ∀ b, bh = some b → HasMk rows m b ∧ b.1 < n) (hbf : ∀ d ∈ rows.getD r [], ∀ m' rm' bh' n' t', d = De.change m' rm' bh' n' t' → n' + t'.length ≤ n)
    (q : ∀ v d G', MU A G G' → Iz G' v (deD d) → DFit rows r d → Q v G') :
    Es (t__law_deed_2 K A) { nx := fun _ G' => Q .non G', rt := Q } [some (.ref p), some (.int i), some (.ref pr), some (.int (r : Int)), c4, some (.str m), c6, some (.ref pm), c8, some vb, some (.int n), c11, c12, c13] G := by
  k_extra "e"
  refine ⟨sz1000 (by simp), fun pl hpl => ?_⟩
  have e1 := Ex.new (o := .lst [.int 0, .int 0, .int 1, .int 5]) hpl
  k_extra "e"
  refine at_call (e1 _ _ h) hd (by omega) fun x hx => ?_
  k_extra "e"
  refine er_mod (by decide) ?_
  have fin : ∀ (n' : Int) (G1 : Hp), n ≤ n' → n' ≤ lst rows + 6 → Ex G G1 → Es (tRet (tTup (tCons (tC (.str "change")) (tCons (tVar 5) (tCons (tCB (rTupU K) (tCons (tVar 7) tNil)) (tCons (tVar 9) (tCons (tVar 10) (tCons (tCall (up (S__law_letters K A)) [] E0 (tCons (tVar 0) (tCons (tOp (rAddU K) (tVar 1) (tC (.int 9))) tNil))) tNil)))))))) { nx := fun _ G' => Q .non G', rt := Q } [some (.ref p), some (.int i), some (.ref pr), some (.int (r : Int)), c4, some (.str m), c6, some (.ref pm), c8, some vb, some (.int n'), c11, c12, c13] G1 := by
    intro n' G1 a1 a2 x1
    k_extra "e"
    refine ec_tupL (SqL.of (x1 _ _ hr)) fun pt hpt => ?_
    have e2 := Ex.new (o := .tup rvs) hpt
    k_extra "e"
    refine ⟨p, ds, i + 9, rfl, e2 _ _ (x1 _ _ h), hd, by omega, fun t ht => ?_⟩
    k_extra "e"
    refine ⟨sz1000 (by simp), fun pd hpd => ?_⟩
    have e3 := Ex.new (o := .tup [.str (Str.ofString "change"), .str m, .ref pt, vb, .int n', .str t]) hpd
    have tz := (x1.trans (e2.trans e3)).tz
    refine q _ (.change m rm bh n' t) _ (x1.trans (e2.trans e3)).upm (.tup upd_same (.cons (.str _) (.cons (.str _) (.cons (.tup (e3 _ _ upd_same) (tz.izs hI)) (.cons (tz.iz hb) (.cons (.int _) (.cons (.str _) .nil))))))) ⟨by omega, by unfold INC; omega, ht, hm, hl, fun y hy => ⟨(hrm y hy).1, by have := (hrm y hy).2; omega⟩, fun b hb' => ⟨(hbm b hb').1, by have := (hbm b hb').2; omega⟩, fun d hdm => ?_⟩
    cases d with
    | back n => trivial
    | change m' rm' bh' n2 t2 => have := hbf _ hdm m' rm' bh' n2 t2 rfl; show n2 + t2.length ≤ n'; omega
  have step : ∀ (y : Int), 0 ≤ y → y ≤ 5 → ∀ G1, Ex G G1 → Es (t__law_deed_1 K A) { nx := fun _ G' => Q .non G', rt := Q } [some (.ref p), some (.int i), some (.ref pr), some (.int (r : Int)), c4, some (.str m), c6, some (.ref pm), c8, some vb, some (.int (n + y)), c11, c12, c13] G1 := by
    intro y y0 y1 G1 x1
    k_extra "e"
    refine at_call (x1 _ _ h) hd (by omega) fun z hz' => ?_
    k_extra "e"
    refine er_div (by decide) ?_
    k_extra "e"
    refine er_mod (by decide) ?_
    k_extra "e"
    refine ifd (fun _ => ?_) (fun _ => ?_)
    · k_extra "e"
      refine ⟨pr, vss, rows, B, rfl, hra.ex x1, hz.tz x1.tz, w, fun G2 x2 => ?_⟩
      k_extra "e"
      refine fin _ G2 ?_ ?_ (x1.trans x2)
      · split <;> omega
      · split <;> omega
    · k_extra "e"
      exact fin _ G1 (by omega) (by omega) x1
  have gl : ∀ {G1 : Hp}, Ex (upd G pl (.lst [.int 0, .int 0, .int 1, .int 5])) G1 → G1 pl = some (.lst [.int 0, .int 0, .int 1, .int 5]) := fun e => e _ _ upd_same
  obtain ⟨v, hv, hmem⟩ := menu [V.int 0, .int 0, .int 1, .int 5] (x % 4) (by omega) (by show x % 4 < 4; omega)
  refine er_ixL (SqL.of (gl (Ex.refl _))) hv ?_
  have : ∃ y : Int, v = .int y ∧ 0 ≤ y ∧ y ≤ 5 := by
    simp only [List.mem_cons, List.not_mem_nil, or_false] at hmem
    rcases hmem with rfl | rfl | rfl | rfl <;> exact ⟨_, rfl, by decide, by decide⟩
  obtain ⟨y, rfl, y0, y1⟩ := this
  k_extra "e"
  exact step y y0 y1 _ e1
end Lw

namespace Lw
open PySem PySem.Spec PyProof.Rows L2
local macro_rules | `(tactic| k_extra "x1") => `(tactic| first
  | with_reducible refine es_seq ?_
  | with_reducible refine es_asg ?_
  | with_reducible refine es_if ?_
  | with_reducible refine es_ret ?_
  | with_reducible refine es_drop ?_
  | with_reducible refine es_next ?_
  | with_reducible refine es_augS ?_
  | with_reducible refine es_fld ?_
  | ((with_reducible show Ee (tVar _) _ _ _); refine ee_var rfl ?_)
  | with_reducible refine ee_c ?_
  | with_reducible refine ee_op ?_
  | with_reducible refine ee_un ?_
  | with_reducible refine eu_neg ?_
  | with_reducible refine ee_cb ?_
  | with_reducible refine ee_call ?_
  | with_reducible refine ea_nil ?_
  | with_reducible refine ea_cons ?_
  | with_reducible refine ee_sl ?_
  | with_reducible refine eo_no ?_
  | with_reducible refine eo_part ?_
  | with_reducible refine ee_tup ?_
  | with_reducible refine ee_lst ?_
  | with_reducible refine et_test ?_
  | with_reducible refine et_tB ?_
  | with_reducible refine et_tru ?_
  | with_reducible refine et_and ?_
  | with_reducible refine et_or ?_
  | with_reducible refine et_not ?_
  | with_reducible refine ee_and ?_
  | with_reducible refine ee_or ?_
  | with_reducible refine ee_not ?_
  | with_reducible refine ee_if ?_
  | with_reducible refine ee_chain ?_
  | with_reducible refine er_addI ?_
  | with_reducible refine er_subI ?_
  | with_reducible refine er_eqI ?_
  | with_reducible refine er_neI ?_
  | with_reducible refine er_eqNI ?_
  | with_reducible refine er_eqS ?_
  | with_reducible refine er_neS ?_
  | with_reducible refine er_eqB ?_
  | with_reducible refine er_neB ?_
  | with_reducible refine er_lt ?_
  | with_reducible refine er_le ?_
  | with_reducible refine er_gt ?_
  | with_reducible refine er_ge ?_
  | with_reducible refine er_isN_non ?_
  | with_reducible refine er_isN_bl ?_
  | with_reducible refine er_isN_int ?_
  | with_reducible refine er_isN_str ?_
  | with_reducible refine er_isN_ref ?_
  | with_reducible refine er_notN_non ?_
  | with_reducible refine er_notN_bl ?_
  | with_reducible refine er_notN_int ?_
  | with_reducible refine er_notN_str ?_
  | with_reducible refine er_notN_ref ?_
  | with_reducible refine er_isN ?_
  | with_reducible refine er_notN ?_
  | with_reducible refine ec_int ?_
  | with_reducible refine ec_intB ?_
  | with_reducible refine ec_max2 ?_
  | with_reducible refine ec_min2 ?_
  | with_reducible refine ip_I ?_
  | ((with_reducible refine eg_name ?_); (try dsimp only [L2.wipe, List.set_cons_zero, List.set_cons_succ]))
  | with_reducible refine eg_sub ?_
  | with_reducible refine egs_cons ?_
  | with_reducible refine egs_nil ?_
  | with_reducible refine tru_bl ?_
  | with_reducible refine tru_int ?_
  | with_reducible refine tru_non ?_
  | with_reducible refine iteT ?_
  | with_reducible refine iteF ?_
  | with_reducible refine ite_nt ?_
  | with_reducible refine ite_nf ?_
  | with_reducible refine ⟨_, rfl, ?_⟩)
local macro_rules | `(tactic| k_extra "s") => `(tactic| ((first | k_extra "x1" | ((with_reducible refine es_unf ?_); refine es_seq ?_)); (repeat k_extra "x1")))
local macro_rules | `(tactic| k_extra "x") => `(tactic| (repeat first | k_extra "x1" | ((with_reducible refine es_unf ?_); refine es_seq ?_)))
local macro_rules | `(tactic| k_extra "start") => `(tactic| dsimp only [L2.start, List.map_cons, List.map_nil, List.length_cons, List.length_nil, Nat.reduceAdd, Nat.reduceSub, List.replicate, List.cons_append, List.nil_append, Nat.zero_add])
local macro_rules | `(tactic| k_extra "e1") => `(tactic| first
  | with_reducible refine es_next ?_
  | ((with_reducible show Ee (tVar _) _ _ _); refine ee_var rfl ?_)
  | with_reducible refine ee_c ?_
  | with_reducible refine ee_op ?_
  | with_reducible refine ee_un ?_
  | with_reducible refine eu_neg ?_
  | with_reducible refine ee_cb ?_
  | with_reducible refine ee_call ?_
  | with_reducible refine ea_nil ?_
  | with_reducible refine ea_cons ?_
  | with_reducible refine ee_sl ?_
  | with_reducible refine eo_no ?_
  | with_reducible refine eo_part ?_
  | with_reducible refine ee_tup ?_
  | with_reducible refine ee_lst ?_
  | with_reducible refine et_test ?_
  | with_reducible refine et_tB ?_
  | with_reducible refine et_tru ?_
  | with_reducible refine et_and ?_
  | with_reducible refine et_or ?_
  | with_reducible refine et_not ?_
  | with_reducible refine ee_and ?_
  | with_reducible refine ee_or ?_
  | with_reducible refine ee_not ?_
  | with_reducible refine ee_if ?_
  | with_reducible refine ee_chain ?_
  | with_reducible refine er_addI ?_
  | with_reducible refine er_subI ?_
  | with_reducible refine er_eqI ?_
  | with_reducible refine er_neI ?_
  | with_reducible refine er_eqNI ?_
  | with_reducible refine er_eqS ?_
  | with_reducible refine er_neS ?_
  | with_reducible refine er_eqB ?_
  | with_reducible refine er_neB ?_
  | with_reducible refine er_lt ?_
  | with_reducible refine er_le ?_
  | with_reducible refine er_gt ?_
  | with_reducible refine er_ge ?_
  | with_reducible refine er_isN_non ?_
  | with_reducible refine er_isN_bl ?_
  | with_reducible refine er_isN_int ?_
  | with_reducible refine er_isN_str ?_
  | with_reducible refine er_isN_ref ?_
  | with_reducible refine er_notN_non ?_
  | with_reducible refine er_notN_bl ?_
  | with_reducible refine er_notN_int ?_
  | with_reducible refine er_notN_str ?_
  | with_reducible refine er_notN_ref ?_
  | with_reducible refine er_isN ?_
  | with_reducible refine er_notN ?_
  | with_reducible refine ec_int ?_
  | with_reducible refine ec_intB ?_
  | with_reducible refine ec_max2 ?_
  | with_reducible refine ec_min2 ?_
  | with_reducible refine ip_I ?_
  | ((with_reducible refine eg_name ?_); (try dsimp only [L2.wipe, List.set_cons_zero, List.set_cons_succ]))
  | with_reducible refine eg_sub ?_
  | with_reducible refine egs_cons ?_
  | with_reducible refine egs_nil ?_
  | with_reducible refine tru_bl ?_
  | with_reducible refine tru_int ?_
  | with_reducible refine tru_non ?_
  | with_reducible refine iteT ?_
  | with_reducible refine iteF ?_
  | with_reducible refine ite_nt ?_
  | with_reducible refine ite_nf ?_
  | with_reducible refine ex_bl ?_
  | with_reducible refine ex_int ?_
  | with_reducible refine ex_str ?_
  | with_reducible refine ex_strx ?_
  | with_reducible refine ex_ints1 ?_
  | with_reducible refine ex_ints2 ?_)
local macro_rules | `(tactic| k_extra "t1") => `(tactic| first
  | with_reducible refine es_asg ?_
  | with_reducible refine es_if ?_
  | with_reducible refine es_ret ?_
  | with_reducible refine es_drop ?_
  | with_reducible refine es_augS ?_
  | with_reducible refine es_fld ?_)
local macro_rules | `(tactic| k_extra "e") => `(tactic| first
  | ((with_reducible refine es_seq ?_); (try k_extra "t1"); (repeat k_extra "e1"))
  | (k_extra "t1"; (repeat k_extra "e1"))
  | (k_extra "e1"; (repeat k_extra "e1"))
  | ((with_reducible refine es_unf ?_); (refine es_seq ?_); (try k_extra "t1"); (repeat k_extra "e1")))
/-- the number: above what is named, and above the own ones -/
theorem deed_number {K : PySem.W.Frag} {A : Ad} {G : Hp} {Q : V → Hp → Prop} {p pr pm ro : Addr} {ds : List Int} {i : Int} {vss : List (List V)} {rows : List (List De)} {B : Int} {r : Nat} {row : List De} {m : Str} {rm : List Mk} {bh : Option Mk} {vb : V} {rvs : List V} {c6 c8 c10 c11 c12 c13 : Option V}
    (h : Li G p ds) (hd : Dr ds) (hi : 0 ≤ i) (hra : RowsAt G pr vss) (hz : Rz G vss rows) (w : Wf B rows) (hm : m ∈ modS) (hr : G pm = some (.lst rvs)) (hI : Izs G rvs (rm.map mP)) (hl : rm.length ≤ 3) (hb : Iz G vb (bP bh))
    (hrow : rows[r]? = some row) (hro : RowL G ro row)
    (hrm : ∀ x ∈ rm, HasMk rows m x) (hbm : ∀ b, bh = some b → HasMk rows m b)
    (q : ∀ v d G', MU A G G' → Iz G' v (deD d) → DFit rows r d → Q v G') :
    Es (t__law_deed_5 K A) { nx := fun _ G' => Q .non G', rt := Q } [some (.ref p), some (.int i), some (.ref pr), some (.int (r : Int)), some (.ref ro), some (.str m), c6, some (.ref pm), c8, some vb, c10, c11, c12, c13] G := by
  obtain ⟨ovs, ho, hoI⟩ := hro
  have lo := izs_len hoI
  rw [List.length_map] at lo
  have lr := izs_len hI
  rw [List.length_map] at lr
  have hl0 := lst_nn rows
  k_extra "e"
  k_extra "e"
  refine es_forL ?_
  k_extra "e"
  refine ⟨sz1000 (by simp), fun pb hpb => ?_⟩
  refine er_addL (get_new hr hpb) upd_same (sz1000 (by simp; omega)) fun pa hpa => ?_
  have e1 := (Ex.new (o := .lst [vb]) hpb).trans (Ex.new (o := .lst (rvs ++ [vb])) hpa)
  have ga : upd (upd G pb (.lst [vb])) pa (.lst (rvs ++ [vb])) pa = some (.lst (rvs ++ [vb])) := upd_same
  generalize upd (upd G pb (.lst [vb])) pa (.lst (rvs ++ [vb])) = G1 at e1 ga ⊢
  have hall : Izs G1 (rvs ++ [vb]) ((rm.map some ++ [bh]).map bP) := by
    rw [List.map_append, List.map_map]
    exact izs_app (e1.tz.izs (by exact hI)) (.cons (e1.tz.iz hb) .nil)
  have hasall : ∀ b, some b ∈ rm.map some ++ [bh] → HasMk rows m b := by
    intro b hb'
    rcases List.mem_append.mp hb' with hb' | hb'
    · obtain ⟨x, hx, e⟩ := List.mem_map.mp hb'
      cases e; exact hrm _ hx
    · rw [List.mem_singleton] at hb'
      exact hbm b hb'.symm
  refine ⟨pa, rvs ++ [vb], rfl, SqL.of ga, fun j σ G' => ∃ n c11, σ = [some (.ref p), some (.int i), some (.ref pr), some (.int (r : Int)), some (.ref ro), some (.str m), c6, some (.ref pm), c8, some vb, some (.int n), c11, c12, c13] ∧ Ex G1 G' ∧ 1 ≤ n ∧ n ≤ lst rows + 1 ∧ ∀ b, some b ∈ (rm.map some ++ [bh]).take j → b.1 < n, ⟨_, _, rfl, Ex.refl _, by decide, by omega, fun b hb' => by simp at hb'⟩, ?_, ?_, ?_⟩
  · rintro j σ G' ⟨n, c11, rfl, x1, x2, x3, x4⟩
    exact SqL.of (x1 _ _ ga)
  · rintro j x σ G' hx ⟨n, c11, rfl, x1, x2, x3, x4⟩
    obtain ⟨d, hd', id⟩ := izs_get' (x1.tz.izs hall) hx
    obtain ⟨ob, hob, rfl⟩ := Option.map_eq_some_iff.mp (by rw [← List.getElem?_map]; exact hd')
    have hnext : ∀ b, some b ∈ (rm.map some ++ [bh]).take (j + 1) → some b ∈ (rm.map some ++ [bh]).take j ∨ ob = some b := by
      intro b hb'
      rw [List.take_add_one, hob] at hb'
      rcases List.mem_append.mp hb' with hb' | hb'
      · exact .inl hb'
      · right; simpa [eq_comm] using hb'
    k_extra "e"
    cases ob with
    | none =>
      cases id
      k_extra "e"
      exact ⟨n, _, rfl, x1, x2, x3, fun b hb' => (hnext b hb').elim (x4 b) fun z => by cases z⟩
    | some b =>
      obtain ⟨tb, rfl, htb⟩ := iz_mark id
      have hh := has_lst (hasall b (List.mem_of_getElem? hob))
      k_extra "e"
      k_extra "e"
      refine er_ixT (SqT.of htb) (atI_nat (j := 0) rfl) ?_
      k_extra "e"
      rw [max_if]
      refine ⟨_, _, rfl, x1, by omega, by omega, fun b' hb' => ?_⟩
      rcases hnext b' hb' with z | z
      · have := x4 b' z; omega
      · cases z; omega
  · rintro σ G' ⟨n, c11, rfl, x1, x2, x3, x4⟩
    rw [List.take_of_length_le (by rw [List.length_append, List.length_append, List.length_map, lr]; exact Nat.le_refl _)] at x4
    have x5 := e1.trans x1
    k_extra "e"
    refine es_forL ?_
    k_extra "e"
    refine ⟨ro, ovs, rfl, SqL.of (x5 _ _ ho), fun j σ G2 => ∃ n' c12, σ = [some (.ref p), some (.int i), some (.ref pr), some (.int (r : Int)), some (.ref ro), some (.str m), c6, some (.ref pm), c8, some vb, some (.int n'), c11, c12, c13] ∧ G2 = G' ∧ n ≤ n' ∧ n' ≤ lst rows + 1 ∧ ∀ d ∈ row.take j, ∀ m' rm' bh' n2 t', d = De.change m' rm' bh' n2 t' → n2 + t'.length ≤ n', ⟨_, _, rfl, rfl, Int.le_refl _, x3, fun d hd' => by simp at hd'⟩, ?_, ?_, ?_⟩
    · rintro j σ G2 ⟨n', c12, rfl, rfl, y1, y2, y3⟩
      exact SqL.of (x5 _ _ ho)
    · rintro j x σ G2 hx ⟨n', c12, rfl, rfl, y1, y2, y3⟩
      have hj : j < row.length := by rw [← lo]; exact (List.getElem?_eq_some_iff.mp hx).1
      have hdj := List.getElem?_eq_getElem hj
      obtain ⟨x', hx', ix⟩ := izs_get (x5.tz.izs hoI) (show (row.map deD)[j]? = some (deD row[j]) by rw [List.getElem?_map, hdj]; rfl)
      rw [hx] at hx'; cases hx'
      have hnext : ∀ d, d ∈ row.take (j + 1) → d ∈ row.take j ∨ d = row[j] := by
        intro d hd'
        rw [List.take_add_one, hdj] at hd'
        rcases List.mem_append.mp hd' with hd' | hd'
        · exact .inl hd'
        · right; simpa using hd'
      have hmem : row[j] ∈ rows.getD r [] := by rw [getD_some hrow]; exact List.getElem_mem hj
      obtain ⟨t, ys, rfl, ht2, hw⟩ := de_word ix
      k_extra "e"
      k_extra "e"
      refine er_ixT (SqT.of ht2) (atI_nat hw) ?_
      k_extra "e"
      cases hdd : row[j] with
      | back n2 =>
        refine ifd (fun z => absurd z (by simp only [wordOf]; decide)) (fun _ => ?_)
        k_extra "e"
        refine ⟨n', _, rfl, rfl, y1, y2, fun d hd' m' rm' bh' n3 t3 e => ?_⟩
        rcases hnext d hd' with z | z
        · exact y3 d z m' rm' bh' n3 t3 e
        · rw [hdd, e] at z; cases z
      | change m' rm' bh' n2 t' =>
        have hok := w.ok r _ hmem
        rw [hdd] at ix hmem hok
        have hge := lst_ge hmem
        refine ifd (fun _ => ?_) (fun z => absurd rfl z)
        obtain ⟨t2, vr, vb', e', h1', _, _⟩ := de_chg ix
        cases e'
        k_extra "e"
        refine er_ixT (SqT.of h1') (atI_nat (j := 4) rfl) ?_
        k_extra "e"
        refine er_ixT (SqT.of h1') (atI_nat (j := 5) rfl) ?_
        k_extra "e"
        refine ec_lenS (sz1000 (by have := hok.2.2.2.2.1; omega)) ?_
        k_extra "e"
        rw [max_if]
        refine ⟨_, _, rfl, rfl, by omega, by omega, fun d hd' m3 rm3 bh3 n3 t3 e => ?_⟩
        rcases hnext d hd' with z | z
        · have := y3 d z m3 rm3 bh3 n3 t3 e; omega
        · rw [hdd, e] at z; cases z; omega
    · rintro σ G2 ⟨n', c12, rfl, rfl, y1, y2, y3⟩
      rw [lo, List.take_length] at y3
      have xx := x5
      refine deed_end (x5 _ _ h) hd hi (hra.ex x5) (hz.tz x5.tz) w hm (x5 _ _ hr) (x5.tz.izs hI) hl (x5.tz.iz hb) (by omega) y2 (fun x hx => ⟨hrm x hx, ?_⟩) (fun b hb' => ⟨hbm b hb', ?_⟩) (fun d hd' => by rw [getD_some hrow] at hd'; exact y3 d hd') fun v d G' u => q v d G' (x5.upm.trans u)
      · have := x4 x (List.mem_append_left _ (List.mem_map.mpr ⟨x, hx, rfl⟩)); omega
      · have := x4 b (List.mem_append_right _ (by rw [hb']; simp)); omega
end Lw

namespace Lw
open PySem PySem.Spec PyProof.Rows L2
local macro_rules | `(tactic| k_extra "x1") => `(tactic| first
  | with_reducible refine es_seq ?_
  | with_reducible refine es_asg ?_
  | with_reducible refine es_if ?_
  | with_reducible refine es_ret ?_
  | with_reducible refine es_drop ?_
  | with_reducible refine es_next ?_
  | with_reducible refine es_augS ?_
  | with_reducible refine es_fld ?_
  | ((with_reducible show Ee (tVar _) _ _ _); refine ee_var rfl ?_)
  | with_reducible refine ee_c ?_
  | with_reducible refine ee_op ?_
  | with_reducible refine ee_un ?_
  | with_reducible refine eu_neg ?_
  | with_reducible refine ee_cb ?_
  | with_reducible refine ee_call ?_
  | with_reducible refine ea_nil ?_
  | with_reducible refine ea_cons ?_
  | with_reducible refine ee_sl ?_
  | with_reducible refine eo_no ?_
  | with_reducible refine eo_part ?_
  | with_reducible refine ee_tup ?_
  | with_reducible refine ee_lst ?_
  | with_reducible refine et_test ?_
  | with_reducible refine et_tB ?_
  | with_reducible refine et_tru ?_
  | with_reducible refine et_and ?_
  | with_reducible refine et_or ?_
  | with_reducible refine et_not ?_
  | with_reducible refine ee_and ?_
  | with_reducible refine ee_or ?_
  | with_reducible refine ee_not ?_
  | with_reducible refine ee_if ?_
  | with_reducible refine ee_chain ?_
  | with_reducible refine er_addI ?_
  | with_reducible refine er_subI ?_
  | with_reducible refine er_eqI ?_
  | with_reducible refine er_neI ?_
  | with_reducible refine er_eqNI ?_
  | with_reducible refine er_eqS ?_
  | with_reducible refine er_neS ?_
  | with_reducible refine er_eqB ?_
  | with_reducible refine er_neB ?_
  | with_reducible refine er_lt ?_
  | with_reducible refine er_le ?_
  | with_reducible refine er_gt ?_
  | with_reducible refine er_ge ?_
  | with_reducible refine er_isN_non ?_
  | with_reducible refine er_isN_bl ?_
  | with_reducible refine er_isN_int ?_
  | with_reducible refine er_isN_str ?_
  | with_reducible refine er_isN_ref ?_
  | with_reducible refine er_notN_non ?_
  | with_reducible refine er_notN_bl ?_
  | with_reducible refine er_notN_int ?_
  | with_reducible refine er_notN_str ?_
  | with_reducible refine er_notN_ref ?_
  | with_reducible refine er_isN ?_
  | with_reducible refine er_notN ?_
  | with_reducible refine ec_int ?_
  | with_reducible refine ec_intB ?_
  | with_reducible refine ec_max2 ?_
  | with_reducible refine ec_min2 ?_
  | with_reducible refine ip_I ?_
  | ((with_reducible refine eg_name ?_); (try dsimp only [L2.wipe, List.set_cons_zero, List.set_cons_succ]))
  | with_reducible refine eg_sub ?_
  | with_reducible refine egs_cons ?_
  | with_reducible refine egs_nil ?_
  | with_reducible refine tru_bl ?_
  | with_reducible refine tru_int ?_
  | with_reducible refine tru_non ?_
  | with_reducible refine iteT ?_
  | with_reducible refine iteF ?_
  | with_reducible refine ite_nt ?_
  | with_reducible refine ite_nf ?_
  | with_reducible refine ⟨_, rfl, ?_⟩)
local macro_rules | `(tactic| k_extra "s") => `(tactic| ((first | k_extra "x1" | ((with_reducible refine es_unf ?_); refine es_seq ?_)); (repeat k_extra "x1")))
local macro_rules | `(tactic| k_extra "x") => `(tactic| (repeat first | k_extra "x1" | ((with_reducible refine es_unf ?_); refine es_seq ?_)))
local macro_rules | `(tactic| k_extra "start") => `(tactic| dsimp only [L2.start, List.map_cons, List.map_nil, List.length_cons, List.length_nil, Nat.reduceAdd, Nat.reduceSub, List.replicate, List.cons_append, List.nil_append, Nat.zero_add])
local macro_rules | `(tactic| k_extra "e1") => `(tactic| first
  | with_reducible refine es_next ?_
  | ((with_reducible show Ee (tVar _) _ _ _); refine ee_var rfl ?_)
  | with_reducible refine ee_c ?_
  | with_reducible refine ee_op ?_
  | with_reducible refine ee_un ?_
  | with_reducible refine eu_neg ?_
  | with_reducible refine ee_cb ?_
  | with_reducible refine ee_call ?_
  | with_reducible refine ea_nil ?_
  | with_reducible refine ea_cons ?_
  | with_reducible refine ee_sl ?_
  | with_reducible refine eo_no ?_
  | with_reducible refine eo_part ?_
  | with_reducible refine ee_tup ?_
  | with_reducible refine ee_lst ?_
  | with_reducible refine et_test ?_
  | with_reducible refine et_tB ?_
  | with_reducible refine et_tru ?_
  | with_reducible refine et_and ?_
  | with_reducible refine et_or ?_
  | with_reducible refine et_not ?_
  | with_reducible refine ee_and ?_
  | with_reducible refine ee_or ?_
  | with_reducible refine ee_not ?_
  | with_reducible refine ee_if ?_
  | with_reducible refine ee_chain ?_
  | with_reducible refine er_addI ?_
  | with_reducible refine er_subI ?_
  | with_reducible refine er_eqI ?_
  | with_reducible refine er_neI ?_
  | with_reducible refine er_eqNI ?_
  | with_reducible refine er_eqS ?_
  | with_reducible refine er_neS ?_
  | with_reducible refine er_eqB ?_
  | with_reducible refine er_neB ?_
  | with_reducible refine er_lt ?_
  | with_reducible refine er_le ?_
  | with_reducible refine er_gt ?_
  | with_reducible refine er_ge ?_
  | with_reducible refine er_isN_non ?_
  | with_reducible refine er_isN_bl ?_
  | with_reducible refine er_isN_int ?_
  | with_reducible refine er_isN_str ?_
  | with_reducible refine er_isN_ref ?_
  | with_reducible refine er_notN_non ?_
  | with_reducible refine er_notN_bl ?_
  | with_reducible refine er_notN_int ?_
  | with_reducible refine er_notN_str ?_
  | with_reducible refine er_notN_ref ?_
  | with_reducible refine er_isN ?_
  | with_reducible refine er_notN ?_
  | with_reducible refine ec_int ?_
  | with_reducible refine ec_intB ?_
  | with_reducible refine ec_max2 ?_
  | with_reducible refine ec_min2 ?_
  | with_reducible refine ip_I ?_
  | ((with_reducible refine eg_name ?_); (try dsimp only [L2.wipe, List.set_cons_zero, List.set_cons_succ]))
  | with_reducible refine eg_sub ?_
  | with_reducible refine egs_cons ?_
  | with_reducible refine egs_nil ?_
  | with_reducible refine tru_bl ?_
  | with_reducible refine tru_int ?_
  | with_reducible refine tru_non ?_
  | with_reducible refine iteT ?_
  | with_reducible refine iteF ?_
  | with_reducible refine ite_nt ?_
  | with_reducible refine ite_nf ?_
  | with_reducible refine ex_bl ?_
  | with_reducible refine ex_int ?_
  | with_reducible refine ex_str ?_
  | with_reducible refine ex_strx ?_
  | with_reducible refine ex_ints1 ?_
  | with_reducible refine ex_ints2 ?_)
local macro_rules | `(tactic| k_extra "t1") => `(tactic| first
  | with_reducible refine es_asg ?_
  | with_reducible refine es_if ?_
  | with_reducible refine es_ret ?_
  | with_reducible refine es_drop ?_
  | with_reducible refine es_augS ?_
  | with_reducible refine es_fld ?_)
local macro_rules | `(tactic| k_extra "e") => `(tactic| first
  | ((with_reducible refine es_seq ?_); (try k_extra "t1"); (repeat k_extra "e1"))
  | (k_extra "t1"; (repeat k_extra "e1"))
  | (k_extra "e1"; (repeat k_extra "e1"))
  | ((with_reducible refine es_unf ?_); (refine es_seq ?_); (try k_extra "t1"); (repeat k_extra "e1")))
theorem ok__law_deed {K : PySem.W.Frag} {A : Ad} : ∀ vs G Q E, S__law_deed K A vs G Q E → Es (t__law_deed K A) { nx := fun _ G' => Q .non G', rt := Q } (L2.start ["draws", "index", "rows", "replica", "own", "module", "marks", "removed", "k", "behind", "number", "mark", "deed", "each"] vs) G := by
  rintro vs G Q E ⟨p, pr, ds, i, vss, rows, B, r, rfl, h, hd, hi, hra, hz, w, hr8, T, q⟩
  change Es _ _ (_ :: _ :: _ :: _ :: _ :: _ :: _ :: _ :: _ :: _ :: _ :: _ :: _ :: _ :: []) _
  obtain ⟨row, hrow, hlen, hok⟩ := w.row hr8
  obtain ⟨xs, ro, gp, gx, hro, _⟩ := hra.get hz hrow
  have hro' := hro
  obtain ⟨ovs, ho, hoI⟩ := hro'
  have lo := izs_len hoI
  rw [List.length_map] at lo
  k_extra "e"
  refine er_ixL (SqL.of gp) (atI_nat gx) ?_
  k_extra "e"
  -- a change
  have change : Es (t__law_deed_11 K A) { nx := fun _ G' => Q .non G', rt := Q } [some (.ref p), some (.int i), some (.ref pr), some (.int (r : Int)), some (.ref ro), none, none, none, none, none, none, none, none, none] G := by
    k_extra "e"
    refine ⟨rfl, fun pmod hpmod => ?_⟩
    have e1 := Ex.new (o := .lst (modS.map V.str)) hpmod
    k_extra "e"
    refine at_call (e1 _ _ h) hd (by omega) fun x hx => ?_
    k_extra "e"
    refine er_mod (by decide) ?_
    k_extra "e"
    refine er_div (by decide) ?_
    obtain ⟨j, hj⟩ := Int.eq_ofNat_of_zero_le (show 0 ≤ x % 16 / 5 by omega)
    have hj2 : j < modS.length := by show j < 4; omega
    rw [hj]
    refine er_ixL (SqL.of upd_same) (atI_nat (v := .str modS[j]) (by rw [List.getElem?_map, List.getElem?_eq_getElem hj2]; rfl)) ?_
    have hm : modS[j] ∈ modS := List.getElem_mem hj2
    generalize modS[j] = m at hm
    generalize upd G pmod (.lst (modS.map V.str)) = G1 at e1 ⊢
    k_extra "e"
    k_extra "e"
    refine ee_lcL ?_
    k_extra "e"
    refine ⟨pr, m, vss, rows, B, rfl, hra.ex e1, hz.tz e1.tz, w, T.ext e1, fun pw acc G2 u2 n2 hw hI => ?_⟩
    have lacc := izs_len hI
    rw [List.length_map] at lacc
    have lrow := rowOf_len w m
    refine ⟨pw, acc, rfl, SqL.of hw, fun pk hpk => ⟨fun k macc G3 => Ex G2 G3 ∧ G3 pk = none ∧ Izs G3 macc (((rowOf rows m).map fun x => mP x.1).take k) ∧ k ≤ acc.length, ⟨Ex.refl _, hpk, .nil, Nat.zero_le _⟩, ?_, ?_, ?_⟩⟩
    · rintro k macc G3 ⟨y1, y2, y3, y4⟩
      have := izs_len y3
      rw [List.length_take] at this
      exact ⟨y2, szlt (by omega), SqL.of (y1 _ _ hw)⟩
    · rintro k macc y G3 hy ⟨y1, y2, y3, y4⟩
      have hk := (List.getElem?_eq_some_iff.mp hy).1
      have hk2 : k < (rowOf rows m).length := by omega
      have hz2 := List.getElem?_eq_getElem hk2
      obtain ⟨y', hy', iy⟩ := izs_get hI (show ((rowOf rows m).map rowD)[k]? = some (rowD (rowOf rows m)[k]) by rw [List.getElem?_map, hz2]; rfl)
      rw [hy] at hy'; cases hy'
      obtain ⟨t, vm, rfl, g1, g2⟩ := iz_row iy
      have y5 := y1.trans (Ex.new (o := .lst macc) y2)
      k_extra "e"
      refine ⟨rfl, et_yes ?_⟩
      refine iteT ?_
      k_extra "e"
      refine er_ixT (SqT.of (y5 _ _ g1)) (atI_nat (j := 0) rfl) ?_
      refine ⟨upd_same, G3, Ex.refl _, y1, y2, ?_, by omega⟩
      rw [List.take_add_one, List.getElem?_map, hz2]
      exact izs_app y3 (.cons (y1.tz.iz g2) .nil)
    rintro macc G3 ⟨y1, y2, y3, y4⟩
    rw [List.take_of_length_le (by rw [List.length_map]; omega)] at y3
    have y5 := y1.trans (Ex.new (o := .lst macc) y2)
    have lm := izs_len y3
    rw [List.length_map] at lm
    have hM : Izs (upd G3 pk (.lst macc)) macc (((rowOf rows m).map fun x => x.1).map mP) := by rw [List.map_map]; exact (Ex.new y2).tz.izs y3
    have gM : upd G3 pk (.lst macc) pk = some (.lst macc) := upd_same
    have u5 : MU A G (upd G3 pk (.lst macc)) := (e1.upm.trans u2).trans y5.upm
    have hmk : ∀ x ∈ (rowOf rows m).map (fun x => x.1), HasMk rows m x := fun x hx => by
      obtain ⟨z, hz', rfl⟩ := List.mem_map.mp hx
      exact row_marks hz'
    have lM : macc.length = ((rowOf rows m).map fun x => x.1).length := by rw [List.length_map]; exact lm
    generalize (rowOf rows m).map (fun x => x.1) = ms at hM hmk lM
    generalize upd G3 pk (.lst macc) = G4 at hM gM u5 ⊢
    k_extra "e"
    k_extra "e"
    refine ⟨sz1000 (by simp), fun pm hpm => ?_⟩
    k_extra "e"
    k_extra "e"
    refine es_forR1 ?_
    k_extra "e"
    have e6 := Ex.new (o := .lst []) hpm
    refine at_call (e6 _ _ (u5.lst h)) hd (by omega) fun z hz' => ?_
    k_extra "e"
    refine er_mod (by decide) ?_
    k_extra "e"
    refine ⟨by omega, fun k σ G' => ∃ c8 rvs rm, σ = [some (.ref p), some (.int i), some (.ref pr), some (.int (r : Int)), some (.ref ro), some (.str m), some (.ref pk), some (.ref pm), c8, none, none, none, none, none] ∧ Ex G4 G' ∧ G' pm = some (.lst rvs) ∧ Izs G' rvs (rm.map mP) ∧ rm.length ≤ k ∧ (k : Int) ≤ 3 ∧ ∀ x ∈ rm, HasMk rows m x, ⟨_, [], [], rfl, e6, upd_same, .nil, Nat.le_refl _, by decide, fun x hx => by cases hx⟩, ?_, ?_⟩
    · rintro k σ G' hk ⟨c8, rvs, rm, rfl, x1, x2, x3, x4, x5, x6⟩
      have lrv := izs_len x3
      rw [List.length_map] at lrv
      k_extra "e"
      refine ec_lenL (SqL.of (x1 _ _ gM)) fun _ => ?_
      k_extra "e"
      refine ifd (fun hpos => ?_) (fun _ => ?_)
      · k_extra "e"
        refine ee_bm ?_
        k_extra "e"
        refine ⟨ty_lst x2, ?_⟩
        k_extra "e"
        refine at_call (x1 _ _ (u5.lst h)) hd (by omega) fun z2 hz2 => ?_
        k_extra "e"
        refine ec_lenL (SqL.of (x1 _ _ gM)) fun _ => ?_
        refine er_mod (by omega) ?_
        have hm0 : 0 ≤ z2 % (macc.length : Int) := Int.emod_nonneg _ (by omega)
        have hm1 : z2 % (macc.length : Int) < macc.length := Int.emod_lt_of_pos _ (by omega)
        obtain ⟨a, ha⟩ := Int.eq_ofNat_of_zero_le hm0
        have ha2 : a < ms.length := by omega
        obtain ⟨x, hx, ix⟩ := izs_get hM (show (ms.map mP)[a]? = some (mP ms[a]) by rw [List.getElem?_map, List.getElem?_eq_getElem ha2]; rfl)
        rw [ha]
        refine er_ixL (SqL.of (x1 _ _ gM)) (atI_nat hx) ?_
        k_extra "e"
        refine em_append x2 (szlt (by omega)) ?_
        have tm := Tz.mutL (o := .lst (rvs ++ [x])) x2
        refine ⟨_, rvs ++ [x], rm ++ [ms[a]], rfl, x1.mut hpm, upd_same, ?_, by rw [List.length_append, List.length_cons, List.length_nil]; omega, by omega, fun y hy => ?_⟩
        · rw [List.map_append]
          exact izs_app (tm.izs x3) (.cons ((x1.tz.trans tm).iz ix) .nil)
        · rcases List.mem_append.mp hy with hy | hy
          · exact x6 y hy
          · rw [List.mem_singleton] at hy; subst hy; exact hmk _ (List.getElem_mem ha2)
      · k_extra "e"
        exact ⟨_, rvs, rm, rfl, x1, x2, x3, by omega, by omega, x6⟩
    · rintro σ G' ⟨c8, rvs, rm, rfl, x1, x2, x3, x4, x5, x6⟩
      have u7 := u5.trans x1.upm
      have fin : ∀ (bh : Option Mk) (vb : V), Iz G' vb (bP bh) → (∀ b, bh = some b → HasMk rows m b) → Es (t__law_deed_5 K A) { nx := fun _ G' => Q .non G', rt := Q } [some (.ref p), some (.int i), some (.ref pr), some (.int (r : Int)), some (.ref ro), some (.str m), some (.ref pk), some (.ref pm), c8, some vb, none, none, none, none] G' := fun bh vb hb hbm =>
        deed_number (u7.lst h) hd hi (hra.up u7) (hz.tz u7.tz) w hm x2 x3 (by omega) hb hrow (hro.up u7) x6 hbm fun v d G'' u => q v d G'' (u7.trans u)
      k_extra "e"
      k_extra "e"
      refine ec_lenL (SqL.of (x1 _ _ gM)) fun _ => ?_
      k_extra "e"
      refine ifd (fun hpos => ?_) (fun _ => ?_)
      · k_extra "e"
        refine at_call (u7.lst h) hd (by omega) fun z2 hz2 => ?_
        k_extra "e"
        refine er_mod (by decide) ?_
        k_extra "e"
        refine ifnd (fun _ => ?_) (fun _ => ?_)
        · k_extra "e"
          refine at_call (u7.lst h) hd (by omega) fun z3 hz3 => ?_
          k_extra "e"
          refine er_div (by decide) ?_
          k_extra "e"
          refine ec_lenL (SqL.of (x1 _ _ gM)) fun _ => ?_
          refine er_mod (by omega) ?_
          have hm0 : 0 ≤ z3 / 5 % (macc.length : Int) := Int.emod_nonneg _ (by omega)
          have hm1 : z3 / 5 % (macc.length : Int) < macc.length := Int.emod_lt_of_pos _ (by omega)
          obtain ⟨a, ha⟩ := Int.eq_ofNat_of_zero_le hm0
          have ha2 : a < ms.length := by omega
          obtain ⟨x, hx, ix⟩ := izs_get hM (show (ms.map mP)[a]? = some (mP ms[a]) by rw [List.getElem?_map, List.getElem?_eq_getElem ha2]; rfl)
          rw [ha]
          refine er_ixL (SqL.of (x1 _ _ gM)) (atI_nat hx) ?_
          k_extra "e"
          exact fin (some ms[a]) x (x1.tz.iz ix) fun b hb => by cases hb; exact hmk _ (List.getElem_mem ha2)
        · k_extra "e"
          exact fin none .non .non fun b hb => by cases hb
      · k_extra "e"
        exact fin none .non .non fun b hb => by cases hb
  k_extra "e"
  refine at_call h hd hi fun x hx => ?_
  k_extra "e"
  refine er_mod (by decide) ?_
  k_extra "e"
  refine ifd (fun _ => ?_) (fun _ => ?_)
  · k_extra "e"
    refine ec_lenL (SqL.of ho) fun _ => ?_
    rw [lo]
    k_extra "e"
    refine ifd (fun hpos => ?_) (fun _ => ?_)
    · k_extra "e"
      refine at_call h hd (by omega) fun y hy => ?_
      k_extra "e"
      refine ec_lenL (SqL.of ho) fun _ => ?_
      rw [lo]
      refine er_mod (by omega) ?_
      k_extra "e"
      refine ⟨sz1000 (by simp), fun t ht => ?_⟩
      exact q _ (.back (1 + y % (row.length : Int))) _ (Ex.new ht).upm (.tup upd_same (.cons (.str _) (.cons (.int _) .nil))) trivial
    · k_extra "e"
      exact change
  · k_extra "e"
    exact change
end Lw

namespace Lw
open PySem PySem.Spec PyProof.Rows L2
local macro_rules | `(tactic| k_extra "x1") => `(tactic| first
  | with_reducible refine es_seq ?_
  | with_reducible refine es_asg ?_
  | with_reducible refine es_if ?_
  | with_reducible refine es_ret ?_
  | with_reducible refine es_drop ?_
  | with_reducible refine es_next ?_
  | with_reducible refine es_augS ?_
  | with_reducible refine es_fld ?_
  | ((with_reducible show Ee (tVar _) _ _ _); refine ee_var rfl ?_)
  | with_reducible refine ee_c ?_
  | with_reducible refine ee_op ?_
  | with_reducible refine ee_un ?_
  | with_reducible refine eu_neg ?_
  | with_reducible refine ee_cb ?_
  | with_reducible refine ee_call ?_
  | with_reducible refine ea_nil ?_
  | with_reducible refine ea_cons ?_
  | with_reducible refine ee_sl ?_
  | with_reducible refine eo_no ?_
  | with_reducible refine eo_part ?_
  | with_reducible refine ee_tup ?_
  | with_reducible refine ee_lst ?_
  | with_reducible refine et_test ?_
  | with_reducible refine et_tB ?_
  | with_reducible refine et_tru ?_
  | with_reducible refine et_and ?_
  | with_reducible refine et_or ?_
  | with_reducible refine et_not ?_
  | with_reducible refine ee_and ?_
  | with_reducible refine ee_or ?_
  | with_reducible refine ee_not ?_
  | with_reducible refine ee_if ?_
  | with_reducible refine ee_chain ?_
  | with_reducible refine er_addI ?_
  | with_reducible refine er_subI ?_
  | with_reducible refine er_eqI ?_
  | with_reducible refine er_neI ?_
  | with_reducible refine er_eqNI ?_
  | with_reducible refine er_eqS ?_
  | with_reducible refine er_neS ?_
  | with_reducible refine er_eqB ?_
  | with_reducible refine er_neB ?_
  | with_reducible refine er_lt ?_
  | with_reducible refine er_le ?_
  | with_reducible refine er_gt ?_
  | with_reducible refine er_ge ?_
  | with_reducible refine er_isN_non ?_
  | with_reducible refine er_isN_bl ?_
  | with_reducible refine er_isN_int ?_
  | with_reducible refine er_isN_str ?_
  | with_reducible refine er_isN_ref ?_
  | with_reducible refine er_notN_non ?_
  | with_reducible refine er_notN_bl ?_
  | with_reducible refine er_notN_int ?_
  | with_reducible refine er_notN_str ?_
  | with_reducible refine er_notN_ref ?_
  | with_reducible refine er_isN ?_
  | with_reducible refine er_notN ?_
  | with_reducible refine ec_int ?_
  | with_reducible refine ec_intB ?_
  | with_reducible refine ec_max2 ?_
  | with_reducible refine ec_min2 ?_
  | with_reducible refine ip_I ?_
  | ((with_reducible refine eg_name ?_); (try dsimp only [L2.wipe, List.set_cons_zero, List.set_cons_succ]))
  | with_reducible refine eg_sub ?_
  | with_reducible refine egs_cons ?_
  | with_reducible refine egs_nil ?_
  | with_reducible refine tru_bl ?_
  | with_reducible refine tru_int ?_
  | with_reducible refine tru_non ?_
  | with_reducible refine iteT ?_
  | with_reducible refine iteF ?_
  | with_reducible refine ite_nt ?_
  | with_reducible refine ite_nf ?_
  | with_reducible refine ⟨_, rfl, ?_⟩)
local macro_rules | `(tactic| k_extra "s") => `(tactic| ((first | k_extra "x1" | ((with_reducible refine es_unf ?_); refine es_seq ?_)); (repeat k_extra "x1")))
local macro_rules | `(tactic| k_extra "x") => `(tactic| (repeat first | k_extra "x1" | ((with_reducible refine es_unf ?_); refine es_seq ?_)))
local macro_rules | `(tactic| k_extra "start") => `(tactic| dsimp only [L2.start, List.map_cons, List.map_nil, List.length_cons, List.length_nil, Nat.reduceAdd, Nat.reduceSub, List.replicate, List.cons_append, List.nil_append, Nat.zero_add])
local macro_rules | `(tactic| k_extra "e1") => `(tactic| first
  | with_reducible refine es_next ?_
  | ((with_reducible show Ee (tVar _) _ _ _); refine ee_var rfl ?_)
  | with_reducible refine ee_c ?_
  | with_reducible refine ee_op ?_
  | with_reducible refine ee_un ?_
  | with_reducible refine eu_neg ?_
  | with_reducible refine ee_cb ?_
  | with_reducible refine ee_call ?_
  | with_reducible refine ea_nil ?_
  | with_reducible refine ea_cons ?_
  | with_reducible refine ee_sl ?_
  | with_reducible refine eo_no ?_
  | with_reducible refine eo_part ?_
  | with_reducible refine ee_tup ?_
  | with_reducible refine ee_lst ?_
  | with_reducible refine et_test ?_
  | with_reducible refine et_tB ?_
  | with_reducible refine et_tru ?_
  | with_reducible refine et_and ?_
  | with_reducible refine et_or ?_
  | with_reducible refine et_not ?_
  | with_reducible refine ee_and ?_
  | with_reducible refine ee_or ?_
  | with_reducible refine ee_not ?_
  | with_reducible refine ee_if ?_
  | with_reducible refine ee_chain ?_
  | with_reducible refine er_addI ?_
  | with_reducible refine er_subI ?_
  | with_reducible refine er_eqI ?_
  | with_reducible refine er_neI ?_
  | with_reducible refine er_eqNI ?_
  | with_reducible refine er_eqS ?_
  | with_reducible refine er_neS ?_
  | with_reducible refine er_eqB ?_
  | with_reducible refine er_neB ?_
  | with_reducible refine er_lt ?_
  | with_reducible refine er_le ?_
  | with_reducible refine er_gt ?_
  | with_reducible refine er_ge ?_
  | with_reducible refine er_isN_non ?_
  | with_reducible refine er_isN_bl ?_
  | with_reducible refine er_isN_int ?_
  | with_reducible refine er_isN_str ?_
  | with_reducible refine er_isN_ref ?_
  | with_reducible refine er_notN_non ?_
  | with_reducible refine er_notN_bl ?_
  | with_reducible refine er_notN_int ?_
  | with_reducible refine er_notN_str ?_
  | with_reducible refine er_notN_ref ?_
  | with_reducible refine er_isN ?_
  | with_reducible refine er_notN ?_
  | with_reducible refine ec_int ?_
  | with_reducible refine ec_intB ?_
  | with_reducible refine ec_max2 ?_
  | with_reducible refine ec_min2 ?_
  | with_reducible refine ip_I ?_
  | ((with_reducible refine eg_name ?_); (try dsimp only [L2.wipe, List.set_cons_zero, List.set_cons_succ]))
  | with_reducible refine eg_sub ?_
  | with_reducible refine egs_cons ?_
  | with_reducible refine egs_nil ?_
  | with_reducible refine tru_bl ?_
  | with_reducible refine tru_int ?_
  | with_reducible refine tru_non ?_
  | with_reducible refine iteT ?_
  | with_reducible refine iteF ?_
  | with_reducible refine ite_nt ?_
  | with_reducible refine ite_nf ?_
  | with_reducible refine ex_bl ?_
  | with_reducible refine ex_int ?_
  | with_reducible refine ex_str ?_
  | with_reducible refine ex_strx ?_
  | with_reducible refine ex_ints1 ?_
  | with_reducible refine ex_ints2 ?_)
local macro_rules | `(tactic| k_extra "t1") => `(tactic| first
  | with_reducible refine es_asg ?_
  | with_reducible refine es_if ?_
  | with_reducible refine es_ret ?_
  | with_reducible refine es_drop ?_
  | with_reducible refine es_augS ?_
  | with_reducible refine es_fld ?_)
local macro_rules | `(tactic| k_extra "e") => `(tactic| first
  | ((with_reducible refine es_seq ?_); (try k_extra "t1"); (repeat k_extra "e1"))
  | (k_extra "t1"; (repeat k_extra "e1"))
  | (k_extra "e1"; (repeat k_extra "e1"))
  | ((with_reducible refine es_unf ?_); (refine es_seq ?_); (try k_extra "t1"); (repeat k_extra "e1")))
/-! ### drawn deeds: what is kept (plain) -/
def addR (rows : List (List De)) (k : Nat) (d : De) : List (List De) := rows.modify k (· ++ [d])
def cut (rows : List (List De)) (c : List Nat) : List (List De) := (List.range 8).map fun k => (rows.getD k []).take (c.getD k 0)
def rowsOf (ts : List (Nat × De)) : List (List De) := ts.foldl (fun rs x => addR rs x.1 x.2) (List.replicate 8 [])
def mx (a b : List Nat) : List Nat := (List.range 8).map fun j => max (a.getD j 0) (b.getD j 0)
theorem addR_len (rows : List (List De)) (k : Nat) (d : De) : (addR rows k d).length = rows.length := by unfold addR; rw [List.length_modify]
theorem addR_same {rows : List (List De)} {k : Nat} {d : De} (h : k < rows.length) : (addR rows k d).getD k [] = rows.getD k [] ++ [d] := by
  unfold addR
  rw [List.getD_eq_getElem?_getD, List.getD_eq_getElem?_getD, List.getElem?_modify, List.getElem?_eq_getElem h]
  simp
theorem addR_ne {rows : List (List De)} {k i : Nat} {d : De} (h : i ≠ k) : (addR rows k d).getD i [] = rows.getD i [] := by
  unfold addR
  rw [List.getD_eq_getElem?_getD, List.getD_eq_getElem?_getD, List.getElem?_modify]
  simp [Ne.symm h]
theorem rowsOf_snoc (ts : List (Nat × De)) (x : Nat × De) : rowsOf (ts ++ [x]) = addR (rowsOf ts) x.1 x.2 := by unfold rowsOf; rw [List.foldl_append]; rfl
theorem rowsOf_len (ts : List (Nat × De)) : (rowsOf ts).length = 8 := by
  refine snoc_ind (P := fun ts => (rowsOf ts).length = 8) ?_ ?_ ts
  · simp [rowsOf]
  · intro es e h; rw [rowsOf_snoc, addR_len]; exact h
theorem cut_len (rows : List (List De)) (c : List Nat) : (cut rows c).length = 8 := by simp [cut]
theorem cut_getD {rows : List (List De)} {c : List Nat} {k : Nat} (h : rows.length = 8) : (cut rows c).getD k [] = (rows.getD k []).take (c.getD k 0) := by
  unfold cut
  rw [List.getD_eq_getElem?_getD, List.getElem?_map]
  by_cases hk : k < 8
  · rw [List.getElem?_range hk]; rfl
  · have : rows.getD k [] = [] := by rw [List.getD_eq_getElem?_getD, List.getElem?_eq_none (by omega)]; rfl
    rw [this, List.getElem?_eq_none (by rw [List.length_range]; omega)]; simp
theorem mx_getD {a b : List Nat} {j : Nat} (ha : a.length = 8) (hb : b.length = 8) : (mx a b).getD j 0 = max (a.getD j 0) (b.getD j 0) := by
  unfold mx
  rw [List.getD_eq_getElem?_getD, List.getElem?_map]
  by_cases hk : j < 8
  · rw [List.getElem?_range hk]; rfl
  · have h1 : a.getD j 0 = 0 := by rw [List.getD_eq_getElem?_getD, List.getElem?_eq_none (by omega)]; rfl
    have h2 : b.getD j 0 = 0 := by rw [List.getD_eq_getElem?_getD, List.getElem?_eq_none (by omega)]; rfl
    rw [h1, h2, List.getElem?_eq_none (by rw [List.length_range]; omega)]; rfl
theorem has_sub {r1 r2 : List (List De)} (h : ∀ k, ∀ d ∈ r1.getD k [], d ∈ r2.getD k []) {m : Str} {b : Mk} : HasMk r1 m b → HasMk r2 m b := by
  rintro ⟨k, hk, d, hd, hi⟩; exact ⟨k, hk, d, h k d hd, hi⟩
theorem DeOk.mono {B B' : Int} {d : De} (h : DeOk B d) (hb : B ≤ B') : DeOk B' d := by
  cases d with
  | back n => trivial
  | change m rm bh n t => obtain ⟨h1, h2, h3⟩ := h; exact ⟨h1, by omega, h3⟩
theorem row_le {B : Int} : ∀ {row : List De} {l : Int}, l ≤ B → (∀ d ∈ row, DeOk B d) → row.foldl lstD l ≤ B
  | [], _, h, _ => h
  | d :: r, l, h, k => by
    rw [List.foldl_cons]
    refine row_le ?_ fun x hx => k x (List.mem_cons_of_mem _ hx)
    have := k d List.mem_cons_self
    cases d with
    | back n => exact h
    | change m rm bh n t => obtain ⟨h1, h2, h3⟩ := this; show max l (n + t.length) ≤ B; omega
theorem rows_le {B : Int} : ∀ {rows : List (List De)} {l : Int}, l ≤ B → (∀ row ∈ rows, ∀ d ∈ row, DeOk B d) → rows.foldl (fun l row => row.foldl lstD l) l ≤ B
  | [], _, h, _ => h
  | r :: rs, l, h, k => by
    rw [List.foldl_cons]
    exact rows_le (row_le h fun d hd => k r List.mem_cons_self d hd) fun x hx => k x (List.mem_cons_of_mem _ hx)
theorem lst_le {B : Int} {rows : List (List De)} (hb : 0 ≤ B) (h : ∀ k, ∀ d ∈ rows.getD k [], DeOk B d) : lst rows ≤ B := by
  refine rows_le hb fun row hr d hd => ?_
  obtain ⟨k, hk⟩ := List.getElem?_of_mem hr
  exact h k d (by rw [List.getD_eq_getElem?_getD, hk]; exact hd)
theorem has_ok {B : Int} {rows : List (List De)} (h : ∀ k, ∀ d ∈ rows.getD k [], DeOk B d) (hB : B ≤ 10000000000000000) {m : Str} {b : Mk} : HasMk rows m b → MkR b := by
  rintro ⟨k, hk, d, hd, hi⟩
  have := h k d hd
  cases d with
  | back n => exact hi.elim
  | change m' rm bh n t => obtain ⟨h1, h2, _⟩ := this; obtain ⟨i1, i2, i3, i4⟩ := hi; exact ⟨by omega, by omega, by omega, by omega⟩
structure Tri (most : Nat) (n : Nat) (rows : List (List De)) (css : List (List Nat)) : Prop where
  len : rows.length = 8
  ok : ∀ k, ∀ d ∈ rows.getD k [], DeOk ((INC + TL) * (n : Int)) d
  bef : ∀ k, (rows.getD k []).Pairwise Befo
  sm : ∀ k, (rows.getD k []).length ≤ n
  cl : css.length = most
  c8 : ∀ (r : Nat) (c : List Nat), css[r]? = some c → c.length = 8 ∧ (∀ k, c.getD k 0 ≤ (rows.getD k []).length) ∧ c.getD r 0 = (rows.getD r []).length ∧ Clo (cut rows c)
  emp : ∀ k, most ≤ k → rows.getD k [] = []
theorem tri_zero {most : Nat} : Tri most 0 (List.replicate 8 []) (List.replicate most (List.replicate 8 0)) := by
  have e : ∀ k, (List.replicate 8 ([] : List De)).getD k [] = [] := fun k => by
    rw [List.getD_eq_getElem?_getD, List.getElem?_replicate]; split <;> rfl
  refine ⟨by simp, fun k d hd => ?_, fun k => ?_, fun k => ?_, by simp, fun r c hc => ?_, fun k _ => e k⟩
  · rw [e] at hd; cases hd
  · rw [e]; exact .nil
  · rw [e]; exact Nat.le_refl _
  · rw [List.getElem?_replicate] at hc
    split at hc
    · cases hc
      have z : ∀ k, (List.replicate 8 0).getD k 0 = 0 := fun k => by rw [List.getD_eq_getElem?_getD, List.getElem?_replicate]; split <;> rfl
      refine ⟨by simp, fun k => by rw [z]; omega, by rw [z, e]; rfl, fun k d hd => ?_⟩
      rw [cut_getD (by simp), e] at hd
      simp at hd
    · cases hc
section
variable {most n : Nat} {rows : List (List De)} {css : List (List Nat)}
theorem cut_sub {c : List Nat} (h : rows.length = 8) : ∀ k, ∀ d ∈ (cut rows c).getD k [], d ∈ rows.getD k [] := fun k d hd => by
  rw [cut_getD h] at hd; exact List.mem_of_mem_take hd
def CloD (r2 : List (List De)) : De → Prop
  | .back _ => True
  | .change m _ bh n _ => ∀ b, bh = some b → b.1 < n ∧ HasMk r2 m b
theorem clo_of {r1 r2 : List (List De)} {k : Nat} {d : De} (c : Clo r1) (h : ∀ k, ∀ d ∈ r1.getD k [], d ∈ r2.getD k []) (hd : d ∈ r1.getD k []) : CloD r2 d := by
  have := c k d hd
  cases d with
  | back n => trivial
  | change m rm bh n t => exact fun b hb => ⟨(this b hb).1, has_sub h (this b hb).2⟩
theorem clo_D {rows : List (List De)} (h : ∀ k, ∀ d ∈ rows.getD k [], CloD rows d) : Clo rows := fun k d hd => by
  have := h k d hd
  cases d with
  | back n => trivial
  | change m rm bh n t => exact this
theorem tri_max {r o : Nat} {a b : List Nat} (t : Tri most n rows css) (ha : css[r]? = some a) (hb : css[o]? = some b) : Tri most n rows (css.set r (mx a b)) := by
  obtain ⟨a8, a1, a2, a3⟩ := t.c8 r a ha
  obtain ⟨b8, b1, b2, b3⟩ := t.c8 o b hb
  refine ⟨t.len, t.ok, t.bef, t.sm, by rw [List.length_set]; exact t.cl, fun q c hc => ?_, t.emp⟩
  rw [List.getElem?_set] at hc
  split at hc
  · rename_i e; subst e
    split at hc
    · cases hc
      refine ⟨by simp [mx], fun k => ?_, ?_, clo_D fun k d hd => ?_⟩
      · rw [mx_getD a8 b8]; have := a1 k; have := b1 k; omega
      · rw [mx_getD a8 b8]; have := b1 r; omega
      · rw [cut_getD t.len, mx_getD a8 b8] at hd
        have sa : ∀ k, ∀ d ∈ (cut rows a).getD k [], d ∈ (cut rows (mx a b)).getD k [] := fun k d hd => by
          rw [cut_getD t.len] at hd ⊢
          rw [mx_getD a8 b8]
          exact (List.take_sublist_take_left (by omega)).subset hd
        have sb : ∀ k, ∀ d ∈ (cut rows b).getD k [], d ∈ (cut rows (mx a b)).getD k [] := fun k d hd => by
          rw [cut_getD t.len] at hd ⊢
          rw [mx_getD a8 b8]
          exact (List.take_sublist_take_left (by omega)).subset hd
        by_cases z : a.getD k 0 ≤ b.getD k 0
        · rw [Nat.max_eq_right z] at hd
          exact clo_of b3 sb (by rw [cut_getD t.len]; exact hd)
        · rw [Nat.max_eq_left (by omega)] at hd
          exact clo_of a3 sa (by rw [cut_getD t.len]; exact hd)
    · cases hc
  · exact t.c8 q c hc
theorem tri_wf {r : Nat} {c : List Nat} (t : Tri most n rows css) (hc : css[r]? = some c) (hn : n ≤ 100) : Wf ((INC + TL) * (n : Int)) (cut rows c) := by
  obtain ⟨c8, c1, c2, c3⟩ := t.c8 r c hc
  refine ⟨cut_len _ _, fun k d hd => t.ok k d (cut_sub t.len k d hd), fun k => ?_, c3, fun k => ?_⟩
  · rw [cut_getD t.len]; exact (t.bef k).sublist (List.take_sublist _ _)
  · rw [cut_getD t.len, List.length_take]; have := t.sm k; omega
theorem tri_whole (t : Tri most n rows css) (hn : n ≤ 100) : Wf ((INC + TL) * (n : Int)) rows := by
  refine ⟨t.len, t.ok, t.bef, clo_D fun k d hd => ?_, fun k => by have := t.sm k; omega⟩
  by_cases hk : most ≤ k
  · rw [t.emp k hk] at hd; cases hd
  · obtain ⟨c, hc⟩ : ∃ c, css[k]? = some c := ⟨css[k]'(by rw [t.cl]; omega), List.getElem?_eq_getElem _⟩
    obtain ⟨c8, c1, c2, c3⟩ := t.c8 k c hc
    exact clo_of c3 (cut_sub t.len) (by rw [cut_getD t.len, c2, List.take_length]; exact hd)
theorem tri_add {r : Nat} {c : List Nat} {d : De} (t : Tri most n rows css) (hc : css[r]? = some c) (hr : r < 8) (hn : n ≤ 100) (hd : DFit (cut rows c) r d) : Tri most (n + 1) (addR rows r d) (css.set r (c.set r ((rows.getD r []).length + 1))) := by
  obtain ⟨c8, c1, c2, c3⟩ := t.c8 r c hc
  have w := tri_wf t hc hn
  have hIT : INC + (TL : Int) = 10 := rfl
  have hB : (INC + TL) * (n : Int) ≤ (INC + TL) * ((n + 1 : Nat) : Int) := by rw [hIT]; omega
  have hl : lst (cut rows c) ≤ (INC + TL) * (n : Int) := lst_le (by rw [hIT]; omega) w.ok
  have hr2 : r < rows.length := by rw [t.len]; exact hr
  have cr : (cut rows c).getD r [] = rows.getD r [] := by rw [cut_getD t.len, c2, List.take_length]
  have sub : ∀ k, ∀ x ∈ rows.getD k [], x ∈ (addR rows r d).getD k [] := fun k x hx => by
    by_cases e : k = r
    · subst e; rw [addR_same hr2]; exact List.mem_append_left _ hx
    · rw [addR_ne e]; exact hx
  have dok : DeOk ((INC + TL) * ((n + 1 : Nat) : Int)) d := by
    cases d with
    | back k => trivial
    | change m rm bh k s =>
      obtain ⟨h1, h2, h3, h4, h5, h6, h7, h8⟩ := hd
      have hs : s.length ≤ TL := h3.1
      obtain ⟨m1, m2⟩ := modS_ok m h4
      have hb : (INC + TL) * (n : Int) ≤ 10000000000000000 := by rw [hIT]; omega
      refine ⟨h1, ?_, fun x hx => has_ok w.ok hb (h6 x hx).1, by omega, by unfold TL at hs; omega, fun b e => has_ok w.ok hb (h7 b e).1, m1, m2, h3.2⟩
      rw [hIT] at hl ⊢
      unfold INC at h2; unfold TL at hs
      omega
  refine ⟨by rw [addR_len]; exact t.len, fun k x hx => ?_, fun k => ?_, fun k => ?_, by rw [List.length_set]; exact t.cl, fun q c' hq => ?_, fun k hk => ?_⟩
  · by_cases e : k = r
    · subst e; rw [addR_same hr2] at hx
      rcases List.mem_append.mp hx with hx | hx
      · exact (t.ok k x hx).mono hB
      · rw [List.mem_singleton] at hx; subst hx; exact dok
    · rw [addR_ne e] at hx; exact (t.ok k x hx).mono hB
  · by_cases e : k = r
    · subst e; rw [addR_same hr2, List.pairwise_append]
      refine ⟨t.bef k, List.pairwise_singleton _ _, fun x hx y hy => ?_⟩
      rw [List.mem_singleton] at hy; subst hy
      cases y with
      | back j => cases x <;> trivial
      | change m rm bh j s => exact hd.2.2.2.2.2.2.2 x (by rw [cr]; exact hx)
    · rw [addR_ne e]; exact t.bef k
  · by_cases e : k = r
    · subst e; rw [addR_same hr2, List.length_append, List.length_singleton]; have := t.sm k; omega
    · rw [addR_ne e]; have := t.sm k; omega
  · rw [List.getElem?_set] at hq
    split at hq
    · rename_i e; subst e
      split at hq
      · cases hq
        have gs : (c.set r ((rows.getD r []).length + 1)).getD r 0 = (rows.getD r []).length + 1 := by
          rw [List.getD_eq_getElem?_getD, List.getElem?_set_self (by omega)]; rfl
        have gn : ∀ k, k ≠ r → (c.set r ((rows.getD r []).length + 1)).getD k 0 = c.getD k 0 := fun k hk => by
          rw [List.getD_eq_getElem?_getD, List.getElem?_set_ne (Ne.symm hk), List.getD_eq_getElem?_getD]
        have cs : ∀ k, (cut (addR rows r d) (c.set r ((rows.getD r []).length + 1))).getD k [] = if k = r then rows.getD r [] ++ [d] else (cut rows c).getD k [] := fun k => by
          rw [cut_getD (by rw [addR_len]; exact t.len)]
          by_cases e : k = r
          · subst e; rw [if_pos rfl, gs, addR_same hr2, List.take_of_length_le (by simp)]
          · rw [if_neg e, gn k e, addR_ne e, cut_getD t.len]
        have sc : ∀ k, ∀ x ∈ (cut rows c).getD k [], x ∈ (cut (addR rows r d) (c.set r ((rows.getD r []).length + 1))).getD k [] := fun k x hx => by
          rw [cs k]
          by_cases e : k = r
          · subst e; rw [if_pos rfl, ← cr]; exact List.mem_append_left _ hx
          · rw [if_neg e]; exact hx
        refine ⟨by rw [List.length_set]; exact c8, fun k => ?_, by rw [gs, addR_same hr2]; simp, clo_D fun k x hx => ?_⟩
        · by_cases e : k = r
          · subst e; rw [gs, addR_same hr2]; simp
          · rw [gn k e, addR_ne e]; exact c1 k
        · rw [cs k] at hx
          by_cases e : k = r
          · subst e; rw [if_pos rfl] at hx
            rcases List.mem_append.mp hx with hx | hx
            · exact clo_of c3 sc (by rw [cr]; exact hx)
            · rw [List.mem_singleton] at hx; subst hx
              cases x with
              | back j => trivial
              | change m rm bh j s => exact fun b hb => ⟨(hd.2.2.2.2.2.2.1 b hb).2, has_sub sc (hd.2.2.2.2.2.2.1 b hb).1⟩
          · rw [if_neg e] at hx; exact clo_of c3 sc hx
      · cases hq
    · rename_i e
      obtain ⟨q8, q1, q2, q3⟩ := t.c8 q c' hq
      have hle : ∀ k, c'.getD k 0 ≤ ((addR rows r d).getD k []).length := fun k => by
        by_cases e : k = r
        · subst e; rw [addR_same hr2, List.length_append]; have := q1 k; omega
        · rw [addR_ne e]; exact q1 k
      refine ⟨q8, hle, by rw [q2, addR_ne (Ne.symm e)], ?_⟩
      have : cut (addR rows r d) c' = cut rows c' := by
        unfold cut
        refine List.map_congr_left fun k _ => ?_
        by_cases e : k = r
        · subst e; rw [addR_same hr2, List.take_append_of_le_length (q1 k)]
        · rw [addR_ne e]
      rw [this]; exact q3
  · have hl2 : r < most := by rw [← t.cl]; exact (List.getElem?_eq_some_iff.mp hc).1
    rw [addR_ne (by omega)]; exact t.emp k hk
end
end Lw

namespace Lw
open PySem PySem.Spec PyProof.Rows L2
local macro_rules | `(tactic| k_extra "x1") => `(tactic| first
  | with_reducible refine es_seq ?_
  | with_reducible refine es_asg ?_
  | with_reducible refine es_if ?_
  | with_reducible refine es_ret ?_
  | with_reducible refine es_drop ?_
  | with_reducible refine es_next ?_
  | with_reducible refine es_augS ?_
  | with_reducible refine es_fld ?_
  | ((with_reducible show Ee (tVar _) _ _ _); refine ee_var rfl ?_)
  | with_reducible refine ee_c ?_
  | with_reducible refine ee_op ?_
  | with_reducible refine ee_un ?_
  | with_reducible refine eu_neg ?_
  | with_reducible refine ee_cb ?_
  | with_reducible refine ee_call ?_
  | with_reducible refine ea_nil ?_
  | with_reducible refine ea_cons ?_
  | with_reducible refine ee_sl ?_
  | with_reducible refine eo_no ?_
  | with_reducible refine eo_part ?_
  | with_reducible refine ee_tup ?_
  | with_reducible refine ee_lst ?_
  | with_reducible refine et_test ?_
  | with_reducible refine et_tB ?_
  | with_reducible refine et_tru ?_
  | with_reducible refine et_and ?_
  | with_reducible refine et_or ?_
  | with_reducible refine et_not ?_
  | with_reducible refine ee_and ?_
  | with_reducible refine ee_or ?_
  | with_reducible refine ee_not ?_
  | with_reducible refine ee_if ?_
  | with_reducible refine ee_chain ?_
  | with_reducible refine er_addI ?_
  | with_reducible refine er_subI ?_
  | with_reducible refine er_eqI ?_
  | with_reducible refine er_neI ?_
  | with_reducible refine er_eqNI ?_
  | with_reducible refine er_eqS ?_
  | with_reducible refine er_neS ?_
  | with_reducible refine er_eqB ?_
  | with_reducible refine er_neB ?_
  | with_reducible refine er_lt ?_
  | with_reducible refine er_le ?_
  | with_reducible refine er_gt ?_
  | with_reducible refine er_ge ?_
  | with_reducible refine er_isN_non ?_
  | with_reducible refine er_isN_bl ?_
  | with_reducible refine er_isN_int ?_
  | with_reducible refine er_isN_str ?_
  | with_reducible refine er_isN_ref ?_
  | with_reducible refine er_notN_non ?_
  | with_reducible refine er_notN_bl ?_
  | with_reducible refine er_notN_int ?_
  | with_reducible refine er_notN_str ?_
  | with_reducible refine er_notN_ref ?_
  | with_reducible refine er_isN ?_
  | with_reducible refine er_notN ?_
  | with_reducible refine ec_int ?_
  | with_reducible refine ec_intB ?_
  | with_reducible refine ec_max2 ?_
  | with_reducible refine ec_min2 ?_
  | with_reducible refine ip_I ?_
  | ((with_reducible refine eg_name ?_); (try dsimp only [L2.wipe, List.set_cons_zero, List.set_cons_succ]))
  | with_reducible refine eg_sub ?_
  | with_reducible refine egs_cons ?_
  | with_reducible refine egs_nil ?_
  | with_reducible refine tru_bl ?_
  | with_reducible refine tru_int ?_
  | with_reducible refine tru_non ?_
  | with_reducible refine iteT ?_
  | with_reducible refine iteF ?_
  | with_reducible refine ite_nt ?_
  | with_reducible refine ite_nf ?_
  | with_reducible refine ⟨_, rfl, ?_⟩)
local macro_rules | `(tactic| k_extra "s") => `(tactic| ((first | k_extra "x1" | ((with_reducible refine es_unf ?_); refine es_seq ?_)); (repeat k_extra "x1")))
local macro_rules | `(tactic| k_extra "x") => `(tactic| (repeat first | k_extra "x1" | ((with_reducible refine es_unf ?_); refine es_seq ?_)))
local macro_rules | `(tactic| k_extra "start") => `(tactic| dsimp only [L2.start, List.map_cons, List.map_nil, List.length_cons, List.length_nil, Nat.reduceAdd, Nat.reduceSub, List.replicate, List.cons_append, List.nil_append, Nat.zero_add])
local macro_rules | `(tactic| k_extra "e1") => `(tactic| first
  | with_reducible refine es_next ?_
  | ((with_reducible show Ee (tVar _) _ _ _); refine ee_var rfl ?_)
  | with_reducible refine ee_c ?_
  | with_reducible refine ee_op ?_
  | with_reducible refine ee_un ?_
  | with_reducible refine eu_neg ?_
  | with_reducible refine ee_cb ?_
  | with_reducible refine ee_call ?_
  | with_reducible refine ea_nil ?_
  | with_reducible refine ea_cons ?_
  | with_reducible refine ee_sl ?_
  | with_reducible refine eo_no ?_
  | with_reducible refine eo_part ?_
  | with_reducible refine ee_tup ?_
  | with_reducible refine ee_lst ?_
  | with_reducible refine et_test ?_
  | with_reducible refine et_tB ?_
  | with_reducible refine et_tru ?_
  | with_reducible refine et_and ?_
  | with_reducible refine et_or ?_
  | with_reducible refine et_not ?_
  | with_reducible refine ee_and ?_
  | with_reducible refine ee_or ?_
  | with_reducible refine ee_not ?_
  | with_reducible refine ee_if ?_
  | with_reducible refine ee_chain ?_
  | with_reducible refine er_addI ?_
  | with_reducible refine er_subI ?_
  | with_reducible refine er_eqI ?_
  | with_reducible refine er_neI ?_
  | with_reducible refine er_eqNI ?_
  | with_reducible refine er_eqS ?_
  | with_reducible refine er_neS ?_
  | with_reducible refine er_eqB ?_
  | with_reducible refine er_neB ?_
  | with_reducible refine er_lt ?_
  | with_reducible refine er_le ?_
  | with_reducible refine er_gt ?_
  | with_reducible refine er_ge ?_
  | with_reducible refine er_isN_non ?_
  | with_reducible refine er_isN_bl ?_
  | with_reducible refine er_isN_int ?_
  | with_reducible refine er_isN_str ?_
  | with_reducible refine er_isN_ref ?_
  | with_reducible refine er_notN_non ?_
  | with_reducible refine er_notN_bl ?_
  | with_reducible refine er_notN_int ?_
  | with_reducible refine er_notN_str ?_
  | with_reducible refine er_notN_ref ?_
  | with_reducible refine er_isN ?_
  | with_reducible refine er_notN ?_
  | with_reducible refine ec_int ?_
  | with_reducible refine ec_intB ?_
  | with_reducible refine ec_max2 ?_
  | with_reducible refine ec_min2 ?_
  | with_reducible refine ip_I ?_
  | ((with_reducible refine eg_name ?_); (try dsimp only [L2.wipe, List.set_cons_zero, List.set_cons_succ]))
  | with_reducible refine eg_sub ?_
  | with_reducible refine egs_cons ?_
  | with_reducible refine egs_nil ?_
  | with_reducible refine tru_bl ?_
  | with_reducible refine tru_int ?_
  | with_reducible refine tru_non ?_
  | with_reducible refine iteT ?_
  | with_reducible refine iteF ?_
  | with_reducible refine ite_nt ?_
  | with_reducible refine ite_nf ?_
  | with_reducible refine ex_bl ?_
  | with_reducible refine ex_int ?_
  | with_reducible refine ex_str ?_
  | with_reducible refine ex_strx ?_
  | with_reducible refine ex_ints1 ?_
  | with_reducible refine ex_ints2 ?_)
local macro_rules | `(tactic| k_extra "t1") => `(tactic| first
  | with_reducible refine es_asg ?_
  | with_reducible refine es_if ?_
  | with_reducible refine es_ret ?_
  | with_reducible refine es_drop ?_
  | with_reducible refine es_augS ?_
  | with_reducible refine es_fld ?_)
local macro_rules | `(tactic| k_extra "e") => `(tactic| first
  | ((with_reducible refine es_seq ?_); (try k_extra "t1"); (repeat k_extra "e1"))
  | (k_extra "t1"; (repeat k_extra "e1"))
  | (k_extra "e1"; (repeat k_extra "e1"))
  | ((with_reducible refine es_unf ?_); (refine es_seq ?_); (try k_extra "t1"); (repeat k_extra "e1")))
/-! ### lists of lists that grow -/
section
variable {F G G' : Hp} {p : Addr} {vss : List (List V)} {rows : List (List De)}
theorem RowsAt.at_ (h : RowsAt F p vss) {k : Nat} {ws : List V} (hw : vss[k]? = some ws) : ∃ (xs : List V) (r : Addr), F p = some (.lst xs) ∧ xs[k]? = some (.ref r) ∧ F r = some (.lst ws) ∧ r ≠ p ∧ xs.length = vss.length ∧
    (∀ us, RowsAt (upd F r (.lst us)) p (vss.set k us)) ∧
    (∀ l us, F l = none → RowsAt (upd (upd F l (.lst us)) p (.lst (xs.set k (.ref l)))) p (vss.set k us)) := by
  obtain ⟨refs, h1, h2, h3, h4, h5⟩ := h
  have hk := (List.getElem?_eq_some_iff.mp hw).1
  have hk2 : k < refs.length := by rw [h2]; exact hk
  have hr := List.getElem?_eq_getElem hk2
  have hrp : refs[k] ≠ p := fun e => h5 (by rw [← e]; exact List.getElem_mem hk2)
  have ne : ∀ (i : Nat) (q : Addr), i ≠ k → refs[i]? = some q → q ≠ refs[k] := fun i q e hq z => by
    subst z
    have h7 := (List.getElem?_eq_some_iff.mp hq)
    exact e ((List.getElem_inj h4).mp h7.2)
  refine ⟨_, refs[k], h1, by rw [List.getElem?_map, hr]; rfl, h3 k _ _ hr hw, hrp, by rw [List.length_map]; exact h2, fun us => ?_, fun l us hl => ?_⟩
  · refine ⟨refs, by rw [upd_ne (Ne.symm hrp)]; exact h1, by rw [List.length_set]; exact h2, fun i q vs hq hv => ?_, h4, h5⟩
    rw [List.getElem?_set] at hv
    split at hv
    · rename_i e; subst e
      rw [hr] at hq; cases hq
      first | (cases hv; exact upd_same) | (rw [if_pos hk] at hv; cases hv; exact upd_same)
    · rename_i e
      rw [upd_ne (ne i q (Ne.symm e) hq)]; exact h3 i q vs hq hv
  · have hlp : p ≠ l := fun e => by rw [e, hl] at h1; cases h1
    have lr : ∀ (i : Nat) (q : Addr), refs[i]? = some q → q ≠ l := fun i q hq z => by
      subst z
      have hi : i < vss.length := by rw [← h2]; exact (List.getElem?_eq_some_iff.mp hq).1
      have := h3 i q _ hq (List.getElem?_eq_getElem hi)
      rw [hl] at this; cases this
    refine ⟨refs.set k l, by rw [upd_same, List.map_set], by rw [List.length_set, List.length_set]; exact h2, fun i q vs hq hv => ?_, ?_, ?_⟩
    · rw [List.getElem?_set] at hq hv
      split at hq
      · rename_i e; subst e
        first | cases hq | (rw [if_pos hk2] at hq; cases hq)
        rw [if_pos rfl, if_pos hk] at hv; cases hv
        rw [upd_ne (Ne.symm hlp), upd_same]
      · rename_i e
        rw [if_neg e] at hv
        have q1 : q ≠ p := fun z => h5 (by rw [← z]; exact List.mem_of_getElem? hq)
        rw [upd_ne q1, upd_ne (lr i q hq)]
        exact h3 i q vs hq hv
    · refine List.pairwise_iff_getElem.mpr fun i j hi hj hij => ?_
      rw [List.length_set] at hi hj
      have gi := List.getElem?_eq_getElem hi
      have gj := List.getElem?_eq_getElem hj
      rw [List.getElem_set, List.getElem_set]
      by_cases e1 : k = i
      · rw [if_pos e1, if_neg (by omega)]
        exact fun z => lr j _ gj z.symm
      · rw [if_neg e1]
        by_cases e2 : k = j
        · rw [if_pos e2]
          exact fun z => lr i _ gi z
        · rw [if_neg e2]
          exact fun z => (by omega : i ≠ j) ((List.getElem_inj h4).mp z)
    · intro hm
      rcases List.mem_or_eq_of_mem_set hm with hm | hm
      · exact h5 hm
      · exact hlp hm
theorem addV_set {k : Nat} {ws : List V} {v : V} (h : vss[k]? = some ws) : addV vss k v = vss.set k (ws ++ [v]) := by
  have hk := (List.getElem?_eq_some_iff.mp h).1
  unfold addV
  refine List.ext_getElem? fun i => ?_
  rw [List.getElem?_modify, List.getElem?_set]
  by_cases e : k = i
  · subst e
    rw [if_pos rfl, if_pos hk, h]
    simp
  · rw [if_neg e]
    simp [e]
theorem Rz.add {k : Nat} {v : V} {d : De} (h : Rz G vss rows) (iv : Iz G v (deD d)) : Rz G (addV vss k v) (addR rows k d) := by
  refine ⟨by unfold addV addR; rw [List.length_modify, List.length_modify]; exact h.1, fun i vs row hv hr => ?_⟩
  unfold addV at hv; unfold addR at hr
  rw [List.getElem?_modify] at hv hr
  have hi : i < vss.length := by
    cases e : vss[i]? with
    | none => rw [e] at hv; cases hv
    | some z => exact (List.getElem?_eq_some_iff.mp e).1
  have gi := List.getElem?_eq_getElem hi
  have hir : i < rows.length := by rw [← h.1]; exact hi
  have gr := List.getElem?_eq_getElem hir
  have hI := h.2 i _ _ gi gr
  rw [gi] at hv; rw [gr] at hr
  by_cases e : k = i
  · simp only [e, if_true] at hv hr
    have hv := Option.some.inj (show some (vss[i] ++ [v]) = some vs from hv)
    have hr := Option.some.inj (show some (rows[i] ++ [d]) = some row from hr)
    subst hv; subst hr
    rw [List.map_append]
    exact izs_app hI (.cons iv .nil)
  · simp only [e, if_false] at hv hr
    have hv := Option.some.inj (show some vss[i] = some vs from hv)
    have hr := Option.some.inj (show some rows[i] = some row from hr)
    subst hv; subst hr; exact hI
theorem rz_nil : Rz G (List.replicate 8 []) (List.replicate 8 []) := by
  refine ⟨by simp, fun k vs row hv hr => ?_⟩
  have e1 := (List.mem_replicate.mp (List.mem_of_getElem? hv)).2
  have e2 := (List.mem_replicate.mp (List.mem_of_getElem? hr)).2
  subst e1; subst e2; exact .nil
theorem NewP.mut {q : Addr} {o u : HO} (n : NewP G F G') (h : F q = some u) (nt : ∀ ps, o ≠ .tbl ps) : NewP G (upd F q o) (upd G' q o) := by
  have hq : G q = none := n.new _ _ h
  refine ⟨fun b w e => ?_, n.exF.put, fun b w e => ?_, fun x => upd_nt (n.nt x) nt⟩
  · rw [upd_ne (ne_of_none e hq)]; exact n.ex _ _ e
  · by_cases z : b = q
    · rw [z]; exact hq
    · rw [upd_ne z] at e; exact n.new b w e
theorem NewP.junk {G'' : Hp} (n : NewP G F G') (e : Ex G' G'') : NewP G F G'' := ⟨n.ex.trans e, n.exF.trans e, n.new, n.nt⟩
theorem NewP.fr {G'' F' : Hp} (n : NewP G F G') (f : Fr F G' F' G'') (e : Ex F' G'') (nt : ∀ x ps, F' x ≠ some (.tbl ps)) : NewP G F' G'' := by
  have hd : Dis F G := fun b => by
    cases h : F b with
    | none => exact .inl rfl
    | some o => exact .inr (n.new b o h)
  obtain ⟨f1, f2⟩ := f G hd n.ex
  refine ⟨f1, e, fun b o h => ?_, nt⟩
  rcases f2 b with z | z
  · rw [h] at z; cases z
  · exact z
end
/-! ### _law_visible -/
def nV (c : List Nat) : List V := c.map fun n : Nat => V.int (n : Int)
def cutVs (vss : List (List V)) (c : List Nat) : List (List V) := (List.range 8).map fun k => (vss.getD k []).take (c.getD k 0)
theorem rz_cut {G : Hp} {vss : List (List V)} {rows : List (List De)} {c : List Nat} (h : Rz G vss rows) : Rz G (cutVs vss c) (cut rows c) := by
  refine ⟨by simp [cutVs, cut], fun k vs row hv hr => ?_⟩
  unfold cutVs at hv; unfold cut at hr
  rw [List.getElem?_map] at hv hr
  obtain ⟨j, hj, rfl⟩ := Option.map_eq_some_iff.mp hv
  rw [hj] at hr
  cases hr
  have hjk : j = k := by
    have := (List.getElem?_eq_some_iff.mp hj).2
    rw [List.getElem_range] at this; exact this.symm
  subst hjk
  show Izs G ((vss.getD j []).take (c.getD j 0)) (((rows.getD j []).take (c.getD j 0)).map deD)
  by_cases hk : j < vss.length
  · have hk2 : j < rows.length := by rw [← h.1]; exact hk
    have := h.2 j _ _ (List.getElem?_eq_getElem hk) (List.getElem?_eq_getElem hk2)
    have e1 : vss.getD j [] = vss[j] := by rw [List.getD_eq_getElem?_getD, List.getElem?_eq_getElem hk]; rfl
    have e2 : rows.getD j [] = rows[j] := by rw [List.getD_eq_getElem?_getD, List.getElem?_eq_getElem hk2]; rfl
    rw [e1, e2, List.map_take]
    exact izs_take _ this
  · have e1 : vss.getD j [] = [] := by rw [List.getD_eq_getElem?_getD, List.getElem?_eq_none (by omega)]; rfl
    have e2 : rows.getD j [] = [] := by rw [List.getD_eq_getElem?_getD, List.getElem?_eq_none (by have := h.1; omega)]; rfl
    rw [e1, e2, List.take_nil, List.take_nil]; exact .nil
def S__law_visible (K : PySem.W.Frag) (A : Ad) : Pm := fun vs G Q _ => ∃ (pr pc : Addr) (vss : List (List V)) (c : List Nat), vs = [.ref pr, .ref pc] ∧ RowsAt G pr vss ∧ vss.length = 8 ∧ G pc = some (.lst (nV c)) ∧ c.length = 8 ∧ (∀ k, c.getD k 0 ≤ (vss.getD k []).length) ∧
  ∀ p G', Ex G G' → RowsAt G' p (cutVs vss c) → Q (.ref p) G'
/-! _law_visible -/
def t__law_visible (K : PySem.W.Frag) (A : Ad) : TS := (tRet (tLc (iRng1 (tCons (tC (.int 8)) tNil)) (gName 2) tYes (tSl (rSlU K) (tOp (rIx K) (tVar 0) (tVar 2)) tNoPart (tPart (tOp (rIx K) (tVar 1) (tVar 2)))) [2]))
theorem len__law_visible {K : PySem.W.Frag} {A : Ad} : ∀ vs G Q E, S__law_visible K A vs G Q E → vs.length = ["rows", "counts"].length := by
  rintro vs G Q E ⟨pr, pc, vss, c, rfl, _⟩; rfl
theorem cutV_pre (xs : List V) (n : Nat) (h : n ≤ xs.length) : cutV xs none (some (n : Int)) = xs.take n := by
  simp [cutV, HT.sIx]
  rw [if_neg (by omega)]
  omega
theorem ok__law_visible {K : PySem.W.Frag} {A : Ad} : ∀ vs G Q E, S__law_visible K A vs G Q E → Es (t__law_visible K A) { nx := fun _ G' => Q .non G', rt := Q } (L2.start ["rows", "counts", "k"] vs) G := by
  rintro vs G Q E ⟨pr, pc, vss, c, rfl, hra, h8, hc, c8, hle, q⟩
  change Es _ _ (_ :: _ :: _ :: []) _
  unfold t__law_visible
  k_extra "e"
  refine ee_lcR1 ?_
  k_extra "e"
  refine ⟨by omega, fun p hp => ⟨fun i acc G' => ∃ F, NewL G G' acc ((cutVs vss c).take i) F ∧ G' p = none ∧ acc.length = i ∧ i ≤ 8, ⟨_, NewL.start, hp, rfl, by omega⟩, ?_, ?_, ?_⟩⟩
  · rintro i acc G' ⟨F, h1, h2, h3, h4⟩
    exact ⟨h2, szlt (by omega)⟩
  · rintro i acc G' hi ⟨F, h1, h2, h3, h4⟩
    have hi2 : i < vss.length := by omega
    obtain ⟨xs, r, g1, g2, g3, g4, g5, _⟩ := hra.at_ (List.getElem?_eq_getElem hi2)
    have ex := h1.ex.trans (Ex.new (o := .lst acc) h2)
    have hci : (nV c)[i]? = some (.int ((c.getD i 0 : Nat) : Int)) := by
      unfold nV
      rw [List.getElem?_map, List.getD_eq_getElem?_getD, List.getElem?_eq_getElem (by omega)]; rfl
    have hgv : vss.getD i [] = vss[i] := by rw [List.getD_eq_getElem?_getD, List.getElem?_eq_getElem hi2]; rfl
    have hl := hle i
    rw [hgv] at hl
    refine ⟨rfl, et_yes ?_⟩
    refine iteT ?_
    dsimp only [L2.wipe, List.set_cons_zero, List.set_cons_succ]
    k_extra "e"
    refine er_ixL (SqL.of (ex _ _ g1)) (atI_nat g2) ?_
    k_extra "e"
    refine er_ixL (SqL.of (ex _ _ hc)) (atI_nat hci) ?_
    k_extra "e"
    refine ew_L (SqL.of (ex _ _ g3)) fun r' hr' => ?_
    rw [cutV_pre _ _ hl]
    have hrp : r' ≠ p := nul_updN hr'
    have hr0 : G' r' = none := nul_upd hr'
    refine ⟨by rw [upd_ne (Ne.symm hrp), upd_same], upd G' r' (.lst (vss[i].take (c.getD i 0))), by rw [upd_comm hrp]; exact Ex.refl _, upd F r' (.lst (vss[i].take (c.getD i 0))), ?_, nul_ne h2 (Ne.symm hrp), by rw [List.length_append, h3]; rfl, by omega⟩
    have : (cutVs vss c).take (i + 1) = (cutVs vss c).take i ++ [vss[i].take (c.getD i 0)] := by
      rw [List.take_add_one]
      unfold cutVs
      rw [List.getElem?_map, List.getElem?_range (by omega), Option.map_some, hgv]; rfl
    rw [this]
    exact h1.snoc hr0
  · rintro acc G' ⟨F, h1, h2, h3, h4⟩
    rw [List.take_of_length_le (by simp [cutVs])] at h1
    obtain ⟨n, ra⟩ := h1.done h2
    exact q p _ n.ex (ra.ex n.exF)
/-! ### triples -/
abbrev Tp := Nat × Int × De
def tD (x : Tp) : PyData := .tuple [.int x.1, .int x.2.1, deD x.2.2]
def prs (ts : List Tp) : List (Nat × De) := ts.map fun x => (x.1, x.2.2)
theorem iz_tp {G : Hp} {v : V} {x : Tp} (h : Iz G v (tD x)) : ∃ t vd, v = .ref t ∧ G t = some (.tup [.int x.1, .int x.2.1, vd]) ∧ Iz G vd (deD x.2.2) := by
  obtain ⟨t, xs, rfl, h1, h2⟩ := iz_tup h
  cases h2 with
  | cons a b => cases a; cases b with
    | cons c d => cases c; cases d with
      | cons e f => cases f; exact ⟨t, _, rfl, h1, e⟩
def S__law_rows_of (K : PySem.W.Frag) (A : Ad) : Pm := fun vs G Q _ => ∃ (pt : Addr) (us : List V) (ts : List Tp), vs = [.ref pt] ∧ G pt = some (.lst us) ∧ Izs G us (ts.map tD) ∧ (∀ x ∈ ts, x.1 < 8) ∧ ts.length ≤ 1000 ∧
  ∀ p F G' vss, NewP G F G' → RowsAt F p vss → Rz G' vss (rowsOf (prs ts)) → Q (.ref p) G'
/-! _law_rows_of -/
def t__law_rows_of_1 (K : PySem.W.Frag) (A : Ad) : TS := tSeq (tFor (iList K (tVar 0)) (gTup K 3 (gCons (gName 2) (gCons (gName 3) (gCons (gName 4) gNil)))) (tDrop (tBM K "list" (rAppend) (tOp (rIx K) (tVar 1) (tVar 2)) (tCons (tVar 4) tNil)))) (tRet (tVar 1))
def t__law_rows_of (K : PySem.W.Frag) (A : Ad) : TS := tSeq (tAsg (tLc (iRng1 (tCons (tC (.int 8)) tNil)) (gName 5) tYes (tLst tNil) [5]) (gName 1)) (t__law_rows_of_1 K A)
/-! _law_deeds -/
def t__law_deeds_1 (K : PySem.W.Frag) (A : Ad) : TS := tSeq (tFor (iList K (tVar 0)) (gTup K 3 (gCons (gName 2) (gCons (gName 3) (gCons (gName 4) gNil)))) (tDrop (tMeth A.cDeeds "add" (up (S_Deeds_add K A)) [] E0 (tVar 1) (tCons (tVar 2) (tCons (tVar 4) tNil))))) (tRet (tVar 1))
def t__law_deeds (K : PySem.W.Frag) (A : Ad) : TS := tSeq (tAsg (tMake A.cDeeds (up (S_Deeds_init K A)) [] E0 tNil) (gName 1)) (t__law_deeds_1 K A)
theorem len__law_rows_of {K : PySem.W.Frag} {A : Ad} : ∀ vs G Q E, S__law_rows_of K A vs G Q E → vs.length = ["triples"].length := by
  rintro vs G Q E ⟨pt, us, ts, rfl, _⟩; rfl
theorem prs_take {ts : List Tp} {i : Nat} {x : Tp} (h : ts[i]? = some x) : rowsOf (prs (ts.take (i + 1))) = addR (rowsOf (prs (ts.take i))) x.1 x.2.2 := by
  rw [List.take_add_one, h]; unfold prs; rw [List.map_append]; exact rowsOf_snoc _ (x.1, x.2.2)
theorem ok__law_rows_of {K : PySem.W.Frag} {A : Ad} : ∀ vs G Q E, S__law_rows_of K A vs G Q E → Es (t__law_rows_of K A) { nx := fun _ G' => Q .non G', rt := Q } (L2.start ["triples", "rows", "replica", "place", "deed", "k"] vs) G := by
  rintro vs G Q E ⟨pt, us, ts, rfl, hus, hI, h8, hlen, q⟩
  have lus := izs_len hI
  rw [List.length_map] at lus
  change Es _ _ (_ :: _ :: _ :: _ :: _ :: _ :: []) _
  k_extra "e"
  refine ee_lcR1 ?_
  k_extra "e"
  refine ⟨by omega, fun p hp => ⟨fun i acc G' => ∃ F, NewL G G' acc (List.replicate i []) F ∧ G' p = none ∧ acc.length = i ∧ i ≤ 8, ⟨_, NewL.start, hp, rfl, by omega⟩, ?_, ?_, ?_⟩⟩
  · rintro i acc G' ⟨F, h1, h2, h3, h4⟩
    exact ⟨h2, szlt (by omega)⟩
  · rintro i acc G' hi ⟨F, h1, h2, h3, h4⟩
    refine ⟨rfl, et_yes ?_⟩
    refine iteT ?_
    dsimp only [L2.wipe, List.set_cons_zero, List.set_cons_succ]
    k_extra "e"
    refine ⟨sz1000 (by simp), fun r hr => ?_⟩
    have hrp : r ≠ p := nul_updN hr
    have hr0 : G' r = none := nul_upd hr
    refine ⟨by rw [upd_ne (Ne.symm hrp), upd_same], upd G' r (.lst []), by rw [upd_comm hrp]; exact Ex.refl _, upd F r (.lst []), ?_, nul_ne h2 (Ne.symm hrp), by rw [List.length_append, h3]; rfl, by omega⟩
    rw [List.replicate_succ']
    exact h1.snoc hr0
  · rintro acc G' ⟨F, h1, h2, h3, h4⟩
    obtain ⟨n, ra⟩ := h1.done h2
    have rz : Rz (upd G' p (.lst acc)) (List.replicate 8 []) (List.replicate 8 []) := rz_nil
    change RowsAt _ _ (List.replicate 8 []) at ra
    k_extra "e"
    k_extra "e"
    refine es_forL ?_
    k_extra "e"
    refine ⟨pt, us, rfl, SqL.of (n.ex _ _ hus), fun i σ G2 => ∃ c2 c3 c4 F vss, σ = [some (.ref pt), some (.ref p), c2, c3, c4, none] ∧ NewP G F G2 ∧ RowsAt F p vss ∧ Rz G2 vss (rowsOf (prs (ts.take i))) ∧ (∀ k, (vss.getD k []).length ≤ i), ⟨_, _, _, _, _, rfl, n, ra, rz, fun k => ?_⟩, ?_, ?_, ?_⟩
    · rw [List.getD_eq_getElem?_getD, List.getElem?_replicate]; split <;> exact Nat.le_refl _
    · rintro i σ G2 ⟨c2, c3, c4, F, vss, rfl, n2, ra2, rz2, hs⟩
      exact SqL.of (n2.ex _ _ hus)
    · rintro i x σ G2 hx ⟨c2, c3, c4, F, vss, rfl, n2, ra2, rz2, hs⟩
      have hi : i < ts.length := by rw [← lus]; exact (List.getElem?_eq_some_iff.mp hx).1
      have hy := List.getElem?_eq_getElem hi
      generalize ts[i] = y at hy
      obtain ⟨x', hx', ix⟩ := izs_get (n2.ex.tz.izs hI) (show (ts.map tD)[i]? = some (tD y) by rw [List.getElem?_map, hy]; rfl)
      rw [hx] at hx'; cases hx'
      obtain ⟨t, vd, rfl, g1, g2⟩ := iz_tp ix
      have hk8 := h8 _ (List.mem_of_getElem? hy)
      have hkv : y.1 < vss.length := by rw [rz2.1, rowsOf_len]; exact hk8
      have hkw := List.getElem?_eq_getElem hkv
      obtain ⟨xs, r, a1, a2, a3, a4, a5, a6, _⟩ := ra2.at_ hkw
      have hz := hs y.1
      rw [List.getD_eq_getElem?_getD, hkw] at hz
      refine eg_tup (SqT.of g1) rfl ?_
      k_extra "e"
      k_extra "e"
      refine ee_bm ?_
      k_extra "e"
      refine er_ixL (SqL.of (n2.exF _ _ a1)) (atI_nat a2) ?_
      refine ⟨ty_lst (n2.exF _ _ a3), ?_⟩
      k_extra "e"
      refine em_append (n2.exF _ _ a3) (szlt (by have : vss[y.1].length ≤ i := hz; omega)) ?_
      refine ⟨_, _, _, upd F r (.lst (vss[y.1] ++ [vd])), addV vss y.1 vd, rfl, n2.mut a3 (fun ps z => by cases z), by rw [addV_set hkw]; exact a6 _, ?_, fun k => ?_⟩
      · rw [prs_take hy]
        exact (rz2.add g2).tz (Tz.mutL (n2.exF _ _ a3))
      · rw [addV_set hkw, List.getD_eq_getElem?_getD, List.getElem?_set]
        split
        · rename_i e; subst e
          try rw [if_pos hkv]
          show (vss[y.1] ++ [vd]).length ≤ i + 1
          rw [List.length_append, List.length_singleton]
          have : vss[y.1].length ≤ i := hz
          omega
        · have := hs k
          rw [List.getD_eq_getElem?_getD] at this
          omega
    · rintro σ G2 ⟨c2, c3, c4, F, vss, rfl, n2, ra2, rz2, hs⟩
      rw [lus, List.take_length] at rz2
      k_extra "e"
      exact q p F G2 vss n2 ra2 rz2
def S__law_deeds (K : PySem.W.Frag) (A : Ad) : Pm := fun vs G Q _ => ∃ (pt : Addr) (us : List V) (ts : List Tp), vs = [.ref pt] ∧ G pt = some (.lst us) ∧ Izs G us (ts.map tD) ∧ (∀ x ∈ ts, x.1 < 8) ∧ ts.length ≤ 1000 ∧
  ∀ a F G' vss, NewP G F G' → DsAt A F a vss → Rz G' vss (rowsOf (prs ts)) → Q (.ref a) G'
theorem len__law_deeds {K : PySem.W.Frag} {A : Ad} : ∀ vs G Q E, S__law_deeds K A vs G Q E → vs.length = ["triples"].length := by
  rintro vs G Q E ⟨pt, us, ts, rfl, _⟩; rfl
theorem ok__law_deeds {K : PySem.W.Frag} {A : Ad} (C : Cf K A) : ∀ vs G Q E, S__law_deeds K A vs G Q E → Es (t__law_deeds K A) { nx := fun _ G' => Q .non G', rt := Q } (L2.start ["triples", "deeds", "replica", "place", "deed"] vs) G := by
  rintro vs G Q E ⟨pt, us, ts, rfl, hus, hI, h8, hlen, q⟩
  have lus := izs_len hI
  rw [List.length_map] at lus
  change Es _ _ (_ :: _ :: _ :: _ :: _ :: []) _
  k_extra "e"
  refine ee_make ?_
  k_extra "e"
  intro x dx' hx hd hn
  refine ds_make (P := fun G2 => _) hx hd hn fun F0 G1 n1 d1 => ?_
  k_extra "e"
  k_extra "e"
  refine es_forL ?_
  k_extra "e"
  refine ⟨pt, us, rfl, SqL.of (n1.ex _ _ hus), fun i σ G2 => ∃ c2 c3 c4 F vss, σ = [some (.ref pt), some (.ref x), c2, c3, c4] ∧ NewP G F G2 ∧ DsAt A F x vss ∧ Rz G2 vss (rowsOf (prs (ts.take i))) ∧ (∀ ws ∈ vss, ws.length ≤ i), ⟨_, _, _, _, _, rfl, n1, d1, rz_nil, fun ws hw => ?_⟩, ?_, ?_, ?_⟩
  · rw [List.mem_replicate] at hw; rw [hw.2]; exact Nat.le_refl _
  · rintro i σ G2 ⟨c2, c3, c4, F, vss, rfl, n2, ra2, rz2, hs⟩
    exact SqL.of (n2.ex _ _ hus)
  · rintro i y' σ G2 hx' ⟨c2, c3, c4, F, vss, rfl, n2, ra2, rz2, hs⟩
    have hi : i < ts.length := by rw [← lus]; exact (List.getElem?_eq_some_iff.mp hx').1
    have hy := List.getElem?_eq_getElem hi
    generalize ts[i] = y at hy
    obtain ⟨x2, hx2, ix⟩ := izs_get (n2.ex.tz.izs hI) (show (ts.map tD)[i]? = some (tD y) by rw [List.getElem?_map, hy]; rfl)
    rw [hx'] at hx2; cases hx2
    obtain ⟨t, vd, rfl, g1, g2⟩ := iz_tp ix
    have hk8 := h8 _ (List.mem_of_getElem? hy)
    have hkv : y.1 < vss.length := by rw [rz2.1, rowsOf_len]; exact hk8
    refine eg_tup (SqT.of g1) rfl ?_
    k_extra "e"
    k_extra "e"
    refine ee_meth ?_
    k_extra "e"
    have ra2' := ra2
    obtain ⟨dx, pr, ha, _⟩ := ra2'
    refine ⟨x, dx, _, rfl, n2.exF _ _ ha, rfl, ?_⟩
    k_extra "e"
    refine ⟨x, F, vss, y.1, vd, rfl, ra2, n2.exF, hkv, fun ws hw => by have := hs ws hw; omega, n2.nt, ?_⟩
    intro F' G3 d3 f3 e3 t3 l3
    refine ⟨_, _, _, F', addV vss y.1 vd, rfl, n2.fr f3 e3 t3, d3, ?_, fun ws hw => ?_⟩
    · rw [prs_take hy]
      exact (rz2.add g2).tz l3.tz
    · rw [addV_set (List.getElem?_eq_getElem hkv)] at hw
      rcases List.mem_or_eq_of_mem_set hw with hw | hw
      · have := hs ws hw; omega
      · rw [hw, List.length_append, List.length_singleton]
        have := hs _ (List.getElem_mem hkv); omega
  · rintro σ G2 ⟨c2, c3, c4, F, vss, rfl, n2, ra2, rz2, hs⟩
    rw [lus, List.take_length] at rz2
    k_extra "e"
    exact q x F G2 vss n2 ra2 rz2
end Lw

namespace Lw
open PySem PySem.Spec PyProof.Rows L2
local macro_rules | `(tactic| k_extra "x1") => `(tactic| first
  | with_reducible refine es_seq ?_
  | with_reducible refine es_asg ?_
  | with_reducible refine es_if ?_
  | with_reducible refine es_ret ?_
  | with_reducible refine es_drop ?_
  | with_reducible refine es_next ?_
  | with_reducible refine es_augS ?_
  | with_reducible refine es_fld ?_
  | ((with_reducible show Ee (tVar _) _ _ _); refine ee_var rfl ?_)
  | with_reducible refine ee_c ?_
  | with_reducible refine ee_op ?_
  | with_reducible refine ee_un ?_
  | with_reducible refine eu_neg ?_
  | with_reducible refine ee_cb ?_
  | with_reducible refine ee_call ?_
  | with_reducible refine ea_nil ?_
  | with_reducible refine ea_cons ?_
  | with_reducible refine ee_sl ?_
  | with_reducible refine eo_no ?_
  | with_reducible refine eo_part ?_
  | with_reducible refine ee_tup ?_
  | with_reducible refine ee_lst ?_
  | with_reducible refine et_test ?_
  | with_reducible refine et_tB ?_
  | with_reducible refine et_tru ?_
  | with_reducible refine et_and ?_
  | with_reducible refine et_or ?_
  | with_reducible refine et_not ?_
  | with_reducible refine ee_and ?_
  | with_reducible refine ee_or ?_
  | with_reducible refine ee_not ?_
  | with_reducible refine ee_if ?_
  | with_reducible refine ee_chain ?_
  | with_reducible refine er_addI ?_
  | with_reducible refine er_subI ?_
  | with_reducible refine er_eqI ?_
  | with_reducible refine er_neI ?_
  | with_reducible refine er_eqNI ?_
  | with_reducible refine er_eqS ?_
  | with_reducible refine er_neS ?_
  | with_reducible refine er_eqB ?_
  | with_reducible refine er_neB ?_
  | with_reducible refine er_lt ?_
  | with_reducible refine er_le ?_
  | with_reducible refine er_gt ?_
  | with_reducible refine er_ge ?_
  | with_reducible refine er_isN_non ?_
  | with_reducible refine er_isN_bl ?_
  | with_reducible refine er_isN_int ?_
  | with_reducible refine er_isN_str ?_
  | with_reducible refine er_isN_ref ?_
  | with_reducible refine er_notN_non ?_
  | with_reducible refine er_notN_bl ?_
  | with_reducible refine er_notN_int ?_
  | with_reducible refine er_notN_str ?_
  | with_reducible refine er_notN_ref ?_
  | with_reducible refine er_isN ?_
  | with_reducible refine er_notN ?_
  | with_reducible refine ec_int ?_
  | with_reducible refine ec_intB ?_
  | with_reducible refine ec_max2 ?_
  | with_reducible refine ec_min2 ?_
  | with_reducible refine ip_I ?_
  | ((with_reducible refine eg_name ?_); (try dsimp only [L2.wipe, List.set_cons_zero, List.set_cons_succ]))
  | with_reducible refine eg_sub ?_
  | with_reducible refine egs_cons ?_
  | with_reducible refine egs_nil ?_
  | with_reducible refine tru_bl ?_
  | with_reducible refine tru_int ?_
  | with_reducible refine tru_non ?_
  | with_reducible refine iteT ?_
  | with_reducible refine iteF ?_
  | with_reducible refine ite_nt ?_
  | with_reducible refine ite_nf ?_
  | with_reducible refine ⟨_, rfl, ?_⟩)
local macro_rules | `(tactic| k_extra "s") => `(tactic| ((first | k_extra "x1" | ((with_reducible refine es_unf ?_); refine es_seq ?_)); (repeat k_extra "x1")))
local macro_rules | `(tactic| k_extra "x") => `(tactic| (repeat first | k_extra "x1" | ((with_reducible refine es_unf ?_); refine es_seq ?_)))
local macro_rules | `(tactic| k_extra "start") => `(tactic| dsimp only [L2.start, List.map_cons, List.map_nil, List.length_cons, List.length_nil, Nat.reduceAdd, Nat.reduceSub, List.replicate, List.cons_append, List.nil_append, Nat.zero_add])
local macro_rules | `(tactic| k_extra "e1") => `(tactic| first
  | with_reducible refine es_next ?_
  | ((with_reducible show Ee (tVar _) _ _ _); refine ee_var rfl ?_)
  | with_reducible refine ee_c ?_
  | with_reducible refine ee_op ?_
  | with_reducible refine ee_un ?_
  | with_reducible refine eu_neg ?_
  | with_reducible refine ee_cb ?_
  | with_reducible refine ee_call ?_
  | with_reducible refine ea_nil ?_
  | with_reducible refine ea_cons ?_
  | with_reducible refine ee_sl ?_
  | with_reducible refine eo_no ?_
  | with_reducible refine eo_part ?_
  | with_reducible refine ee_tup ?_
  | with_reducible refine ee_lst ?_
  | with_reducible refine et_test ?_
  | with_reducible refine et_tB ?_
  | with_reducible refine et_tru ?_
  | with_reducible refine et_and ?_
  | with_reducible refine et_or ?_
  | with_reducible refine et_not ?_
  | with_reducible refine ee_and ?_
  | with_reducible refine ee_or ?_
  | with_reducible refine ee_not ?_
  | with_reducible refine ee_if ?_
  | with_reducible refine ee_chain ?_
  | with_reducible refine er_addI ?_
  | with_reducible refine er_subI ?_
  | with_reducible refine er_eqI ?_
  | with_reducible refine er_neI ?_
  | with_reducible refine er_eqNI ?_
  | with_reducible refine er_eqS ?_
  | with_reducible refine er_neS ?_
  | with_reducible refine er_eqB ?_
  | with_reducible refine er_neB ?_
  | with_reducible refine er_lt ?_
  | with_reducible refine er_le ?_
  | with_reducible refine er_gt ?_
  | with_reducible refine er_ge ?_
  | with_reducible refine er_isN_non ?_
  | with_reducible refine er_isN_bl ?_
  | with_reducible refine er_isN_int ?_
  | with_reducible refine er_isN_str ?_
  | with_reducible refine er_isN_ref ?_
  | with_reducible refine er_notN_non ?_
  | with_reducible refine er_notN_bl ?_
  | with_reducible refine er_notN_int ?_
  | with_reducible refine er_notN_str ?_
  | with_reducible refine er_notN_ref ?_
  | with_reducible refine er_isN ?_
  | with_reducible refine er_notN ?_
  | with_reducible refine ec_int ?_
  | with_reducible refine ec_intB ?_
  | with_reducible refine ec_max2 ?_
  | with_reducible refine ec_min2 ?_
  | with_reducible refine ip_I ?_
  | ((with_reducible refine eg_name ?_); (try dsimp only [L2.wipe, List.set_cons_zero, List.set_cons_succ]))
  | with_reducible refine eg_sub ?_
  | with_reducible refine egs_cons ?_
  | with_reducible refine egs_nil ?_
  | with_reducible refine tru_bl ?_
  | with_reducible refine tru_int ?_
  | with_reducible refine tru_non ?_
  | with_reducible refine iteT ?_
  | with_reducible refine iteF ?_
  | with_reducible refine ite_nt ?_
  | with_reducible refine ite_nf ?_
  | with_reducible refine ex_bl ?_
  | with_reducible refine ex_int ?_
  | with_reducible refine ex_str ?_
  | with_reducible refine ex_strx ?_
  | with_reducible refine ex_ints1 ?_
  | with_reducible refine ex_ints2 ?_)
local macro_rules | `(tactic| k_extra "t1") => `(tactic| first
  | with_reducible refine es_asg ?_
  | with_reducible refine es_if ?_
  | with_reducible refine es_ret ?_
  | with_reducible refine es_drop ?_
  | with_reducible refine es_augS ?_
  | with_reducible refine es_fld ?_)
local macro_rules | `(tactic| k_extra "e") => `(tactic| first
  | ((with_reducible refine es_seq ?_); (try k_extra "t1"); (repeat k_extra "e1"))
  | (k_extra "t1"; (repeat k_extra "e1"))
  | (k_extra "e1"; (repeat k_extra "e1"))
  | ((with_reducible refine es_unf ?_); (refine es_seq ?_); (try k_extra "t1"); (repeat k_extra "e1")))
/-! ### _law_triples -/
theorem ixN_at {n j : Nat} (h : j < n) : ixN n (j : Int) = some j := by
  unfold ixN; rw [if_pos (by omega), if_pos (by omega)]; simp
theorem Aq.mutM {L1 L2 : List Hp} {F G : Hp} {p : Addr} {o u : HO} (a : Aq (L1 ++ F :: L2) G) (h : F p = some u) (n : ∀ ps, o ≠ .tbl ps) : Aq (L1 ++ upd F p o :: L2) (upd G p o) :=
  ((a.perm (L' := F :: (L1 ++ L2)) List.perm_middle.symm).mut1 h n).perm List.perm_middle
theorem Aq.newM {L1 L2 : List Hp} {F G : Hp} {p : Addr} {o : HO} (a : Aq (L1 ++ F :: L2) G) (h : G p = none) (n : ∀ ps, o ≠ .tbl ps) : Aq (L1 ++ upd F p o :: L2) (upd G p o) :=
  ((a.perm (L' := F :: (L1 ++ L2)) List.perm_middle.symm).new1 h n).perm List.perm_middle
/-- all but the tables, as a piece -/
def NT (G : Hp) : Hp := fun a => match G a with
  | some (.tbl _) => none
  | o => o
theorem NT.ex {G : Hp} : Ex (NT G) G := fun a o h => by
  unfold NT at h
  cases e : G a with
  | none => rw [e] at h; cases h
  | some w => rw [e] at h; cases w <;> first | exact h | cases h
theorem NT.nt {G : Hp} : ∀ a ps, NT G a ≠ some (.tbl ps) := fun a ps h => by
  have e := NT.ex a _ h
  unfold NT at h
  rw [e] at h; cases h
theorem NT.get {G : Hp} {a : Addr} {o : HO} (h : G a = some o) (n : ∀ ps, o ≠ .tbl ps) : NT G a = some o := by
  unfold NT
  rw [h]
  cases o with
  | tbl ps => exact absurd rfl (n ps)
  | _ => rfl
theorem Aq.nt0 {G : Hp} : Aq [NT G] G := ⟨⟨fun F h => by rw [List.mem_singleton] at h; subst h; exact NT.ex, List.pairwise_singleton _ _⟩, fun F h => by rw [List.mem_singleton] at h; subst h; exact NT.nt⟩
theorem Aq.mu {A : Ad} {L : List Hp} {G G' : Hp} (a : Aq (NT G :: L) G') (t : LamX.Tabs (Tb A) G') : MU A G G' := ⟨fun x o h n => a.ex List.mem_cons_self _ _ (NT.get h n), fun _ => t⟩
/-- the place of n more -/
theorem nV_get {c : List Nat} {k : Nat} (h : k < c.length) : (nV c)[k]? = some (.int ((c.getD k 0 : Nat) : Int)) := by
  unfold nV
  rw [List.getElem?_map, List.getD_eq_getElem?_getD, List.getElem?_eq_getElem h]; rfl
theorem nV_set {c : List Nat} {k n : Nat} : nV (c.set k n) = (nV c).set k (.int (n : Int)) := by unfold nV; rw [List.map_set]
def cVs (css : List (List Nat)) : List (List V) := css.map nV
theorem cVs_get {css : List (List Nat)} {r : Nat} {c : List Nat} (h : css[r]? = some c) : (cVs css)[r]? = some (nV c) := by unfold cVs; rw [List.getElem?_map, h]; rfl
theorem cVs_set {css : List (List Nat)} {r : Nat} {c : List Nat} : cVs (css.set r c) = (cVs css).set r (nV c) := by unfold cVs; rw [List.map_set]
theorem mx_max {a b : List Nat} {i : Nat} : (if (b.getD i 0 : Int) > (a.getD i 0 : Int) then (b.getD i 0 : Int) else (a.getD i 0 : Int)) = ((max (a.getD i 0) (b.getD i 0) : Nat) : Int) := by
  split <;> omega
theorem lenV {G : Hp} {vss : List (List V)} {rows : List (List De)} (h : Rz G vss rows) (k : Nat) : (vss.getD k []).length = (rows.getD k []).length := by
  by_cases hk : k < vss.length
  · have hk2 : k < rows.length := by rw [← h.1]; exact hk
    have := izs_len (h.2 k _ _ (List.getElem?_eq_getElem hk) (List.getElem?_eq_getElem hk2))
    rw [List.getD_eq_getElem?_getD, List.getElem?_eq_getElem hk, List.getD_eq_getElem?_getD (l := rows), List.getElem?_eq_getElem hk2]
    rw [List.length_map] at this; exact this
  · rw [List.getD_eq_getElem?_getD, List.getElem?_eq_none (by omega), List.getD_eq_getElem?_getD (l := rows), List.getElem?_eq_none (by have := h.1; omega)]; rfl
/-- drawn triples: of every beginning the rows are well-formed -/
structure TsOk (n : Nat) (ts : List Tp) : Prop where
  len : ts.length ≤ n
  k8 : ∀ x ∈ ts, x.1 < 8
  wf : Wf ((INC + TL) * (n : Int)) (rowsOf (prs ts))
  sm : ∀ k, ((rowsOf (prs ts)).getD k []).length ≤ n
def S__law_triples (K : PySem.W.Frag) (A : Ad) : Pm := fun vs G Q _ => ∃ (p : Addr) (ds : List Int) (start : Int) (steps most : Nat), vs = [.ref p, .int start, .int (steps : Int), .int (most : Int)] ∧ Li G p ds ∧ Dr ds ∧ 0 ≤ start ∧ steps ≤ 100 ∧ 1 ≤ most ∧ most ≤ 8 ∧ LamX.Tabs (Tb A) G ∧
  ∀ pt us ts G', MU A G G' → G' pt = some (.lst us) → Izs G' us (ts.map tD) → TsOk steps ts → Q (.ref pt) G'
/-! _law_triples -/
def t__law_triples_1 (K : PySem.W.Frag) (A : Ad) : TS := tSeq (tAsg (tCB (rLenU K) (tCons (tOp (rIx K) (tVar 4) (tVar 9)) tNil)) (gSub (tOp (rIx K) (tVar 5) (tVar 9)) (tVar 9) rSetL)) (tDrop (tBM K "list" (rAppend) (tVar 7) (tCons (tTup (tCons (tVar 9) (tCons (tCB (rLenU K) (tCons (tOp (rIx K) (tVar 4) (tVar 9)) tNil)) (tCons (tVar 11) tNil)))) tNil)))
def t__law_triples_2 (K : PySem.W.Frag) (A : Ad) : TS := tSeq (tDrop (tBM K "list" (rAppend) (tOp (rIx K) (tVar 4) (tVar 9)) (tCons (tVar 11) tNil))) (t__law_triples_1 K A)
def t__law_triples_3 (K : PySem.W.Frag) (A : Ad) : TS := tSeq (tAsg (tCall (up (S__law_deed K A)) [] E0 (tCons (tVar 0) (tCons (tOp (rAddU K) (tVar 8) (tC (.int 2))) (tCons (tCall (up (S__law_visible K A)) [] E0 (tCons (tVar 4) (tCons (tOp (rIx K) (tVar 5) (tVar 9)) tNil))) (tCons (tVar 9) tNil))))) (gName 11)) (t__law_triples_2 K A)
def t__law_triples_4 (K : PySem.W.Frag) (A : Ad) : TS := tSeq (tIfS (tTest (tOp (rLtU K) (tVar 10) (tVar 3))) (tAsg (tLc (iRng1 (tCons (tC (.int 8)) tNil)) (gName 12) tYes (tCB rMax2U (tCons (tOp (rIx K) (tOp (rIx K) (tVar 5) (tVar 9)) (tVar 12)) (tCons (tOp (rIx K) (tOp (rIx K) (tVar 5) (tVar 10)) (tVar 12)) tNil))) [12]) (gSub (tVar 5) (tVar 9) rSetL)) tNext) (t__law_triples_3 K A)
def t__law_triples_5 (K : PySem.W.Frag) (A : Ad) : TS := tSeq (tAsg (tOp (rModU) (tCall (up (S__law_at K A)) [] E0 (tCons (tVar 0) (tCons (tOp (rAddU K) (tVar 8) (tC (.int 1))) tNil))) (tOp (rAddU K) (tVar 3) (tC (.int 1)))) (gName 10)) (t__law_triples_4 K A)
def t__law_triples_6 (K : PySem.W.Frag) (A : Ad) : TS := tSeq (tAsg (tOp (rModU) (tCall (up (S__law_at K A)) [] E0 (tCons (tVar 0) (tCons (tVar 8) tNil))) (tVar 3)) (gName 9)) (t__law_triples_5 K A)
def t__law_triples_7 (K : PySem.W.Frag) (A : Ad) : TS := tSeq (tAsg (tOp (rAddU K) (tVar 1) (tOp (rMulU) (tC (.int 16)) (tVar 6))) (gName 8)) (t__law_triples_6 K A)
def t__law_triples_8 (K : PySem.W.Frag) (A : Ad) : TS := tSeq (tFor (iRng1 (tCons (tVar 2) tNil)) (gName 6) (t__law_triples_7 K A)) (tRet (tVar 7))
def t__law_triples_9 (K : PySem.W.Frag) (A : Ad) : TS := tSeq (tAsg (tLst tNil) (gName 7)) (t__law_triples_8 K A)
def t__law_triples_10 (K : PySem.W.Frag) (A : Ad) : TS := tSeq (tFor (iRng1 (tCons (tVar 3) tNil)) (gName 6) (tDrop (tBM K "list" (rAppend) (tVar 5) (tCons (tLc (iRng1 (tCons (tC (.int 8)) tNil)) (gName 12) tYes (tC (.int 0)) [12]) tNil)))) (t__law_triples_9 K A)
def t__law_triples_11 (K : PySem.W.Frag) (A : Ad) : TS := tSeq (tAsg (tLst tNil) (gName 5)) (t__law_triples_10 K A)
def t__law_triples (K : PySem.W.Frag) (A : Ad) : TS := tSeq (tAsg (tLc (iRng1 (tCons (tC (.int 8)) tNil)) (gName 6) tYes (tLst tNil) [6]) (gName 4)) (t__law_triples_11 K A)
theorem len__law_triples {K : PySem.W.Frag} {A : Ad} : ∀ vs G Q E, S__law_triples K A vs G Q E → vs.length = ["draws", "start", "steps", "most"].length := by
  rintro vs G Q E ⟨p, ds, start, steps, most, rfl, _⟩; rfl
/-- what a turn starts with -/
structure TrI (A : Ad) (G0 G : Hp) (Fr Fc Ft : Hp) (pr pc pt : Addr) (vss : List (List V)) (us : List V) (css : List (List Nat)) (ts : List Tp) (most i : Nat) : Prop where
  aq : Aq [NT G0, Fr, Fc, Ft] G
  tb : LamX.Tabs (Tb A) G
  ra : RowsAt Fr pr vss
  ca : RowsAt Fc pc (cVs css)
  ft : Ft pt = some (.lst us)
  rz : Rz G vss (rowsOf (prs ts))
  iu : Izs G us (ts.map tD)
  tri : Tri most i (rowsOf (prs ts)) css
  tl : ts.length = i
  t8 : ∀ x ∈ ts, x.1 < 8
theorem tabs_mut {A : Ad} {G : Hp} {p : Addr} {xs ys : List V} (t : LamX.Tabs (Tb A) G) (h : G p = some (.lst xs)) : LamX.Tabs (Tb A) (upd G p (.lst ys)) := (Ls.mut h).tabs t
/-- a turn, from the deed on -/
theorem triples_deed {K : PySem.W.Frag} {A : Ad} {G0 G Fr Fc Ft : Hp} {D : Ek} {p pr pc pt : Addr} {ds : List Int} {base : Int} {vss : List (List V)} {us : List V} {css : List (List Nat)} {ts : List Tp} {most i r : Nat} {c2 c3 c6 c10 c11 : Option V}
    (h : Li G0 p ds) (hd : Dr ds) (hb : 0 ≤ base) (I : TrI A G0 G Fr Fc Ft pr pc pt vss us css ts most i) (hr : r < most) (hm : most ≤ 8) (hi : i < 100)
    (q : ∀ c11 G' Fr' Fc' Ft' vss' us' css' ts', TrI A G0 G' Fr' Fc' Ft' pr pc pt vss' us' css' ts' most (i + 1) → D.nx [some (.ref p), c2, c3, some (.int (most : Int)), some (.ref pr), some (.ref pc), c6, some (.ref pt), some (.int base), some (.int (r : Int)), c10, c11, none] G') :
    Es (t__law_triples_3 K A) D [some (.ref p), c2, c3, some (.int (most : Int)), some (.ref pr), some (.ref pc), c6, some (.ref pt), some (.int base), some (.int (r : Int)), c10, c11, none] G := by
  obtain ⟨aq, tb, ra, ca, ft, rz, iu, tri, tl, t8⟩ := I
  have xr : Ex Fr G := aq.ex (by simp)
  have xc : Ex Fc G := aq.ex (by simp)
  have xt : Ex Ft G := aq.ex (by simp)
  have hp0 : Li G p ds := (aq.mu tb).li h
  obtain ⟨c, hc⟩ : ∃ c, css[r]? = some c := ⟨css[r]'(by rw [tri.cl]; exact hr), List.getElem?_eq_getElem _⟩
  obtain ⟨c8, c1, c2', c3'⟩ := tri.c8 r c hc
  obtain ⟨ys, lc, k1, k2, k3, k4, k5, k6, k7⟩ := ca.at_ (cVs_get hc)
  have h8 : vss.length = 8 := by rw [rz.1]; exact tri.len
  have hrv : r < vss.length := by omega
  have hrw := List.getElem?_eq_getElem hrv
  obtain ⟨xs, lr, a1, a2, a3, a4, a5, a6, a7⟩ := ra.at_ hrw
  have hgv : vss.getD r [] = vss[r] := by rw [List.getD_eq_getElem?_getD, hrw]; rfl
  k_extra "e"
  refine er_ixL (SqL.of (xc _ _ k1)) (atI_nat k2) ?_
  k_extra "e"
  refine ⟨pr, lc, vss, c, rfl, ra.ex xr, h8, xc _ _ k3, c8, fun k => by rw [lenV rz]; exact c1 k, fun pv G1 e1 rv => ?_⟩
  k_extra "e"
  refine ⟨p, pv, ds, base + 2, cutVs vss c, cut (rowsOf (prs ts)) c, _, r, rfl, e1 _ _ hp0, hd, by omega, rv, (rz_cut rz).tz e1.tz, tri_wf tri hc (by omega), by omega, tb.ext e1, fun v d G2 u2 hv hfit => ?_⟩
  have aq2 : Aq [NT G0, Fr, Fc, Ft] G2 := (aq.junk e1).up u2
  have tb2 := u2.tab (tb.ext e1)
  have x2 : Tz G G2 := e1.tz.trans u2.tz
  have xr2 : Ex Fr G2 := aq2.ex (by simp)
  have hsm := tri.sm r
  have hlv := lenV rz r
  rw [hgv] at hlv
  k_extra "e"
  k_extra "e"
  refine ee_bm ?_
  k_extra "e"
  refine er_ixL (SqL.of (xr2 _ _ a1)) (atI_nat a2) ?_
  refine ⟨ty_lst (xr2 _ _ a3), ?_⟩
  k_extra "e"
  refine em_append (xr2 _ _ a3) (szlt (by omega)) ?_
  have aq3 := Aq.mutM (L1 := [NT G0]) (L2 := [Fc, Ft]) (o := .lst (vss[r] ++ [v])) aq2 a3 (fun ps z => by cases z)
  have tb3 := tabs_mut (ys := vss[r] ++ [v]) tb2 (xr2 _ _ a3)
  have ra3 := a6 (vss[r] ++ [v])
  have x3 : Tz G2 (upd G2 lr (.lst (vss[r] ++ [v]))) := Tz.mutL (xr2 _ _ a3)
  have rz3 := ((rz.tz x2).add (k := r) hv).tz x3
  have iu3 := (x2.trans x3).izs iu
  have hv3 := x3.iz hv
  rw [← addV_set hrw] at ra3
  generalize upd G2 lr (.lst (vss[r] ++ [v])) = G3 at aq3 tb3 x3 rz3 iu3 hv3 ⊢
  generalize upd Fr lr (.lst (vss[r] ++ [v])) = Fr3 at aq3 ra3
  have xr3 : Ex Fr3 G3 := aq3.ex (by simp)
  have xc3 : Ex Fc G3 := aq3.ex (by simp)
  have tri3 := tri_add tri hc (by omega) (by omega) hfit
  have hrv3 : r < (addV vss r v).length := by unfold addV; rw [List.length_modify]; exact hrv
  obtain ⟨xs', lr', b1, b2, b3, b4, b5, b6, b7⟩ := ra3.at_ (List.getElem?_eq_getElem hrv3)
  have hl3 : (addV vss r v)[r].length = ((rowsOf (prs ts)).getD r []).length + 1 := by
    have e : (addV vss r v)[r]? = some (vss[r] ++ [v]) := by rw [addV_set hrw, List.getElem?_set_self hrv]
    rw [List.getElem?_eq_getElem hrv3] at e
    rw [Option.some.inj e, List.length_append, List.length_singleton, hlv]
  k_extra "e"
  refine er_ixL (SqL.of (xr3 _ _ b1)) (atI_nat b2) ?_
  k_extra "e"
  refine ec_lenL (SqL.of (xr3 _ _ b3)) fun _ => ?_
  refine eg_sub ?_
  k_extra "e"
  refine er_ixL (SqL.of (xc3 _ _ k1)) (atI_nat k2) ?_
  k_extra "e"
  refine ez_L (xc3 _ _ k3) (ixN_at (by unfold nV; rw [List.length_map]; omega)) ?_
  rw [hl3, ← nV_set]
  have aq4 := Aq.mutM (L1 := [NT G0, Fr3]) (L2 := [Ft]) (o := .lst (nV (c.set r (((rowsOf (prs ts)).getD r []).length + 1)))) aq3 k3 (fun ps z => by cases z)
  have tb4 := tabs_mut (ys := nV (c.set r (((rowsOf (prs ts)).getD r []).length + 1))) tb3 (xc3 _ _ k3)
  have ca4 := k6 (nV (c.set r (((rowsOf (prs ts)).getD r []).length + 1)))
  have x4 : Tz G3 (upd G3 lc (.lst (nV (c.set r (((rowsOf (prs ts)).getD r []).length + 1))))) := Tz.mutL (xc3 _ _ k3)
  rw [← cVs_set] at ca4
  have rz4 := rz3.tz x4
  have iu4 := x4.izs iu3
  have hv4 := x4.iz hv3
  generalize upd G3 lc (.lst (nV (c.set r (((rowsOf (prs ts)).getD r []).length + 1)))) = G4 at aq4 tb4 x4 rz4 iu4 hv4 ⊢
  generalize upd Fc lc (.lst (nV (c.set r (((rowsOf (prs ts)).getD r []).length + 1)))) = Fc4 at aq4 ca4
  have xr4 : Ex Fr3 G4 := aq4.ex (by simp)
  have xt4 : Ex Ft G4 := aq4.ex (by simp)
  have lus := izs_len iu
  rw [List.length_map] at lus
  k_extra "e"
  refine ee_bm ?_
  k_extra "e"
  refine ⟨ty_lst (xt4 _ _ ft), ?_⟩
  k_extra "e"
  refine er_ixL (SqL.of (xr4 _ _ b1)) (atI_nat b2) ?_
  k_extra "e"
  refine ec_lenL (SqL.of (xr4 _ _ b3)) fun _ => ?_
  rw [hl3]
  k_extra "e"
  refine ⟨sz1000 (by simp), fun t ht => ?_⟩
  have e5 := Ex.new (o := .tup [.int (r : Int), .int ((((rowsOf (prs ts)).getD r []).length + 1 : Nat) : Int), v]) ht
  have g5 : upd G4 t (.tup [.int (r : Int), .int ((((rowsOf (prs ts)).getD r []).length + 1 : Nat) : Int), v]) t = _ := upd_same
  generalize upd G4 t (.tup [.int (r : Int), .int ((((rowsOf (prs ts)).getD r []).length + 1 : Nat) : Int), v]) = G5 at e5 g5 ⊢
  have aq5 := aq4.junk e5
  have xt5 : Ex Ft G5 := aq5.ex (by simp)
  k_extra "e"
  refine em_append (xt5 _ _ ft) (szlt (by omega)) ?_
  have x6 : Tz G5 (upd G5 pt (.lst (us ++ [V.ref t]))) := Tz.mutL (xt5 _ _ ft)
  have hrows : rowsOf (prs (ts ++ [(r, ((((rowsOf (prs ts)).getD r []).length + 1 : Nat) : Int), d)])) = addR (rowsOf (prs ts)) r d := by
    unfold prs; rw [List.map_append]; exact rowsOf_snoc _ (r, d)
  refine q _ _ Fr3 Fc4 (upd Ft pt (.lst (us ++ [V.ref t]))) (addV vss r v) (us ++ [V.ref t]) (css.set r (c.set r (((rowsOf (prs ts)).getD r []).length + 1))) (ts ++ [(r, ((((rowsOf (prs ts)).getD r []).length + 1 : Nat) : Int), d)])
    ⟨Aq.mutM (L1 := [NT G0, Fr3, Fc4]) (L2 := []) (o := .lst (us ++ [V.ref t])) aq5 ft (fun ps z => by cases z), tabs_mut (tb4.ext e5) (xt5 _ _ ft), ra3, ca4, upd_same, ?_, ?_, ?_, ?_, ?_⟩
  · rw [hrows]; exact rz4.tz (e5.tz.trans x6)
  · rw [List.map_append]
    exact izs_app ((e5.tz.trans x6).izs iu4) (.cons (.tup (x6 _ _ g5) (.cons (.int _) (.cons (.int _) (.cons ((e5.tz.trans x6).iz hv4) .nil)))) .nil)
  · rw [hrows]; exact tri3
  · rw [List.length_append, List.length_singleton, tl]
  · intro x hx
    rcases List.mem_append.mp hx with hx | hx
    · exact t8 x hx
    · rw [List.mem_singleton] at hx; subst hx; show r < 8; omega
end Lw

namespace Lw
open PySem PySem.Spec PyProof.Rows L2
local macro_rules | `(tactic| k_extra "x1") => `(tactic| first
  | with_reducible refine es_seq ?_
  | with_reducible refine es_asg ?_
  | with_reducible refine es_if ?_
  | with_reducible refine es_ret ?_
  | with_reducible refine es_drop ?_
  | with_reducible refine es_next ?_
  | with_reducible refine es_augS ?_
  | with_reducible refine es_fld ?_
  | ((with_reducible show Ee (tVar _) _ _ _); refine ee_var rfl ?_)
  | with_reducible refine ee_c ?_
  | with_reducible refine ee_op ?_
  | with_reducible refine ee_un ?_
  | with_reducible refine eu_neg ?_
  | with_reducible refine ee_cb ?_
  | with_reducible refine ee_call ?_
  | with_reducible refine ea_nil ?_
  | with_reducible refine ea_cons ?_
  | with_reducible refine ee_sl ?_
  | with_reducible refine eo_no ?_
  | with_reducible refine eo_part ?_
  | with_reducible refine ee_tup ?_
  | with_reducible refine ee_lst ?_
  | with_reducible refine et_test ?_
  | with_reducible refine et_tB ?_
  | with_reducible refine et_tru ?_
  | with_reducible refine et_and ?_
  | with_reducible refine et_or ?_
  | with_reducible refine et_not ?_
  | with_reducible refine ee_and ?_
  | with_reducible refine ee_or ?_
  | with_reducible refine ee_not ?_
  | with_reducible refine ee_if ?_
  | with_reducible refine ee_chain ?_
  | with_reducible refine er_addI ?_
  | with_reducible refine er_subI ?_
  | with_reducible refine er_eqI ?_
  | with_reducible refine er_neI ?_
  | with_reducible refine er_eqNI ?_
  | with_reducible refine er_eqS ?_
  | with_reducible refine er_neS ?_
  | with_reducible refine er_eqB ?_
  | with_reducible refine er_neB ?_
  | with_reducible refine er_lt ?_
  | with_reducible refine er_le ?_
  | with_reducible refine er_gt ?_
  | with_reducible refine er_ge ?_
  | with_reducible refine er_isN_non ?_
  | with_reducible refine er_isN_bl ?_
  | with_reducible refine er_isN_int ?_
  | with_reducible refine er_isN_str ?_
  | with_reducible refine er_isN_ref ?_
  | with_reducible refine er_notN_non ?_
  | with_reducible refine er_notN_bl ?_
  | with_reducible refine er_notN_int ?_
  | with_reducible refine er_notN_str ?_
  | with_reducible refine er_notN_ref ?_
  | with_reducible refine er_isN ?_
  | with_reducible refine er_notN ?_
  | with_reducible refine ec_int ?_
  | with_reducible refine ec_intB ?_
  | with_reducible refine ec_max2 ?_
  | with_reducible refine ec_min2 ?_
  | with_reducible refine ip_I ?_
  | ((with_reducible refine eg_name ?_); (try dsimp only [L2.wipe, List.set_cons_zero, List.set_cons_succ]))
  | with_reducible refine eg_sub ?_
  | with_reducible refine egs_cons ?_
  | with_reducible refine egs_nil ?_
  | with_reducible refine tru_bl ?_
  | with_reducible refine tru_int ?_
  | with_reducible refine tru_non ?_
  | with_reducible refine iteT ?_
  | with_reducible refine iteF ?_
  | with_reducible refine ite_nt ?_
  | with_reducible refine ite_nf ?_
  | with_reducible refine ⟨_, rfl, ?_⟩)
local macro_rules | `(tactic| k_extra "s") => `(tactic| ((first | k_extra "x1" | ((with_reducible refine es_unf ?_); refine es_seq ?_)); (repeat k_extra "x1")))
local macro_rules | `(tactic| k_extra "x") => `(tactic| (repeat first | k_extra "x1" | ((with_reducible refine es_unf ?_); refine es_seq ?_)))
local macro_rules | `(tactic| k_extra "start") => `(tactic| dsimp only [L2.start, List.map_cons, List.map_nil, List.length_cons, List.length_nil, Nat.reduceAdd, Nat.reduceSub, List.replicate, List.cons_append, List.nil_append, Nat.zero_add])
local macro_rules | `(tactic| k_extra "e1") => `(tactic| first
  | with_reducible refine es_next ?_
  | ((with_reducible show Ee (tVar _) _ _ _); refine ee_var rfl ?_)
  | with_reducible refine ee_c ?_
  | with_reducible refine ee_op ?_
  | with_reducible refine ee_un ?_
  | with_reducible refine eu_neg ?_
  | with_reducible refine ee_cb ?_
  | with_reducible refine ee_call ?_
  | with_reducible refine ea_nil ?_
  | with_reducible refine ea_cons ?_
  | with_reducible refine ee_sl ?_
  | with_reducible refine eo_no ?_
  | with_reducible refine eo_part ?_
  | with_reducible refine ee_tup ?_
  | with_reducible refine ee_lst ?_
  | with_reducible refine et_test ?_
  | with_reducible refine et_tB ?_
  | with_reducible refine et_tru ?_
  | with_reducible refine et_and ?_
  | with_reducible refine et_or ?_
  | with_reducible refine et_not ?_
  | with_reducible refine ee_and ?_
  | with_reducible refine ee_or ?_
  | with_reducible refine ee_not ?_
  | with_reducible refine ee_if ?_
  | with_reducible refine ee_chain ?_
  | with_reducible refine er_addI ?_
  | with_reducible refine er_subI ?_
  | with_reducible refine er_eqI ?_
  | with_reducible refine er_neI ?_
  | with_reducible refine er_eqNI ?_
  | with_reducible refine er_eqS ?_
  | with_reducible refine er_neS ?_
  | with_reducible refine er_eqB ?_
  | with_reducible refine er_neB ?_
  | with_reducible refine er_lt ?_
  | with_reducible refine er_le ?_
  | with_reducible refine er_gt ?_
  | with_reducible refine er_ge ?_
  | with_reducible refine er_isN_non ?_
  | with_reducible refine er_isN_bl ?_
  | with_reducible refine er_isN_int ?_
  | with_reducible refine er_isN_str ?_
  | with_reducible refine er_isN_ref ?_
  | with_reducible refine er_notN_non ?_
  | with_reducible refine er_notN_bl ?_
  | with_reducible refine er_notN_int ?_
  | with_reducible refine er_notN_str ?_
  | with_reducible refine er_notN_ref ?_
  | with_reducible refine er_isN ?_
  | with_reducible refine er_notN ?_
  | with_reducible refine ec_int ?_
  | with_reducible refine ec_intB ?_
  | with_reducible refine ec_max2 ?_
  | with_reducible refine ec_min2 ?_
  | with_reducible refine ip_I ?_
  | ((with_reducible refine eg_name ?_); (try dsimp only [L2.wipe, List.set_cons_zero, List.set_cons_succ]))
  | with_reducible refine eg_sub ?_
  | with_reducible refine egs_cons ?_
  | with_reducible refine egs_nil ?_
  | with_reducible refine tru_bl ?_
  | with_reducible refine tru_int ?_
  | with_reducible refine tru_non ?_
  | with_reducible refine iteT ?_
  | with_reducible refine iteF ?_
  | with_reducible refine ite_nt ?_
  | with_reducible refine ite_nf ?_
  | with_reducible refine ex_bl ?_
  | with_reducible refine ex_int ?_
  | with_reducible refine ex_str ?_
  | with_reducible refine ex_strx ?_
  | with_reducible refine ex_ints1 ?_
  | with_reducible refine ex_ints2 ?_)
local macro_rules | `(tactic| k_extra "t1") => `(tactic| first
  | with_reducible refine es_asg ?_
  | with_reducible refine es_if ?_
  | with_reducible refine es_ret ?_
  | with_reducible refine es_drop ?_
  | with_reducible refine es_augS ?_
  | with_reducible refine es_fld ?_)
local macro_rules | `(tactic| k_extra "e") => `(tactic| first
  | ((with_reducible refine es_seq ?_); (try k_extra "t1"); (repeat k_extra "e1"))
  | (k_extra "t1"; (repeat k_extra "e1"))
  | (k_extra "e1"; (repeat k_extra "e1"))
  | ((with_reducible refine es_unf ?_); (refine es_seq ?_); (try k_extra "t1"); (repeat k_extra "e1")))
theorem RowsAt.app {F : Hp} {p : Addr} {vss : List (List V)} (h : RowsAt F p vss) : ∃ xs, F p = some (.lst xs) ∧ xs.length = vss.length ∧ ∀ l ws, F l = none → RowsAt (upd (upd F l (.lst ws)) p (.lst (xs ++ [.ref l]))) p (vss ++ [ws]) := by
  obtain ⟨refs, h1, h2, h3, h4, h5⟩ := h
  refine ⟨_, h1, by rw [List.length_map]; exact h2, fun l ws hl => ?_⟩
  have hlp : p ≠ l := fun e => by rw [e, hl] at h1; cases h1
  have lr : ∀ (i : Nat) (q : Addr), refs[i]? = some q → q ≠ l := fun i q hq z => by
    subst z
    have hi : i < vss.length := by rw [← h2]; exact (List.getElem?_eq_some_iff.mp hq).1
    have := h3 i q _ hq (List.getElem?_eq_getElem hi)
    rw [hl] at this; cases this
  refine ⟨refs ++ [l], by rw [upd_same, List.map_append]; rfl, by rw [List.length_append, List.length_append, h2]; rfl, fun i q vs hq hv => ?_, ?_, ?_⟩
  · rw [List.getElem?_append] at hq hv
    by_cases hi : i < refs.length
    · rw [if_pos hi] at hq
      rw [if_pos (by omega)] at hv
      rw [upd_ne (fun z => h5 (by rw [← z]; exact List.mem_of_getElem? hq)), upd_ne (lr i q hq)]
      exact h3 i q vs hq hv
    · rw [if_neg hi] at hq
      rw [if_neg (by omega)] at hv
      have h0 : i - refs.length = 0 := by
        have := (List.getElem?_eq_some_iff.mp hq).1
        simp at this; omega
      rw [← h2] at hv
      rw [h0] at hq hv
      cases hq; cases hv
      rw [upd_ne (Ne.symm hlp), upd_same]
  · rw [List.nodup_append]
    exact ⟨h4, by simp, fun a ha b hb e => by
      rw [List.mem_singleton] at hb; subst hb; subst e
      obtain ⟨i, hi⟩ := List.getElem?_of_mem ha
      exact lr i a hi rfl⟩
  · intro hm
    rcases List.mem_append.mp hm with hm | hm
    · exact h5 hm
    · rw [List.mem_singleton] at hm; exact hlp hm
/-- counts[replica] = the greater ones -/
theorem triples_turn {K : PySem.W.Frag} {A : Ad} {G0 G Fr Fc Ft : Hp} {D : Ek} {p pr pc pt : Addr} {ds : List Int} {base : Int} {vss : List (List V)} {us : List V} {css : List (List Nat)} {ts : List Tp} {most i r o : Nat} {c2 c3 c6 c11 : Option V}
    (h : Li G0 p ds) (hd : Dr ds) (hb : 0 ≤ base) (I : TrI A G0 G Fr Fc Ft pr pc pt vss us css ts most i) (hr : r < most) (ho : o ≤ most) (hm : most ≤ 8) (hi : i < 100)
    (q : ∀ c11 G' Fr' Fc' Ft' vss' us' css' ts', TrI A G0 G' Fr' Fc' Ft' pr pc pt vss' us' css' ts' most (i + 1) → D.nx [some (.ref p), c2, c3, some (.int (most : Int)), some (.ref pr), some (.ref pc), c6, some (.ref pt), some (.int base), some (.int (r : Int)), some (.int (o : Int)), c11, none] G') :
    Es (t__law_triples_4 K A) D [some (.ref p), c2, c3, some (.int (most : Int)), some (.ref pr), some (.ref pc), c6, some (.ref pt), some (.int base), some (.int (r : Int)), some (.int (o : Int)), c11, none] G := by
  k_extra "e"
  refine ifd (fun hlt => ?_) (fun _ => ?_)
  · have ho2 : o < most := by omega
    obtain ⟨aq, tb, ra, ca, ft, rz, iu, tri, tl, t8⟩ := I
    have xc : Ex Fc G := aq.ex (by simp)
    obtain ⟨a, ha⟩ : ∃ c, css[r]? = some c := ⟨css[r]'(by rw [tri.cl]; exact hr), List.getElem?_eq_getElem _⟩
    obtain ⟨b, hb'⟩ : ∃ c, css[o]? = some c := ⟨css[o]'(by rw [tri.cl]; exact ho2), List.getElem?_eq_getElem _⟩
    have a8 := (tri.c8 r a ha).1
    have b8 := (tri.c8 o b hb').1
    obtain ⟨ys, la, k1, k2, k3, k4, k5, k6, k7⟩ := ca.at_ (cVs_get ha)
    obtain ⟨ys', lb, l1, l2, l3, _⟩ := ca.at_ (cVs_get hb')
    rw [k1] at l1; cases l1
    k_extra "e"
    refine ee_lcR1 ?_
    k_extra "e"
    refine ⟨by omega, fun pl hpl => ⟨fun j acc G' => Ex G G' ∧ G' pl = none ∧ acc = (nV (mx a b)).take j ∧ j ≤ 8, ⟨Ex.refl _, hpl, rfl, by omega⟩, ?_, ?_, ?_⟩⟩
    · rintro j acc G' ⟨h1, h2, rfl, h4⟩
      exact ⟨h2, szlt (by rw [List.length_take]; omega)⟩
    · rintro j acc G' hj ⟨h1, h2, rfl, h4⟩
      have ex := h1.trans (Ex.new (o := .lst ((nV (mx a b)).take j)) h2)
      refine ⟨rfl, et_yes ?_⟩
      refine iteT ?_
      dsimp only [L2.wipe, List.set_cons_zero, List.set_cons_succ]
      k_extra "e"
      refine er_ixL (SqL.of (ex _ _ (xc _ _ k1))) (atI_nat k2) ?_
      k_extra "e"
      refine er_ixL (SqL.of (ex _ _ (xc _ _ k3))) (atI_nat (nV_get (by omega))) ?_
      k_extra "e"
      refine er_ixL (SqL.of (ex _ _ (xc _ _ k1))) (atI_nat l2) ?_
      k_extra "e"
      refine er_ixL (SqL.of (ex _ _ (xc _ _ l3))) (atI_nat (nV_get (by omega))) ?_
      k_extra "e"
      rw [mx_max]
      refine ⟨upd_same, G', Ex.refl _, h1, h2, ?_, by omega⟩
      rw [List.take_add_one, nV_get (by simp [mx]; omega), mx_getD a8 b8]; rfl
    · rintro acc G' ⟨h1, h2, rfl, h4⟩
      rw [List.take_of_length_le (by simp [nV, mx])]
      have aq1 := aq.junk h1
      have aq2 := Aq.newM (L1 := [NT G0, Fr]) (L2 := [Ft]) (o := .lst (nV (mx a b))) aq1 h2 (fun ps z => by cases z)
      have hFl : Fc pl = none := (aq1.ex (F := Fc) (by simp)).nul h2
      have ca2 := k7 pl (nV (mx a b)) hFl
      have hpp : pc ≠ pl := fun z => by rw [z, hFl] at k1; cases k1
      have g2 : upd Fc pl (.lst (nV (mx a b))) pc = some (.lst ys) := by rw [upd_ne hpp]; exact k1
      have e2 := h1.trans (Ex.new (o := .lst (nV (mx a b))) h2)
      generalize upd G' pl (.lst (nV (mx a b))) = G2 at aq2 e2 ⊢
      generalize upd Fc pl (.lst (nV (mx a b))) = Fc2 at aq2 ca2 g2
      have xc2 : Ex Fc2 G2 := aq2.ex (by simp)
      refine eg_sub ?_
      k_extra "e"
      refine ez_L (xc2 _ _ g2) (ixN_at (by rw [k5]; unfold cVs; rw [List.length_map, tri.cl]; exact hr)) ?_
      have aq3 := Aq.mutM (L1 := [NT G0, Fr]) (L2 := [Ft]) (o := .lst (ys.set r (V.ref pl))) aq2 g2 (fun ps z => by cases z)
      have x3 : Tz G2 (upd G2 pc (.lst (ys.set r (V.ref pl)))) := Tz.mutL (xc2 _ _ g2)
      rw [← cVs_set] at ca2
      exact triples_deed h hd hb ⟨aq3, tabs_mut (tb.ext e2) (xc2 _ _ g2), ra, ca2, ft, rz.tz (e2.tz.trans x3), (e2.tz.trans x3).izs iu, tri_max tri ha hb', tl, t8⟩ hr hm hi q
  · k_extra "e"
    exact triples_deed h hd hb I hr hm hi q
theorem ok__law_triples {K : PySem.W.Frag} {A : Ad} : ∀ vs G Q E, S__law_triples K A vs G Q E → Es (t__law_triples K A) { nx := fun _ G' => Q .non G', rt := Q } (L2.start ["draws", "start", "steps", "most", "rows", "counts", "k", "triples", "base", "replica", "other", "deed", "j"] vs) G := by
  rintro vs G Q E ⟨p, ds, start, steps, most, rfl, h, hd, hs0, hst, hm1, hm8, T, q⟩
  change Es _ _ (_ :: _ :: _ :: _ :: _ :: _ :: _ :: _ :: _ :: _ :: _ :: _ :: _ :: []) _
  k_extra "e"
  refine ee_lcR1 ?_
  k_extra "e"
  refine ⟨by omega, fun pr hpr => ⟨fun i acc G' => ∃ F, NewL G G' acc (List.replicate i []) F ∧ G' pr = none ∧ acc.length = i ∧ i ≤ 8, ⟨_, NewL.start, hpr, rfl, by omega⟩, ?_, ?_, ?_⟩⟩
  · rintro i acc G' ⟨F, h1, h2, h3, h4⟩
    exact ⟨h2, szlt (by omega)⟩
  · rintro i acc G' hi ⟨F, h1, h2, h3, h4⟩
    refine ⟨rfl, et_yes ?_⟩
    refine iteT ?_
    dsimp only [L2.wipe, List.set_cons_zero, List.set_cons_succ]
    k_extra "e"
    refine ⟨sz1000 (by simp), fun r hr => ?_⟩
    have hrp : r ≠ pr := nul_updN hr
    have hr0 : G' r = none := nul_upd hr
    refine ⟨by rw [upd_ne (Ne.symm hrp), upd_same], upd G' r (.lst []), by rw [upd_comm hrp]; exact Ex.refl _, upd F r (.lst []), ?_, nul_ne h2 (Ne.symm hrp), by rw [List.length_append, h3]; rfl, by omega⟩
    rw [List.replicate_succ']
    exact h1.snoc hr0
  · rintro acc G' ⟨F, h1, h2, h3, h4⟩
    obtain ⟨n, ra⟩ := h1.done h2
    change RowsAt _ _ (List.replicate 8 []) at ra
    have n' : NewP (NT G) (upd F pr (.lst acc)) (upd G' pr (.lst acc)) := ⟨NT.ex.trans n.ex, n.exF, fun b o e => NT.ex.nul (n.new b o e), n.nt⟩
    have aq0 : Aq [NT G, upd F pr (.lst acc)] (upd G' pr (.lst acc)) := (Aq.newP (L := [NT G]) Aq.nt0 n).perm (List.Perm.swap _ _ _)
    have ex0 := n.ex
    generalize upd F pr (.lst acc) = Fr at aq0 ra
    generalize upd G' pr (.lst acc) = G1 at aq0 ex0 ⊢
    k_extra "e"
    k_extra "e"
    refine ⟨sz1000 (by simp), fun pc hpc => ?_⟩
    have aq1 : Aq [NT G, Fr, one pc (.lst [])] (upd G1 pc (.lst [])) := (aq0.add hpc (fun ps z => by cases z)).perm (List.perm_append_comm (l₁ := [NT G, Fr]) (l₂ := [one pc (.lst [])]))
    have ra1 : RowsAt (one pc (.lst [])) pc (cVs (List.replicate 0 (List.replicate 8 0))) := ⟨[], one_at, rfl, fun k r vs h => by simp at h, List.nodup_nil, by simp⟩
    have ex1 := ex0.trans (Ex.new (o := .lst []) hpc)
    k_extra "e"
    k_extra "e"
    refine es_forR1 ?_
    k_extra "e"
    refine ⟨by omega, fun k σ G' => ∃ c6 Fc, σ = [some (.ref p), some (.int start), some (.int (steps : Int)), some (.int (most : Int)), some (.ref pr), some (.ref pc), c6, none, none, none, none, none, none] ∧ Aq [NT G, Fr, Fc] G' ∧ LamX.Tabs (Tb A) G' ∧ RowsAt Fc pc (cVs (List.replicate k (List.replicate 8 0))), ⟨_, _, rfl, aq1, T.ext ex1, ra1⟩, ?_, ?_⟩
    · rintro k σ G' hk ⟨c6, Fc, rfl, x1, x2, x3⟩
      obtain ⟨xs, y1, y2, y3⟩ := x3.app
      have xc : Ex Fc G' := x1.ex (by simp)
      k_extra "e"
      refine ee_bm ?_
      k_extra "e"
      refine ⟨ty_lst (xc _ _ y1), ?_⟩
      k_extra "e"
      refine ee_lcR1 ?_
      k_extra "e"
      refine ⟨by omega, fun pl hpl => ⟨fun j acc G2 => Ex G' G2 ∧ G2 pl = none ∧ acc = List.replicate j (.int 0) ∧ j ≤ 8, ⟨Ex.refl _, hpl, rfl, by omega⟩, ?_, ?_, ?_⟩⟩
      · rintro j acc G2 ⟨h1, h2, rfl, h4⟩
        exact ⟨h2, szlt (by rw [List.length_replicate]; omega)⟩
      · rintro j acc G2 hj ⟨h1, h2, rfl, h4⟩
        refine ⟨rfl, et_yes ?_⟩
        refine iteT ?_
        k_extra "e"
        refine ⟨upd_same, G2, Ex.refl _, h1, h2, ?_, by omega⟩
        rw [List.replicate_succ']
      · rintro acc G2 ⟨h1, h2, rfl, h4⟩
        have aq2 := Aq.newM (L1 := [NT G, Fr]) (L2 := []) (o := .lst (List.replicate (8 : Int).toNat (V.int 0))) (x1.junk h1) h2 (fun ps z => by cases z)
        have hFl : Fc pl = none := (xc.trans h1).nul h2
        have ra3 := y3 pl (List.replicate (8 : Int).toNat (V.int 0)) hFl
        have hpp : pc ≠ pl := fun z => by rw [z, hFl] at y1; cases y1
        have g2 : upd Fc pl (.lst (List.replicate (8 : Int).toNat (V.int 0))) pc = some (.lst xs) := by rw [upd_ne hpp]; exact y1
        have e2 := h1.trans (Ex.new (o := .lst (List.replicate (8 : Int).toNat (V.int 0))) h2)
        have xc2 : Ex _ _ := aq2.ex (F := upd Fc pl (.lst (List.replicate (8 : Int).toNat (V.int 0)))) (by simp)
        k_extra "e"
        refine em_append (xc2 _ _ g2) (szlt (by rw [y2]; unfold cVs; rw [List.length_map, List.length_replicate]; omega)) ?_
        have aq3 := Aq.mutM (L1 := [NT G, Fr]) (L2 := []) (o := .lst (xs ++ [V.ref pl])) aq2 g2 (fun ps z => by cases z)
        refine ⟨_, _, rfl, aq3, tabs_mut (x2.ext e2) (xc2 _ _ g2), ?_⟩
        have : cVs (List.replicate (k + 1) (List.replicate 8 0)) = cVs (List.replicate k (List.replicate 8 0)) ++ [List.replicate (8 : Int).toNat (V.int 0)] := by
          rw [List.replicate_succ']; unfold cVs; rw [List.map_append]; rfl
        rw [this]; exact ra3
    · rintro σ G' ⟨c6, Fc, rfl, x1, x2, x3⟩
      k_extra "e"
      refine ⟨sz1000 (by simp), fun pt hpt => ?_⟩
      have aq3 : Aq [NT G, Fr, Fc, one pt (.lst [])] (upd G' pt (.lst [])) := (x1.add hpt (fun ps z => by cases z)).perm (List.perm_append_comm (l₁ := [NT G, Fr, Fc]) (l₂ := [one pt (.lst [])]))
      have ex3 := Ex.new (o := .lst []) hpt
      k_extra "e"
      k_extra "e"
      refine es_forR1 ?_
      k_extra "e"
      refine ⟨by omega, fun k σ G' => ∃ c6 c8 c9 c10 c11 Fr Fc Ft vss us css ts, σ = [some (.ref p), some (.int start), some (.int (steps : Int)), some (.int (most : Int)), some (.ref pr), some (.ref pc), c6, some (.ref pt), c8, c9, c10, c11, none] ∧ TrI A G G' Fr Fc Ft pr pc pt vss us css ts most k,
        ⟨_, _, _, _, _, Fr, Fc, _, _, [], _, [], rfl, aq3, x2.ext ex3, ra, by rw [Int.toNat_natCast] at x3; exact x3, one_at, rz_nil, .nil, tri_zero, rfl, fun x hx => by cases hx⟩, ?_, ?_⟩
      · rintro k σ G2 hk ⟨c6, c8, c9, c10, c11, Fr, Fc, Ft, vss, us, css, ts, rfl, I⟩
        have hp0 : Li G2 p ds := (I.aq.mu I.tb).li h
        k_extra "e"
        refine er_mulL (by omega) ?_
        k_extra "e"
        k_extra "e"
        refine at_call hp0 hd (by omega) fun x hx => ?_
        k_extra "e"
        refine er_mod (by omega) ?_
        k_extra "e"
        k_extra "e"
        refine at_call hp0 hd (by omega) fun y hy => ?_
        k_extra "e"
        refine er_mod (by omega) ?_
        have hm0 : 0 ≤ x % (most : Int) := Int.emod_nonneg _ (by omega)
        have hm1 : x % (most : Int) < most := Int.emod_lt_of_pos _ (by omega)
        obtain ⟨r, hr⟩ := Int.eq_ofNat_of_zero_le hm0
        have ho0 : 0 ≤ y % ((most : Int) + 1) := Int.emod_nonneg _ (by omega)
        have ho1 : y % ((most : Int) + 1) < most + 1 := Int.emod_lt_of_pos _ (by omega)
        obtain ⟨o, ho⟩ := Int.eq_ofNat_of_zero_le ho0
        rw [hr, ho]
        k_extra "e"
        refine triples_turn h hd (by omega) I (by omega) (by omega) hm8 (by omega) fun c11 G3 Fr' Fc' Ft' vss' us' css' ts' I' => ?_
        exact ⟨_, _, _, _, _, _, _, _, _, _, _, _, rfl, I'⟩
      · rintro σ G2 ⟨c6, c8, c9, c10, c11, Fr, Fc, Ft, vss, us, css, ts, rfl, I⟩
        rw [Int.toNat_natCast] at I
        k_extra "e"
        exact q pt us ts G2 (I.aq.mu I.tb) (I.aq.ex (F := Ft) (by simp) _ _ I.ft) I.iu ⟨by rw [I.tl]; exact Nat.le_refl _, I.t8, tri_whole I.tri hst, I.tri.sm⟩
end Lw

namespace Lw
open PySem PySem.Spec PyProof.Rows L2
local macro_rules | `(tactic| k_extra "x1") => `(tactic| first
  | with_reducible refine es_seq ?_
  | with_reducible refine es_asg ?_
  | with_reducible refine es_if ?_
  | with_reducible refine es_ret ?_
  | with_reducible refine es_drop ?_
  | with_reducible refine es_next ?_
  | with_reducible refine es_augS ?_
  | with_reducible refine es_fld ?_
  | ((with_reducible show Ee (tVar _) _ _ _); refine ee_var rfl ?_)
  | with_reducible refine ee_c ?_
  | with_reducible refine ee_op ?_
  | with_reducible refine ee_un ?_
  | with_reducible refine eu_neg ?_
  | with_reducible refine ee_cb ?_
  | with_reducible refine ee_call ?_
  | with_reducible refine ea_nil ?_
  | with_reducible refine ea_cons ?_
  | with_reducible refine ee_sl ?_
  | with_reducible refine eo_no ?_
  | with_reducible refine eo_part ?_
  | with_reducible refine ee_tup ?_
  | with_reducible refine ee_lst ?_
  | with_reducible refine et_test ?_
  | with_reducible refine et_tB ?_
  | with_reducible refine et_tru ?_
  | with_reducible refine et_and ?_
  | with_reducible refine et_or ?_
  | with_reducible refine et_not ?_
  | with_reducible refine ee_and ?_
  | with_reducible refine ee_or ?_
  | with_reducible refine ee_not ?_
  | with_reducible refine ee_if ?_
  | with_reducible refine ee_chain ?_
  | with_reducible refine er_addI ?_
  | with_reducible refine er_subI ?_
  | with_reducible refine er_eqI ?_
  | with_reducible refine er_neI ?_
  | with_reducible refine er_eqNI ?_
  | with_reducible refine er_eqS ?_
  | with_reducible refine er_neS ?_
  | with_reducible refine er_eqB ?_
  | with_reducible refine er_neB ?_
  | with_reducible refine er_lt ?_
  | with_reducible refine er_le ?_
  | with_reducible refine er_gt ?_
  | with_reducible refine er_ge ?_
  | with_reducible refine er_isN_non ?_
  | with_reducible refine er_isN_bl ?_
  | with_reducible refine er_isN_int ?_
  | with_reducible refine er_isN_str ?_
  | with_reducible refine er_isN_ref ?_
  | with_reducible refine er_notN_non ?_
  | with_reducible refine er_notN_bl ?_
  | with_reducible refine er_notN_int ?_
  | with_reducible refine er_notN_str ?_
  | with_reducible refine er_notN_ref ?_
  | with_reducible refine er_isN ?_
  | with_reducible refine er_notN ?_
  | with_reducible refine ec_int ?_
  | with_reducible refine ec_intB ?_
  | with_reducible refine ec_max2 ?_
  | with_reducible refine ec_min2 ?_
  | with_reducible refine ip_I ?_
  | ((with_reducible refine eg_name ?_); (try dsimp only [L2.wipe, List.set_cons_zero, List.set_cons_succ]))
  | with_reducible refine eg_sub ?_
  | with_reducible refine egs_cons ?_
  | with_reducible refine egs_nil ?_
  | with_reducible refine tru_bl ?_
  | with_reducible refine tru_int ?_
  | with_reducible refine tru_non ?_
  | with_reducible refine iteT ?_
  | with_reducible refine iteF ?_
  | with_reducible refine ite_nt ?_
  | with_reducible refine ite_nf ?_
  | with_reducible refine ⟨_, rfl, ?_⟩)
local macro_rules | `(tactic| k_extra "s") => `(tactic| ((first | k_extra "x1" | ((with_reducible refine es_unf ?_); refine es_seq ?_)); (repeat k_extra "x1")))
local macro_rules | `(tactic| k_extra "x") => `(tactic| (repeat first | k_extra "x1" | ((with_reducible refine es_unf ?_); refine es_seq ?_)))
local macro_rules | `(tactic| k_extra "start") => `(tactic| dsimp only [L2.start, List.map_cons, List.map_nil, List.length_cons, List.length_nil, Nat.reduceAdd, Nat.reduceSub, List.replicate, List.cons_append, List.nil_append, Nat.zero_add])
local macro_rules | `(tactic| k_extra "e1") => `(tactic| first
  | with_reducible refine es_next ?_
  | ((with_reducible show Ee (tVar _) _ _ _); refine ee_var rfl ?_)
  | with_reducible refine ee_c ?_
  | with_reducible refine ee_op ?_
  | with_reducible refine ee_un ?_
  | with_reducible refine eu_neg ?_
  | with_reducible refine ee_cb ?_
  | with_reducible refine ee_call ?_
  | with_reducible refine ea_nil ?_
  | with_reducible refine ea_cons ?_
  | with_reducible refine ee_sl ?_
  | with_reducible refine eo_no ?_
  | with_reducible refine eo_part ?_
  | with_reducible refine ee_tup ?_
  | with_reducible refine ee_lst ?_
  | with_reducible refine et_test ?_
  | with_reducible refine et_tB ?_
  | with_reducible refine et_tru ?_
  | with_reducible refine et_and ?_
  | with_reducible refine et_or ?_
  | with_reducible refine et_not ?_
  | with_reducible refine ee_and ?_
  | with_reducible refine ee_or ?_
  | with_reducible refine ee_not ?_
  | with_reducible refine ee_if ?_
  | with_reducible refine ee_chain ?_
  | with_reducible refine er_addI ?_
  | with_reducible refine er_subI ?_
  | with_reducible refine er_eqI ?_
  | with_reducible refine er_neI ?_
  | with_reducible refine er_eqNI ?_
  | with_reducible refine er_eqS ?_
  | with_reducible refine er_neS ?_
  | with_reducible refine er_eqB ?_
  | with_reducible refine er_neB ?_
  | with_reducible refine er_lt ?_
  | with_reducible refine er_le ?_
  | with_reducible refine er_gt ?_
  | with_reducible refine er_ge ?_
  | with_reducible refine er_isN_non ?_
  | with_reducible refine er_isN_bl ?_
  | with_reducible refine er_isN_int ?_
  | with_reducible refine er_isN_str ?_
  | with_reducible refine er_isN_ref ?_
  | with_reducible refine er_notN_non ?_
  | with_reducible refine er_notN_bl ?_
  | with_reducible refine er_notN_int ?_
  | with_reducible refine er_notN_str ?_
  | with_reducible refine er_notN_ref ?_
  | with_reducible refine er_isN ?_
  | with_reducible refine er_notN ?_
  | with_reducible refine ec_int ?_
  | with_reducible refine ec_intB ?_
  | with_reducible refine ec_max2 ?_
  | with_reducible refine ec_min2 ?_
  | with_reducible refine ip_I ?_
  | ((with_reducible refine eg_name ?_); (try dsimp only [L2.wipe, List.set_cons_zero, List.set_cons_succ]))
  | with_reducible refine eg_sub ?_
  | with_reducible refine egs_cons ?_
  | with_reducible refine egs_nil ?_
  | with_reducible refine tru_bl ?_
  | with_reducible refine tru_int ?_
  | with_reducible refine tru_non ?_
  | with_reducible refine iteT ?_
  | with_reducible refine iteF ?_
  | with_reducible refine ite_nt ?_
  | with_reducible refine ite_nf ?_
  | with_reducible refine ex_bl ?_
  | with_reducible refine ex_int ?_
  | with_reducible refine ex_str ?_
  | with_reducible refine ex_strx ?_
  | with_reducible refine ex_ints1 ?_
  | with_reducible refine ex_ints2 ?_)
local macro_rules | `(tactic| k_extra "t1") => `(tactic| first
  | with_reducible refine es_asg ?_
  | with_reducible refine es_if ?_
  | with_reducible refine es_ret ?_
  | with_reducible refine es_drop ?_
  | with_reducible refine es_augS ?_
  | with_reducible refine es_fld ?_)
local macro_rules | `(tactic| k_extra "e") => `(tactic| first
  | ((with_reducible refine es_seq ?_); (try k_extra "t1"); (repeat k_extra "e1"))
  | (k_extra "t1"; (repeat k_extra "e1"))
  | (k_extra "e1"; (repeat k_extra "e1"))
  | ((with_reducible refine es_unf ?_); (refine es_seq ?_); (try k_extra "t1"); (repeat k_extra "e1")))
/-! ### _law_is_forced -/
theorem ee_lcR2 {σ : L2.St} {G : Hp} {ta : TA} {j : Nat} {tt : TT} {te : TE} {vs : List Nat} {Q : V → Hp → Prop}
    (h : Ea ta σ G fun us G1 => ∃ lo n : Int, us = [.int lo, .int n] ∧ (-(2 ^ 62) ≤ lo ∧ lo < 2 ^ 62 ∧ -(2 ^ 62) ≤ n ∧ n < 2 ^ 62) ∧ ∀ p, G1 p = none → ∃ Pv : Nat → List V → Hp → Prop, Pv 0 [] G1 ∧ (∀ i acc G, Pv i acc G → G p = none ∧ acc.length < sizeLine) ∧
      (∀ (i : Nat) acc G, lo + (i : Int) < n → Pv i acc G → wipe ((wipe σ vs).set j (some (.int (lo + (i : Int))))) vs = wipe σ vs ∧ Et tt ((wipe σ vs).set j (some (.int (lo + (i : Int))))) (upd G p (.lst acc)) fun b G3 =>
        if b = true then Ee te ((wipe σ vs).set j (some (.int (lo + (i : Int))))) G3 fun y G4 => G4 p = some (.lst acc) ∧ ∃ G5, Ex (upd G5 p (.lst acc)) G4 ∧ Pv (i + 1) (acc ++ [y]) G5 else G3 p = some (.lst acc) ∧ ∃ G5, Ex (upd G5 p (.lst acc)) G3 ∧ Pv (i + 1) acc G5) ∧
      (∀ acc G, Pv (n - lo).toNat acc G → Q (.ref p) (upd G p (.lst acc)))) : Ee (tLc (iRng2 ta) (gName j) tt te vs) σ G Q := by
  refine ee_lc (ei_r2 fun H Q' e l => h H _ e fun us G1 H1 e1 ⟨lo, n, h1, h2, hh⟩ => l _ G1 H1 e1 ⟨lo, n, h1, h2, _, _, _, wk_range, fun G p o hg hn => trivial, fun p hp => ?_⟩)
  obtain ⟨Pv, h4, h5, h6, h7⟩ := hh p hp
  refine ⟨Pv, h4, fun i acc G _ p => ⟨(h5 i acc G p).1, (h5 i acc G p).2, trivial⟩, fun i acc x G G' hi p y => ?_, h7⟩
  obtain ⟨rfl, y⟩ := y
  have : x = .int (lo + (i : Int)) := (Option.some.inj y).symm
  subst this
  exact eg_name (h6 i acc G (by omega) p)
theorem dps_idx {K : PySem.W.Frag} {G : Hp} : ∀ {xs : List V} {ds : List PyData}, xs.length = ds.length → (∀ (i : Nat) (x : V) (d : PyData), xs[i]? = some x → ds[i]? = some d → Dp K G x d) → DpAll K G xs ds
  | [], [], _, _ => .nil
  | x :: xs, d :: ds, hl, h => .cons (h 0 x d rfl rfl) (dps_idx (by simpa using hl) fun i y e hy he => h (i + 1) y e (by simpa using hy) (by simpa using he))
  | [], _ :: _, hl, _ => by simp at hl
  | _ :: _, [], hl, _ => by simp at hl
def rwsD (rows : List (List De)) : PyData := .list (rows.map fun row => .list (row.map deD))
theorem rows_dp {K : PySem.W.Frag} {G : Hp} {p : Addr} {vss : List (List V)} {rows : List (List De)} (h : RowsAt G p vss) (z : Rz G vss rows) : Dp K G (.ref p) (rwsD rows) := by
  obtain ⟨refs, h1, h2, h3, h4, h5⟩ := h
  refine .lst (SqL.of h1) (dps_idx (by rw [List.length_map, List.length_map, h2, z.1]) fun i x d hx hd => ?_)
  rw [List.getElem?_map] at hx hd
  obtain ⟨r, hr, rfl⟩ := Option.map_eq_some_iff.mp hx
  obtain ⟨row, hrow, rfl⟩ := Option.map_eq_some_iff.mp hd
  have hi : i < vss.length := by rw [← h2]; exact (List.getElem?_eq_some_iff.mp hr).1
  have hv := List.getElem?_eq_getElem hi
  exact .lst (SqL.of (h3 i r _ hr hv)) (z.2 i _ _ hv hrow).dps
theorem depAll_le {ds : List PyData} {n : Nat} (h : ∀ d ∈ ds, d.depth ≤ n) : PyData.depthAll ds ≤ n := by
  induction ds with
  | nil => simp [PyData.depthAll]
  | cons d r ih => rw [PyData.depthAll]; have := h d List.mem_cons_self; have := ih fun x hx => h x (List.mem_cons_of_mem _ hx); omega
theorem dep_rwsD (rows : List (List De)) : (rwsD rows).depth < 8 := by
  unfold rwsD
  rw [PyData.depth]
  have : PyData.depthAll (rows.map fun row => PyData.list (row.map deD)) ≤ 4 := depAll_le fun d hd => by
    obtain ⟨row, _, rfl⟩ := List.mem_map.mp hd
    rw [PyData.depth]
    have : PyData.depthAll (row.map deD) ≤ 3 := depAll_le fun d hd => by
      obtain ⟨x, _, rfl⟩ := List.mem_map.mp hd
      exact dep_deD x
    omega
  omega
def cntD (rows : List (List De)) : List PyData := rows.map fun row => .int (row.length : Int)
theorem lens_dp {K : PySem.W.Frag} {G : Hp} {vss : List (List V)} {rows : List (List De)} (z : Rz G vss rows) {H : Hp} : DpAll K H (lens vss) (cntD rows) := by
  unfold lens cntD
  refine dps_idx (by rw [List.length_map, List.length_map, z.1]) fun i x d hx hd => ?_
  rw [List.getElem?_map] at hx hd
  obtain ⟨vs, hv, rfl⟩ := Option.map_eq_some_iff.mp hx
  obtain ⟨row, hrow, rfl⟩ := Option.map_eq_some_iff.mp hd
  have := izs_len (z.2 i _ _ hv hrow)
  rw [List.length_map] at this
  rw [this]; exact .int _
theorem dep_cnt (rows : List (List De)) : (PyData.list (cntD rows)).depth < 8 := by
  rw [PyData.depth]
  have : PyData.depthAll (cntD rows) ≤ 0 := depAll_le fun d hd => by
    obtain ⟨x, _, rfl⟩ := List.mem_map.mp hd
    simp [PyData.depth]
  omega
theorem dep_bls (bs : List Bool) : (PyData.list (bs.map PyData.bool)).depth < 8 := by
  rw [PyData.depth]
  have : PyData.depthAll (bs.map PyData.bool) ≤ 0 := depAll_le fun d hd => by
    obtain ⟨x, _, rfl⟩ := List.mem_map.mp hd
    simp [PyData.depth]
  omega
theorem dep_rowD (x : Mk × Nat × Bool) : (rowD x).depth ≤ 2 := by simp [rowD, mP, PyData.depth, PyData.depthAll]
theorem dep_rows (xs : List (Mk × Nat × Bool)) : (PyData.list (xs.map rowD)).depth < 8 := by
  rw [PyData.depth]
  have : PyData.depthAll (xs.map rowD) ≤ 2 := depAll_le fun d hd => by
    obtain ⟨x, _, rfl⟩ := List.mem_map.mp hd
    exact dep_rowD x
  omega
theorem frc_later {row : List De} {i : Nat} (h : i < row.length) : (frc row 1)[i]? = some (!taken ((frc row 1).drop (i + 1)) (row.drop (i + 1)) (1 + (i : Int))) := by
  have e := frc_at (List.getElem?_eq_getElem h)
  rw [frc_drop row 1 i, frc_drop row 1 (i + 1)] at e
  have := congrArg (fun l => l[0]?) e
  simpa using this
theorem dp_ex {K : PySem.W.Frag} {G G' : Hp} {v : V} {d : PyData} (e : Ex G G') (h : Dp K G v d) : Dp K G' v d := e.dp h
def S__law_is_forced (K : PySem.W.Frag) (A : Ad) : Pm := fun vs G Q _ => ∃ (pr a : Addr) (vss vss2 : List (List V)) (rows : List (List De)) (B : Int), vs = [.ref pr, .ref a] ∧ RowsAt G pr vss ∧ Rz G vss rows ∧ DsAt A G a vss2 ∧ Rz G vss2 rows ∧ Wf B rows ∧ B ≤ 10000000000000000 ∧ LamX.Tabs (Tb A) G ∧ ∀ G', MU A G G' → Q (.bl true) G'
/-! _law_is_forced -/
def t__law_is_forced_1 (K : PySem.W.Frag) (A : Ad) : TS := tSeq (tAsg (tLc (iRng2 (tCons (tVar 5) (tCons (tCB (rLenU K) (tCons (tVar 3) tNil)) tNil))) (gName 8) (tAnd (tTru K (tOp (rIx K) (tVar 3) (tVar 8))) (tTest (tOp (rEqU K) (tOp (rIx K) (tOp (rIx K) (tVar 0) (tVar 2)) (tVar 8)) (tTup (tCons (tC (.str "back")) (tCons (tVar 5) tNil)))))) (tVar 8) [8]) (gName 6)) (tIfS (tTest (tOp (rNeU K) (tOp (rIx K) (tVar 3) (tOp (rSubI) (tVar 5) (tC (.int 1)))) (tOp (rEqU K) (tCB (rLenU K) (tCons (tVar 6) tNil)) (tC (.int 0))))) (tRet (tC (.bl false))) tNext)
def t__law_is_forced_2 (K : PySem.W.Frag) (A : Ad) : TS := tSeq (tIfS (tNot (tTru K (tCall (up (S__law_same K A)) [] E0 (tCons (tMeth A.cDeeds "row" (up (S_Deeds_row K A)) [] E0 (tVar 1) (tCons (tVar 4) tNil)) (tCons (tCall (up (S__law_row K A)) [] E0 (tCons (tVar 0) (tCons (tVar 4) tNil))) tNil))))) (tRet (tC (.bl false))) tNext) (tFor (iRng2 (tCons (tC (.int 1)) (tCons (tOp (rAddU K) (tCB (rLenU K) (tCons (tVar 3) tNil)) (tC (.int 1))) tNil))) (gName 5) (t__law_is_forced_1 K A))
def t__law_is_forced_3 (K : PySem.W.Frag) (A : Ad) : TS := tSeq (tDrop (tBM K "list" (rAppend) (tMeth A.cDeeds "row" (up (S_Deeds_row K A)) [] E0 (tVar 1) (tCons (tVar 4) tNil)) (tCons (tC .non) tNil))) (t__law_is_forced_2 K A)
def t__law_is_forced_4 (K : PySem.W.Frag) (A : Ad) : TS := tSeq (tAsg (tOp (rIx K) (tCall (up (S__law_modules K A)) [] E0 tNil) (tOp (rModU) (tVar 2) (tC (.int 4)))) (gName 4)) (t__law_is_forced_3 K A)
def t__law_is_forced_5 (K : PySem.W.Frag) (A : Ad) : TS := tSeq (tIfS (tNot (tTru K (tCall (up (S__law_same K A)) [] E0 (tCons (tVar 3) (tCons (tCall (up (S__law_forces K A)) [] E0 (tCons (tOp (rIx K) (tVar 0) (tVar 2)) tNil)) tNil))))) (tRet (tC (.bl false))) tNext) (t__law_is_forced_4 K A)
def t__law_is_forced_6 (K : PySem.W.Frag) (A : Ad) : TS := tSeq (tAsg (tLc (iRng2 (tCons (tC (.int 1)) (tCons (tOp (rAddU K) (tCB (rLenU K) (tCons (tOp (rIx K) (tVar 0) (tVar 2)) tNil)) (tC (.int 1))) tNil))) (gName 5) tYes (tMeth A.cDeeds "in_force" (up (S_Deeds_in_force K A)) [] E0 (tVar 1) (tCons (tVar 2) (tCons (tVar 5) tNil))) [5]) (gName 3)) (t__law_is_forced_5 K A)
def t__law_is_forced_7 (K : PySem.W.Frag) (A : Ad) : TS := tSeq (tFor (iRng1 (tCons (tC (.int 8)) tNil)) (gName 2) (t__law_is_forced_6 K A)) (tRet (tC (.bl true)))
def t__law_is_forced (K : PySem.W.Frag) (A : Ad) : TS := tSeq (tIfS (tOr (tNot (tTru K (tCall (up (S__law_same K A)) [] E0 (tCons (tFld K (tVar 1) "rows") (tCons (tVar 0) tNil))))) (tNot (tTru K (tCall (up (S__law_same K A)) [] E0 (tCons (tMeth A.cDeeds "counts" (up (S_Deeds_counts K A)) [] E0 (tVar 1) tNil) (tCons (tLc (iList K (tVar 0)) (gName 7) tYes (tCB (rLenU K) (tCons (tVar 7) tNil)) [7]) tNil)))))) (tRet (tC (.bl false))) tNext) (t__law_is_forced_7 K A)
theorem len__law_is_forced {K : PySem.W.Frag} {A : Ad} : ∀ vs G Q E, S__law_is_forced K A vs G Q E → vs.length = ["rows", "deeds"].length := by
  rintro vs G Q E ⟨pr, a, vss, vss2, rows, B, rfl, _⟩; rfl
theorem ok__law_is_forced {K : PySem.W.Frag} {A : Ad} (C : Cf K A) : ∀ vs G Q E, S__law_is_forced K A vs G Q E → Es (t__law_is_forced K A) { nx := fun _ G' => Q .non G', rt := Q } (L2.start ["rows", "deeds", "replica", "told", "module", "place", "later", "row", "k"] vs) G := by
  rintro vs G Q E ⟨pr, a, vss, vss2, rows, B, rfl, hra, hz, hD, hz2, w, hB, T, q⟩
  have hD' := hD
  obtain ⟨dx, pr2, ha, hra2⟩ := hD'
  change Es _ _ (_ :: _ :: _ :: _ :: _ :: _ :: _ :: _ :: _ :: []) _
  k_extra "e"
  refine ee_fld ?_
  k_extra "e"
  refine ⟨a, A.cDeeds, dx, _, _, rfl, ha, C.cl, C.n1, rfl, ?_⟩
  k_extra "e"
  refine same_call (rows_dp hra2 hz2) (rows_dp hra hz) (dep_rwsD rows) fun G1 e1 => ?_
  refine ⟨true, rfl, ?_⟩
  refine nt_true ?_
  k_extra "e"
  refine ee_meth ?_
  k_extra "e"
  refine ⟨a, dx, _, rfl, e1 _ _ ha, rfl, ?_⟩
  k_extra "e"
  refine ⟨a, vss2, rfl, hD.ex e1, by rw [hz2.1, w.len]; omega, fun pc G2 e2 _ hpc => ?_⟩
  k_extra "e"
  refine ee_lcL ?_
  k_extra "e"
  have e3 := e1.trans e2
  have hraS := hra
  obtain ⟨refs, r1, r2, r3, r4, r5⟩ := hraS
  refine ⟨pr, _, rfl, SqL.of (e3 _ _ r1), fun pl hpl => ⟨fun i acc G' => Ex G2 G' ∧ G' pl = none ∧ acc = (lens vss).take i ∧ i ≤ vss.length, ⟨Ex.refl _, hpl, rfl, Nat.zero_le _⟩, ?_, ?_, ?_⟩⟩
  · rintro i acc G' ⟨x1, x2, rfl, x4⟩
    exact ⟨x2, by rw [List.length_take]; have := hz.1; have := w.len; exact szlt (by omega), SqL.of (x1 _ _ (e3 _ _ r1))⟩
  · rintro i acc x G' hx ⟨x1, x2, rfl, x4⟩
    obtain ⟨r, hr, rfl⟩ := Option.map_eq_some_iff.mp (by rw [← List.getElem?_map]; exact hx)
    have hi : i < vss.length := by rw [← r2]; exact (List.getElem?_eq_some_iff.mp hr).1
    have g := r3 i r _ hr (List.getElem?_eq_getElem hi)
    k_extra "e"
    refine ⟨rfl, et_yes ?_⟩
    refine iteT ?_
    k_extra "e"
    refine ec_lenL (SqL.of ((x1.trans (Ex.new x2)) _ _ (e3 _ _ g))) fun _ => ?_
    refine ⟨upd_same, G', Ex.refl _, x1, x2, ?_, by omega⟩
    rw [List.take_add_one, show (lens vss)[i]? = some (.int (vss[i].length : Nat)) by unfold lens; rw [List.getElem?_map, List.getElem?_eq_getElem hi]; rfl]; rfl
  rintro acc G3 ⟨x1, x2, rfl, x4⟩
  rw [List.take_of_length_le (by unfold lens; rw [List.length_map, List.length_map]; omega)]
  have e4 := x1.trans (Ex.new (o := .lst (lens vss)) x2)
  have gl : upd G3 pl (.lst (lens vss)) pl = some (.lst (lens vss)) := upd_same
  generalize upd G3 pl (.lst (lens vss)) = G4 at e4 gl ⊢
  have u4 : MU A G G4 := (e3.trans e4).upm
  k_extra "e"
  refine same_call (.lst (SqL.of (e4 _ _ hpc)) (lens_dp hz2)) (.lst (SqL.of gl) (lens_dp hz)) (dep_cnt rows) fun G5 e5 => ?_
  have u5 := u4.trans e5.upm
  refine ⟨true, rfl, ?_⟩
  refine nt_true ?_
  k_extra "e"
  k_extra "e"
  refine es_forR1 ?_
  k_extra "e"
  refine ⟨by omega, fun k σ G' => ∃ c2 c3 c4 c5 c6, σ = [some (.ref pr), some (.ref a), c2, c3, c4, c5, c6, none, none] ∧ MU A G G', ⟨_, _, _, _, _, rfl, u5⟩, ?_, ?_⟩
  · rintro k σ G6 hk ⟨c2, c3, c4, c5, c6, rfl, u6⟩
    obtain ⟨row, hrow, hlen, hok⟩ := w.row (k := k) (by omega)
    obtain ⟨xs, r, gp, gx, ⟨rvs, hr, hI⟩, _⟩ := hra.get hz hrow
    have hl : rvs.length = row.length := by have := izs_len hI; rwa [List.length_map] at this
    have lf := frc_len row 1
    k_extra "e"
    refine ee_lcR2 ?_
    k_extra "e"
    refine er_ixL (SqL.of (u6.lst gp)) (atI_nat gx) ?_
    k_extra "e"
    refine ec_lenL (SqL.of (u6.lst hr)) fun _ => ?_
    rw [hl]
    k_extra "e"
    refine ⟨by omega, fun pt hpt => ⟨fun i acc G' => Ex G6 G' ∧ G' pt = none ∧ acc = ((frc row 1).map V.bl).take i ∧ i ≤ row.length, ⟨Ex.refl _, hpt, rfl, Nat.zero_le _⟩, ?_, ?_, ?_⟩⟩
    · rintro i acc G' ⟨x1, x2, rfl, x4⟩
      exact ⟨x2, by rw [List.length_take]; exact szlt (by omega)⟩
    · rintro i acc G' hi ⟨x1, x2, rfl, x4⟩
      have hi2 : i < row.length := by omega
      have ub := u6.trans (x1.trans (Ex.new (o := .lst (((frc row 1).map V.bl).take i)) x2)).upm
      have hfi := List.getElem?_eq_getElem (show i < (frc row 1).length by omega)
      refine ⟨rfl, et_yes ?_⟩
      refine iteT ?_
      dsimp only [L2.wipe, List.set_cons_zero, List.set_cons_succ]
      refine ee_meth ?_
      k_extra "e"
      refine ⟨a, dx, _, rfl, ub.ins ha, rfl, ?_⟩
      k_extra "e"
      refine ⟨a, vss2, rows, k, row, i, _, by rw [Int.add_comm]; rfl, hD.up ub, hz2.tz ub.tz, hrow, by omega, hfi, fun G7 e7 => ?_⟩
      refine ⟨e7 _ _ upd_same, G', e7, x1, x2, ?_, by omega⟩
      rw [List.take_add_one, List.getElem?_map, hfi]; rfl
    rintro acc G7 ⟨x1, x2, rfl, x4⟩
    rw [List.take_of_length_le (by rw [List.length_map, lf]; omega)]
    have ub := u6.trans (x1.trans (Ex.new (o := .lst ((frc row 1).map V.bl)) x2)).upm
    have gt : upd G7 pt (.lst ((frc row 1).map V.bl)) pt = some (.lst ((frc row 1).map V.bl)) := upd_same
    generalize upd G7 pt (.lst ((frc row 1).map V.bl)) = G8 at ub gt ⊢
    k_extra "e"
    k_extra "e"
    refine er_ixL (SqL.of (ub.lst gp)) (atI_nat gx) ?_
    k_extra "e"
    refine ⟨r, row, rfl, ⟨rvs, ub.lst hr, ub.tz.izs hI⟩, by omega, fun d hd => (hok d hd).s, fun pf G9 e9 _ hf => ?_⟩
    k_extra "e"
    refine same_call (.lst (SqL.of (e9 _ _ gt)) (izs_bls _).dps) (.lst (SqL.of hf) (izs_bls _).dps) (dep_bls _) fun G10 e10 => ?_
    refine ⟨true, rfl, ?_⟩
    refine nt_true ?_
    have uc := ub.trans (e9.trans e10).upm
    have gt2 := (e9.trans e10) _ _ gt
    k_extra "e"
    k_extra "e"
    refine ⟨rfl, fun pmod hpmod => ?_⟩
    k_extra "e"
    refine er_mod (by decide) ?_
    have hm0 : 0 ≤ (k : Int) % 4 := by omega
    obtain ⟨j, hj⟩ := Int.eq_ofNat_of_zero_le hm0
    have hj2 : j < modS.length := by show j < 4; omega
    rw [hj]
    refine er_ixL (SqL.of upd_same) (atI_nat (v := .str modS[j]) (by rw [List.getElem?_map, List.getElem?_eq_getElem hj2]; rfl)) ?_
    generalize modS[j] = m
    have em := Ex.new (o := .lst (modS.map V.str)) hpmod
    have ud := uc.trans em.upm
    have gt3 := em _ _ gt2
    generalize upd G10 pmod (.lst (modS.map V.str)) = G11 at ud gt3 ⊢
    -- deeds.row(module).append(None)
    k_extra "e"
    k_extra "e"
    refine ee_bm ?_
    refine ee_meth ?_
    k_extra "e"
    refine ⟨a, dx, _, rfl, ud.ins ha, rfl, ?_⟩
    k_extra "e"
    refine ⟨a, m, vss2, rows, B, rfl, hD.up ud, hz2.tz ud.tz, w, hB, ud.tab T, fun p1 acc1 G12 u12 n12 h12 hI12 => ?_⟩
    refine ⟨ty_lst h12, ?_⟩
    k_extra "e"
    have l12 := izs_len hI12
    rw [List.length_map] at l12
    have l13 := rowOf_len w m
    refine em_append h12 (szlt (by omega)) ?_
    have u13 : MU A G11 (upd G12 p1 (.lst (acc1 ++ [.non]))) := u12.mutL h12 n12
    have gt4 := u13.lst gt3
    have ue := ud.trans u13
    generalize upd G12 p1 (.lst (acc1 ++ [.non])) = G13 at ue gt4 ⊢
    k_extra "e"
    refine ee_meth ?_
    k_extra "e"
    refine ⟨a, dx, _, rfl, ue.ins ha, rfl, ?_⟩
    k_extra "e"
    refine ⟨a, m, vss2, rows, B, rfl, hD.up ue, hz2.tz ue.tz, w, hB, ue.tab T, fun p2 acc2 G14 u14 _ h14 hI14 => ?_⟩
    have uf := ue.trans u14
    have gt5 := u14.lst gt4
    k_extra "e"
    refine ⟨pr, m, vss, rows, B, rfl, hra.up uf, hz.tz uf.tz, w, uf.tab T, fun p3 acc3 G15 u15 _ h15 hI15 => ?_⟩
    have ug := uf.trans u15
    have gt6 := u15.lst gt5
    k_extra "e"
    refine same_call (.lst (SqL.of (u15.lst h14)) (u15.tz.izs hI14).dps) (.lst (SqL.of h15) hI15.dps) (dep_rows _) fun G16 e16 => ?_
    have uh := ug.trans e16.upm
    have gt7 := e16 _ _ gt6
    refine ⟨true, rfl, ?_⟩
    refine nt_true ?_
    k_extra "e"
    refine es_forR2 ?_
    k_extra "e"
    refine ec_lenL (SqL.of gt7) fun _ => ?_
    rw [List.length_map, lf]
    k_extra "e"
    refine ⟨by omega, fun i σ G' => ∃ c5 c6, σ = [some (.ref pr), some (.ref a), some (.int (k : Int)), some (.ref pt), some (.str m), c5, c6, none, none] ∧ Ex G16 G', ⟨_, _, rfl, Ex.refl _⟩, ?_, ?_⟩
    · rintro i σ G17 hi ⟨c5, c6, rfl, x17⟩
      have hi2 : i < row.length := by omega
      have ui := uh.trans x17.upm
      have gt8 := x17 _ _ gt7
      k_extra "e"
      refine ee_lcR2 ?_
      k_extra "e"
      refine ec_lenL (SqL.of gt8) fun _ => ?_
      rw [List.length_map, lf]
      k_extra "e"
      refine ⟨by omega, fun pt2 hpt2 => ⟨fun j acc G2 => Ex G17 G2 ∧ G2 pt2 = none ∧ acc.length ≤ j ∧ j ≤ row.length - (i + 1) ∧ (acc.length = 0 ↔ ∀ j' < j, ¬ ∃ d, (frc row 1)[i + 1 + j']? = some true ∧ row[i + 1 + j']? = some d ∧ isBack d (1 + (i : Int)) = true), ⟨Ex.refl _, hpt2, Nat.le_refl _, Nat.zero_le _, ⟨fun _ j' h => by omega, fun _ => rfl⟩⟩, ?_, ?_, ?_⟩⟩
      · rintro j acc G2 ⟨x1, x2, x3, x4, x5⟩
        exact ⟨x2, szlt (by omega)⟩
      · rintro j acc G2 hj ⟨x1, x2, x3, x4, x5⟩
        have x6 := x1.trans (Ex.new (o := .lst acc) x2)
        have ui2 := ui.trans x6.upm
        have hjj : (1 : Int) + (i : Int) + (j : Int) = ((i + 1 + j : Nat) : Int) := by omega
        have hj2 : i + 1 + j < row.length := by omega
        have hj3 : i + 1 + j < (frc row 1).length := by omega
        have hfj : ((frc row 1).map V.bl)[i + 1 + j]? = some (.bl (frc row 1)[i + 1 + j]) := by rw [List.getElem?_map, List.getElem?_eq_getElem hj3]; rfl
        obtain ⟨x, hx, ix⟩ := izs_get (ui2.tz.izs hI) (show (row.map deD)[i + 1 + j]? = some (deD row[i + 1 + j]) by rw [List.getElem?_map, List.getElem?_eq_getElem hj2]; rfl)
        rw [hjj]
        refine ⟨rfl, ?_⟩
        dsimp only [L2.wipe, List.set_cons_zero, List.set_cons_succ]
        k_extra "e"
        refine er_ixL (SqL.of (x6 _ _ gt8)) (atI_nat hfj) ?_
        k_extra "e"
        refine ifb (fun ht => ?_) (fun hf' => ?_)
        · k_extra "e"
          refine er_ixL (SqL.of (ui2.lst gp)) (atI_nat gx) ?_
          k_extra "e"
          refine er_ixL (SqL.of (ui2.lst hr)) (atI_nat hx) ?_
          k_extra "e"
          refine ⟨sz1000 (by simp), fun tp htp => ?_⟩
          have x7 := Ex.new (o := .tup [.str (Str.ofString "back"), .int (1 + (i : Int))]) htp
          refine er_eqD (x7.dp ix.dp) (.tup (SqT.of upd_same) (.cons (.str _) (.cons (.int _) .nil))) (sh_deD (hok _ (List.getElem_mem hj2)).s) (sh_bk _) ?_
          rw [eqv_bk]
          k_extra "e"
          have x8 := x7 pt2 _ upd_same
          refine ifb (fun hb => ?_) (fun hb => ?_)
          · k_extra "e"
            refine ⟨x8, G2, x7, x1, x2, by rw [List.length_append, List.length_cons, List.length_nil]; omega, by omega, ⟨fun z => by rw [List.length_append] at z; simp at z, fun z => absurd ⟨_, by rw [List.getElem?_eq_getElem hj3, ht], List.getElem?_eq_getElem hj2, hb⟩ (z j (by omega))⟩⟩
          · refine ⟨x8, G2, x7, x1, x2, by omega, by omega, x5.trans ⟨fun z j' hj4 => ?_, fun z j' hj4 => z j' (by omega)⟩⟩
            by_cases e : j' = j
            · subst e
              rintro ⟨d, _, h2, h3⟩
              rw [List.getElem?_eq_getElem hj2] at h2
              cases h2
              rw [hb] at h3; cases h3
            · exact z j' (by omega)
        · refine iteF ?_
          refine ⟨upd_same, G2, Ex.refl _, x1, x2, by omega, by omega, x5.trans ⟨fun z j' hj4 => ?_, fun z j' hj4 => z j' (by omega)⟩⟩
          by_cases e : j' = j
          · subst e
            rintro ⟨d, h1, _, _⟩
            rw [List.getElem?_eq_getElem hj3] at h1
            rw [hf'] at h1; cases h1
          · exact z j' (by omega)
      rintro acc G2 ⟨x1, x2, x3, x4, x5⟩
      have x6 := x1.trans (Ex.new (o := .lst acc) x2)
      have key : decide (((acc.length : Nat) : Int) = 0) = !taken ((frc row 1).drop (i + 1)) (row.drop (i + 1)) (1 + (i : Int)) := by
        by_cases ht : taken ((frc row 1).drop (i + 1)) (row.drop (i + 1)) (1 + (i : Int)) = true
        · rw [ht, Bool.not_true, decide_eq_false_iff_not]
          intro z
          obtain ⟨j', d, h1, h2, h3⟩ := taken_iff.mp ht
          rw [List.getElem?_drop] at h1 h2
          have hi3 := (List.getElem?_eq_some_iff.mp h2).1
          exact x5.mp (by omega) j' (by omega) ⟨d, h1, h2, h3⟩
        · have ht' : taken ((frc row 1).drop (i + 1)) (row.drop (i + 1)) (1 + (i : Int)) = false := by simpa using ht
          rw [ht', Bool.not_false, decide_eq_true_eq]
          have : acc.length = 0 := x5.mpr fun j' hj2 => by
            rintro ⟨d, h1, h2, h3⟩
            exact ht (taken_iff.mpr ⟨j', d, by rw [List.getElem?_drop]; exact h1, by rw [List.getElem?_drop]; exact h2, h3⟩)
          omega
      have hfi : ((frc row 1).map V.bl)[i]? = some (.bl (decide (((acc.length : Nat) : Int) = 0))) := by
        rw [List.getElem?_map, frc_later hi2, key]; rfl
      k_extra "e"
      k_extra "e"
      rw [show (1 : Int) + (i : Int) - 1 = (i : Int) by omega]
      refine er_ixL (SqL.of (x6 _ _ gt8)) (atI_nat hfi) ?_
      k_extra "e"
      refine ec_lenL (SqL.of upd_same) fun _ => ?_
      k_extra "e"
      refine ifnd (fun z => absurd rfl z) (fun _ => ?_)
      k_extra "e"
      exact ⟨_, _, rfl, x17.trans x6⟩
    · rintro σ G17 ⟨c5, c6, rfl, x17⟩
      exact ⟨_, _, _, _, _, rfl, uh.trans x17.upm⟩
  · rintro σ G6 ⟨c2, c3, c4, c5, c6, rfl, u6⟩
    k_extra "e"
    exact q _ u6
end Lw

namespace Lw
open PySem PySem.Spec PyProof.Rows L2
local macro_rules | `(tactic| k_extra "x1") => `(tactic| first
  | with_reducible refine es_seq ?_
  | with_reducible refine es_asg ?_
  | with_reducible refine es_if ?_
  | with_reducible refine es_ret ?_
  | with_reducible refine es_drop ?_
  | with_reducible refine es_next ?_
  | with_reducible refine es_augS ?_
  | with_reducible refine es_fld ?_
  | ((with_reducible show Ee (tVar _) _ _ _); refine ee_var rfl ?_)
  | with_reducible refine ee_c ?_
  | with_reducible refine ee_op ?_
  | with_reducible refine ee_un ?_
  | with_reducible refine eu_neg ?_
  | with_reducible refine ee_cb ?_
  | with_reducible refine ee_call ?_
  | with_reducible refine ea_nil ?_
  | with_reducible refine ea_cons ?_
  | with_reducible refine ee_sl ?_
  | with_reducible refine eo_no ?_
  | with_reducible refine eo_part ?_
  | with_reducible refine ee_tup ?_
  | with_reducible refine ee_lst ?_
  | with_reducible refine et_test ?_
  | with_reducible refine et_tB ?_
  | with_reducible refine et_tru ?_
  | with_reducible refine et_and ?_
  | with_reducible refine et_or ?_
  | with_reducible refine et_not ?_
  | with_reducible refine ee_and ?_
  | with_reducible refine ee_or ?_
  | with_reducible refine ee_not ?_
  | with_reducible refine ee_if ?_
  | with_reducible refine ee_chain ?_
  | with_reducible refine er_addI ?_
  | with_reducible refine er_subI ?_
  | with_reducible refine er_eqI ?_
  | with_reducible refine er_neI ?_
  | with_reducible refine er_eqNI ?_
  | with_reducible refine er_eqS ?_
  | with_reducible refine er_neS ?_
  | with_reducible refine er_eqB ?_
  | with_reducible refine er_neB ?_
  | with_reducible refine er_lt ?_
  | with_reducible refine er_le ?_
  | with_reducible refine er_gt ?_
  | with_reducible refine er_ge ?_
  | with_reducible refine er_isN_non ?_
  | with_reducible refine er_isN_bl ?_
  | with_reducible refine er_isN_int ?_
  | with_reducible refine er_isN_str ?_
  | with_reducible refine er_isN_ref ?_
  | with_reducible refine er_notN_non ?_
  | with_reducible refine er_notN_bl ?_
  | with_reducible refine er_notN_int ?_
  | with_reducible refine er_notN_str ?_
  | with_reducible refine er_notN_ref ?_
  | with_reducible refine er_isN ?_
  | with_reducible refine er_notN ?_
  | with_reducible refine ec_int ?_
  | with_reducible refine ec_intB ?_
  | with_reducible refine ec_max2 ?_
  | with_reducible refine ec_min2 ?_
  | with_reducible refine ip_I ?_
  | ((with_reducible refine eg_name ?_); (try dsimp only [L2.wipe, List.set_cons_zero, List.set_cons_succ]))
  | with_reducible refine eg_sub ?_
  | with_reducible refine egs_cons ?_
  | with_reducible refine egs_nil ?_
  | with_reducible refine tru_bl ?_
  | with_reducible refine tru_int ?_
  | with_reducible refine tru_non ?_
  | with_reducible refine iteT ?_
  | with_reducible refine iteF ?_
  | with_reducible refine ite_nt ?_
  | with_reducible refine ite_nf ?_
  | with_reducible refine ⟨_, rfl, ?_⟩)
local macro_rules | `(tactic| k_extra "s") => `(tactic| ((first | k_extra "x1" | ((with_reducible refine es_unf ?_); refine es_seq ?_)); (repeat k_extra "x1")))
local macro_rules | `(tactic| k_extra "x") => `(tactic| (repeat first | k_extra "x1" | ((with_reducible refine es_unf ?_); refine es_seq ?_)))
local macro_rules | `(tactic| k_extra "start") => `(tactic| dsimp only [L2.start, List.map_cons, List.map_nil, List.length_cons, List.length_nil, Nat.reduceAdd, Nat.reduceSub, List.replicate, List.cons_append, List.nil_append, Nat.zero_add])
local macro_rules | `(tactic| k_extra "e1") => `(tactic| first
  | with_reducible refine es_next ?_
  | ((with_reducible show Ee (tVar _) _ _ _); refine ee_var rfl ?_)
  | with_reducible refine ee_c ?_
  | with_reducible refine ee_op ?_
  | with_reducible refine ee_un ?_
  | with_reducible refine eu_neg ?_
  | with_reducible refine ee_cb ?_
  | with_reducible refine ee_call ?_
  | with_reducible refine ea_nil ?_
  | with_reducible refine ea_cons ?_
  | with_reducible refine ee_sl ?_
  | with_reducible refine eo_no ?_
  | with_reducible refine eo_part ?_
  | with_reducible refine ee_tup ?_
  | with_reducible refine ee_lst ?_
  | with_reducible refine et_test ?_
  | with_reducible refine et_tB ?_
  | with_reducible refine et_tru ?_
  | with_reducible refine et_and ?_
  | with_reducible refine et_or ?_
  | with_reducible refine et_not ?_
  | with_reducible refine ee_and ?_
  | with_reducible refine ee_or ?_
  | with_reducible refine ee_not ?_
  | with_reducible refine ee_if ?_
  | with_reducible refine ee_chain ?_
  | with_reducible refine er_addI ?_
  | with_reducible refine er_subI ?_
  | with_reducible refine er_eqI ?_
  | with_reducible refine er_neI ?_
  | with_reducible refine er_eqNI ?_
  | with_reducible refine er_eqS ?_
  | with_reducible refine er_neS ?_
  | with_reducible refine er_eqB ?_
  | with_reducible refine er_neB ?_
  | with_reducible refine er_lt ?_
  | with_reducible refine er_le ?_
  | with_reducible refine er_gt ?_
  | with_reducible refine er_ge ?_
  | with_reducible refine er_isN_non ?_
  | with_reducible refine er_isN_bl ?_
  | with_reducible refine er_isN_int ?_
  | with_reducible refine er_isN_str ?_
  | with_reducible refine er_isN_ref ?_
  | with_reducible refine er_notN_non ?_
  | with_reducible refine er_notN_bl ?_
  | with_reducible refine er_notN_int ?_
  | with_reducible refine er_notN_str ?_
  | with_reducible refine er_notN_ref ?_
  | with_reducible refine er_isN ?_
  | with_reducible refine er_notN ?_
  | with_reducible refine ec_int ?_
  | with_reducible refine ec_intB ?_
  | with_reducible refine ec_max2 ?_
  | with_reducible refine ec_min2 ?_
  | with_reducible refine ip_I ?_
  | ((with_reducible refine eg_name ?_); (try dsimp only [L2.wipe, List.set_cons_zero, List.set_cons_succ]))
  | with_reducible refine eg_sub ?_
  | with_reducible refine egs_cons ?_
  | with_reducible refine egs_nil ?_
  | with_reducible refine tru_bl ?_
  | with_reducible refine tru_int ?_
  | with_reducible refine tru_non ?_
  | with_reducible refine iteT ?_
  | with_reducible refine iteF ?_
  | with_reducible refine ite_nt ?_
  | with_reducible refine ite_nf ?_
  | with_reducible refine ex_bl ?_
  | with_reducible refine ex_int ?_
  | with_reducible refine ex_str ?_
  | with_reducible refine ex_strx ?_
  | with_reducible refine ex_ints1 ?_
  | with_reducible refine ex_ints2 ?_)
local macro_rules | `(tactic| k_extra "t1") => `(tactic| first
  | with_reducible refine es_asg ?_
  | with_reducible refine es_if ?_
  | with_reducible refine es_ret ?_
  | with_reducible refine es_drop ?_
  | with_reducible refine es_augS ?_
  | with_reducible refine es_fld ?_)
local macro_rules | `(tactic| k_extra "e") => `(tactic| first
  | ((with_reducible refine es_seq ?_); (try k_extra "t1"); (repeat k_extra "e1"))
  | (k_extra "t1"; (repeat k_extra "e1"))
  | (k_extra "e1"; (repeat k_extra "e1"))
  | ((with_reducible refine es_unf ?_); (refine es_seq ?_); (try k_extra "t1"); (repeat k_extra "e1")))
theorem wf_add {B B' : Int} {rows : List (List De)} {r : Nat} {d : De} (w : Wf B rows) (hr : r < 8) (hB : B ≤ B') (hd : DeOk B' d) (hb : ∀ x ∈ rows.getD r [], Befo x d) (hc : CloD (addR rows r d) d) (hs : ∀ k, (rows.getD k []).length + 1 ≤ 100) : Wf B' (addR rows r d) := by
  have hr2 : r < rows.length := by rw [w.len]; exact hr
  have sub : ∀ k, ∀ x ∈ rows.getD k [], x ∈ (addR rows r d).getD k [] := fun k x hx => by
    by_cases e : k = r
    · subst e; rw [addR_same hr2]; exact List.mem_append_left _ hx
    · rw [addR_ne e]; exact hx
  refine ⟨by rw [addR_len]; exact w.len, fun k x hx => ?_, fun k => ?_, clo_D fun k x hx => ?_, fun k => ?_⟩
  · by_cases e : k = r
    · subst e; rw [addR_same hr2] at hx
      rcases List.mem_append.mp hx with hx | hx
      · exact (w.ok k x hx).mono hB
      · rw [List.mem_singleton] at hx; subst hx; exact hd
    · rw [addR_ne e] at hx; exact (w.ok k x hx).mono hB
  · by_cases e : k = r
    · subst e; rw [addR_same hr2, List.pairwise_append]
      exact ⟨w.bef k, List.pairwise_singleton _ _, fun x hx y hy => by rw [List.mem_singleton] at hy; subst hy; exact hb x hx⟩
    · rw [addR_ne e]; exact w.bef k
  · by_cases e : k = r
    · subst e; rw [addR_same hr2] at hx
      rcases List.mem_append.mp hx with hx | hx
      · exact clo_of w.clo sub hx
      · rw [List.mem_singleton] at hx; subst hx; exact hc
    · rw [addR_ne e] at hx; exact clo_of w.clo sub hx
  · have := hs k
    by_cases e : k = r
    · subst e; rw [addR_same hr2, List.length_append, List.length_singleton]; omega
    · rw [addR_ne e]; omega
/-- the deeds that the law itself makes -/
def LawDe (d : De) : Prop := (∃ n, d = .back n) ∨ d = .change (Str.ofString "a") [] none 9999 (Str.ofString "x")
theorem lawDe_wf {B : Int} {rows : List (List De)} {r : Nat} {d : De} (w : Wf B rows) (hr : r < 8) (hB : B ≤ 9999) (hd : LawDe d) (hs : ∀ k, (rows.getD k []).length + 1 ≤ 100) : Wf 10000 (addR rows r d) := by
  rcases hd with ⟨n, rfl⟩ | rfl
  · exact wf_add w hr (by omega) trivial (fun x _ => by cases x <;> trivial) trivial hs
  · have hok : DeOk 10000 (De.change (Str.ofString "a") [] none 9999 (Str.ofString "x")) := by
      have l1 : (Str.ofString "x").length = 1 := by decide
      refine ⟨by decide, by rw [l1]; decide, fun x hx => (by cases hx), by decide, by rw [l1]; decide, fun b hb => (by cases hb), by decide, by decide +kernel, by decide +kernel⟩
    refine wf_add w hr (by omega) hok (fun x hx => ?_) (fun b hb => by cases hb) hs
    have := w.ok r x hx
    cases x with
    | back n => trivial
    | change m rm bh n t => obtain ⟨h1, h2, _⟩ := this; show n + (t.length : Int) ≤ 9999; omega
def S_law (K : PySem.W.Frag) (A : Ad) : Pm := fun vs G Q _ => ∃ (a : Addr) (ns : List Int), vs = [.ref a] ∧ SqL K G a (ns.map V.int) ∧ ns.length ≤ 63 ∧ LamX.Tabs (Tb A) G ∧ ∀ G', Q (.bl true) G'
/-! law -/
def t_law_1 (K : PySem.W.Frag) (A : Ad) : TS := tSeq (tDrop (tBM K "list" (rAppend) (tMeth A.cDeeds "counts" (up (S_Deeds_counts K A)) [] E0 (tVar 5) tNil) (tCons (tC (.int 3)) tNil))) (tRet (tAndV (tCall (up (S__law_is_forced K A)) [] E0 (tCons (tVar 9) (tCons (tOp (rIx K) (tVar 10) (tVar 11)) tNil))) (tCall (up (S__law_is_forced K A)) [] E0 (tCons (tVar 4) (tCons (tOp (rIx K) (tVar 10) (tOp (rSubI) (tC (.int 1)) (tVar 11))) tNil)))))
def t_law_2 (K : PySem.W.Frag) (A : Ad) : TS := tSeq (tDrop (tMeth A.cDeeds "add" (up (S_Deeds_add K A)) [] E0 (tOp (rIx K) (tVar 10) (tVar 11)) (tCons (tVar 7) (tCons (tVar 8) tNil)))) (t_law_1 K A)
def t_law_3 (K : PySem.W.Frag) (A : Ad) : TS := tSeq (tAsg (tOp (rModU) (tCall (up (S__law_at K A)) [] E0 (tCons (tVar 1) (tCons (tC (.int 3)) tNil))) (tC (.int 2))) (gName 11)) (t_law_2 K A)
def t_law_4 (K : PySem.W.Frag) (A : Ad) : TS := tSeq (tAsg (tLst (tCons (tVar 5) (tCons (tVar 6) tNil))) (gName 10)) (t_law_3 K A)
def t_law_5 (K : PySem.W.Frag) (A : Ad) : TS := tSeq (tDrop (tBM K "list" (rAppend) (tOp (rIx K) (tVar 9) (tVar 7)) (tCons (tVar 8) tNil))) (t_law_4 K A)
def t_law_6 (K : PySem.W.Frag) (A : Ad) : TS := tSeq (tAsg (tLc (iList K (tVar 4)) (gName 12) tYes (tCB (rListU K) (tCons (tVar 12) tNil)) [12]) (gName 9)) (t_law_5 K A)
def t_law_7 (K : PySem.W.Frag) (A : Ad) : TS := tSeq (tIfS (tAnd (tTest (tOp (rGtI) (tCB (rLenU K) (tCons (tOp (rIx K) (tVar 4) (tVar 7)) tNil)) (tC (.int 0)))) (tTest (tOp (rGtI) (tOp (rModU) (tCall (up (S__law_at K A)) [] E0 (tCons (tVar 1) (tCons (tC (.int 4)) tNil))) (tC (.int 3))) (tC (.int 0))))) (tAsg (tTup (tCons (tC (.str "back")) (tCons (tOp (rAddU K) (tC (.int 1)) (tOp (rModU) (tCall (up (S__law_at K A)) [] E0 (tCons (tVar 1) (tCons (tC (.int 5)) tNil))) (tCB (rLenU K) (tCons (tOp (rIx K) (tVar 4) (tVar 7)) tNil)))) tNil))) (gName 8)) tNext) (t_law_6 K A)
def t_law_8 (K : PySem.W.Frag) (A : Ad) : TS := tSeq (tAsg (tTup (tCons (tC (.str "change")) (tCons (tC (.str "a")) (tCons (tTup tNil) (tCons (tC .non) (tCons (tC (.int 9999)) (tCons (tC (.str "x")) tNil))))))) (gName 8)) (t_law_7 K A)
def t_law_9 (K : PySem.W.Frag) (A : Ad) : TS := tSeq (tAsg (tOp (rModU) (tCall (up (S__law_at K A)) [] E0 (tCons (tVar 1) (tCons (tC (.int 2)) tNil))) (tC (.int 8))) (gName 7)) (t_law_8 K A)
def t_law_10 (K : PySem.W.Frag) (A : Ad) : TS := tSeq (tIfS (tTest (tOp (rEqU K) (tOp (rModU) (tCall (up (S__law_at K A)) [] E0 (tCons (tVar 1) (tCons (tC (.int 6)) tNil))) (tC (.int 2))) (tC (.int 0)))) (tAsg (tMeth A.cDeeds "copy" (up (S_Deeds_copy K A)) [] E0 (tVar 6) tNil) (gName 6)) tNext) (t_law_9 K A)
def t_law_11 (K : PySem.W.Frag) (A : Ad) : TS := tSeq (tAsg (tMeth A.cDeeds "copy" (up (S_Deeds_copy K A)) [] E0 (tVar 5) tNil) (gName 6)) (t_law_10 K A)
def t_law_12 (K : PySem.W.Frag) (A : Ad) : TS := tSeq (tIfS (tOr (tNot (tTru K (tCall (up (S__law_same K A)) [] E0 (tCons (tC (.int 8)) (tCons (tC (.int 8)) tNil))))) (tNot (tTru K (tCall (up (S__law_is_forced K A)) [] E0 (tCons (tVar 4) (tCons (tVar 5) tNil)))))) (tRet (tC (.bl false))) tNext) (t_law_11 K A)
def t_law_13 (K : PySem.W.Frag) (A : Ad) : TS := tSeq (tAsg (tCall (up (S__law_deeds K A)) [] E0 (tCons (tVar 3) tNil)) (gName 5)) (t_law_12 K A)
def t_law_14 (K : PySem.W.Frag) (A : Ad) : TS := tSeq (tAsg (tCall (up (S__law_rows_of K A)) [] E0 (tCons (tVar 3) tNil)) (gName 4)) (t_law_13 K A)
def t_law_15 (K : PySem.W.Frag) (A : Ad) : TS := tSeq (tAsg (tCall (up (S__law_triples K A)) [] E0 (tCons (tVar 1) (tCons (tC (.int 20)) (tCons (tVar 2) (tCons (tOp (rAddU K) (tC (.int 1)) (tOp (rModU) (tCall (up (S__law_at K A)) [] E0 (tCons (tVar 1) (tCons (tC (.int 1)) tNil))) (tC (.int 8)))) tNil))))) (gName 3)) (t_law_14 K A)
def t_law_16 (K : PySem.W.Frag) (A : Ad) : TS := tSeq (tAsg (tOp (rAddU K) (tOp (rModU) (tCall (up (S__law_at K A)) [] E0 (tCons (tVar 1) (tCons (tC (.int 0)) tNil))) (tC (.int 31))) (tOp (rMulU) (tC (.int 30)) (tCB (rInt1) (tCons (tOp (rEqU K) (tOp (rModU) (tOp (rDivU) (tCall (up (S__law_at K A)) [] E0 (tCons (tVar 1) (tCons (tC (.int 0)) tNil))) (tC (.int 31))) (tC (.int 5))) (tC (.int 4))) tNil)))) (gName 2)) (t_law_15 K A)
def t_law (K : PySem.W.Frag) (A : Ad) : TS := tSeq (tAsg (tCall (up (S__law_draws K A)) [] E0 (tCons (tVar 0) tNil)) (gName 1)) (t_law_16 K A)
theorem len_law {K : PySem.W.Frag} {A : Ad} : ∀ vs G Q E, S_law K A vs G Q E → vs.length = ["script"].length := by
  rintro vs G Q E ⟨a, ns, rfl, _⟩; rfl
section
variable {K : PySem.W.Frag} {A : Ad} {G : Hp} {Q : V → Hp → Prop} {pr pg pp a o : Addr} {vss gss : List (List V)} {rows : List (List De)} {r : Nat} {d : De} {v : V} {B : Int} {c0 c1 c2 c3 c6 c7 c8 c9 c10 c11 c12 : Option V}
/-- all is told anew -/
theorem law_t1 (C : Cf K A) (T : LamX.Tabs (Tb A) G) {x y : Addr} {va vx vy : List (List V)} {B' : Int} {t : Int} (hra : RowsAt G pr vss) (hz : Rz G vss rows) (hrg : RowsAt G pg gss) (hzg : Rz G gss (addR rows r d))
    (hDa : DsAt A G a va) (hla : va.length ≤ 1000) (hDx : DsAt A G x vx) (hzx : Rz G vx (addR rows r d)) (hDy : DsAt A G y vy) (hzy : Rz G vy rows)
    (hp : G pp = some (.lst [.ref a, .ref o])) (hx : atI [V.ref a, .ref o] t = some (.ref x)) (hy : atI [V.ref a, .ref o] (1 - t) = some (.ref y)) (w : Wf B rows) (hB : B ≤ 10000000000000000) (w' : Wf B' (addR rows r d)) (hB' : B' ≤ 10000000000000000) (q : ∀ G', Q (.bl true) G') :
    Es (t_law_1 K A) { nx := fun _ G' => Q .non G', rt := Q } [c0, c1, c2, c3, some (.ref pr), some (.ref a), c6, c7, c8, some (.ref pg), some (.ref pp), some (.int t), c12] G := by
  have hDa' := hDa
  obtain ⟨dx, pra, ha, _⟩ := hDa'
  k_extra "e"
  refine ee_bm ?_
  refine ee_meth ?_
  k_extra "e"
  refine ⟨a, dx, _, rfl, ha, rfl, ?_⟩
  k_extra "e"
  refine ⟨a, va, rfl, hDa, hla, fun p G1 e1 np hp1 => ?_⟩
  refine ⟨ty_lst hp1, ?_⟩
  k_extra "e"
  refine em_append hp1 (szlt (by unfold lens; rw [List.length_map]; omega)) ?_
  have e2 : Ex G (upd G1 p (.lst (lens va ++ [.int 3]))) := e1.mut np
  generalize upd G1 p (.lst (lens va ++ [.int 3])) = G2 at e2 ⊢
  k_extra "e"
  refine er_ixL (SqL.of (e2 _ _ hp)) hx ?_
  k_extra "e"
  refine ⟨pg, x, gss, vx, _, B', rfl, hrg.ex e2, hzg.tz e2.tz, hDx.ex e2, hzx.tz e2.tz, w', hB', T.ext e2, fun G3 u3 => ?_⟩
  refine ⟨true, rfl, ?_⟩
  refine iteT ?_
  have u : MU A G G3 := e2.upm.trans u3
  k_extra "e"
  refine er_ixL (SqL.of (u.lst hp)) hy ?_
  k_extra "e"
  refine ⟨pr, y, vss, vy, _, B, rfl, hra.up u, hz.tz u.tz, hDy.up u, hzy.tz u.tz, w, hB, u.tab T, fun G4 _ => ?_⟩
  exact q G4
/-- the deed is added to the one or the other -/
theorem law_t2 (C : Cf K A) (T : LamX.Tabs (Tb A) G) {Fp Fg Fo Fa Fw : Hp} {va vo : List (List V)} {B' : Int} {t : Int} (aq : Aq [Fp, Fg, Fo, Fa, Fw] G) (hra : RowsAt Fw pr vss) (hz : Rz G vss rows) (hrg : RowsAt Fg pg gss) (hzg : Rz G gss (addR rows r d))
    (hDa : DsAt A Fa a va) (hza : Rz G va rows) (hDo : DsAt A Fo o vo) (hzo : Rz G vo rows) (hp : Fp pp = some (.lst [.ref a, .ref o])) (ht : t = 0 ∨ t = 1) (hv : Iz G v (deD d)) (hr : r < 8)
    (w : Wf B rows) (hB : B ≤ 10000000000000000) (w' : Wf B' (addR rows r d)) (hB' : B' ≤ 10000000000000000) (q : ∀ G', Q (.bl true) G') :
    Es (t_law_2 K A) { nx := fun _ G' => Q .non G', rt := Q } [c0, c1, c2, c3, some (.ref pr), some (.ref a), c6, some (.int (r : Int)), some v, some (.ref pg), some (.ref pp), some (.int t), c12] G := by
  have xp : Ex Fp G := aq.ex (by simp)
  have xa : Ex Fa G := aq.ex (by simp)
  have xo : Ex Fo G := aq.ex (by simp)
  have small : ∀ (z : List (List V)), Rz G z rows → ∀ ws ∈ z, ws.length < 1000 := fun z hz ws hw => by
    obtain ⟨i, hi⟩ := List.getElem?_of_mem hw
    have h1 := lenV hz i
    have h2 := w.sm i
    rw [List.getD_eq_getElem?_getD, hi] at h1
    have h1 : ws.length = _ := h1
    omega
  have la : va.length = 8 := by rw [hza.1]; exact w.len
  have lo : vo.length = 8 := by rw [hzo.1]; exact w.len
  rcases ht with rfl | rfl
  · have hDa' := hDa
    obtain ⟨dx, pra, ha, _⟩ := hDa'
    k_extra "e"
    refine ee_meth ?_
    k_extra "e"
    refine er_ixL (SqL.of (xp _ _ hp)) (v := .ref a) rfl ?_
    refine ⟨a, dx, _, rfl, xa _ _ ha, rfl, ?_⟩
    k_extra "e"
    refine ⟨a, Fa, va, r, v, rfl, hDa, xa, by omega, small va hza, aq.nt Fa (by simp), fun F' G1 d1 f1 e1 t1 l1 => ?_⟩
    have aq1 : Aq (F' :: [Fp, Fg, Fo, Fw]) G1 := Aq.fr (aq.perm (L' := Fa :: [Fp, Fg, Fo, Fw]) (List.perm_middle (l₁ := [Fp, Fg, Fo])).symm) f1 e1 t1
    exact law_t1 C (l1.tabs T) (hra.ex (aq1.ex (by simp))) (hz.tz l1.tz) (hrg.ex (aq1.ex (by simp))) (hzg.tz l1.tz) (d1.ex e1) (by unfold addV; rw [List.length_modify]; omega) (d1.ex e1) ((hza.add hv).tz l1.tz) (hDo.ex (aq1.ex (F := Fo) (by simp))) (hzo.tz l1.tz) (aq1.ex (F := Fp) (by simp) _ _ hp) rfl rfl w hB w' hB' q
  · have hDo' := hDo
    obtain ⟨dx, pra, ha, _⟩ := hDo'
    k_extra "e"
    refine ee_meth ?_
    k_extra "e"
    refine er_ixL (SqL.of (xp _ _ hp)) (v := .ref o) rfl ?_
    refine ⟨o, dx, _, rfl, xo _ _ ha, rfl, ?_⟩
    k_extra "e"
    refine ⟨o, Fo, vo, r, v, rfl, hDo, xo, by omega, small vo hzo, aq.nt Fo (by simp), fun F' G1 d1 f1 e1 t1 l1 => ?_⟩
    have aq1 : Aq (F' :: [Fp, Fg, Fa, Fw]) G1 := Aq.fr (aq.perm (L' := Fo :: [Fp, Fg, Fa, Fw]) (List.perm_middle (l₁ := [Fp, Fg])).symm) f1 e1 t1
    exact law_t1 C (l1.tabs T) (hra.ex (aq1.ex (by simp))) (hz.tz l1.tz) (hrg.ex (aq1.ex (by simp))) (hzg.tz l1.tz) (hDa.ex (aq1.ex (F := Fa) (by simp))) (by omega) (d1.ex e1) ((hzo.add hv).tz l1.tz) (hDa.ex (aq1.ex (F := Fa) (by simp))) (hza.tz l1.tz) (aq1.ex (F := Fp) (by simp) _ _ hp) rfl rfl w hB w' hB' q
/-- what is grown, the pair, the turn -/
theorem law_t6 (C : Cf K A) (T : LamX.Tabs (Tb A) G) {N Fo Fa Fw : Hp} {va vo : List (List V)} {p : Addr} {ds : List Int} (aq : Aq [Fo, Fa, Fw, N] G) (hp : Li N p ds) (hd : Dr ds) (hra : RowsAt Fw pr vss) (hz : Rz G vss rows)
    (hDa : DsAt A Fa a va) (hza : Rz G va rows) (hDo : DsAt A Fo o vo) (hzo : Rz G vo rows) (hv : Iz G v (deD d)) (hr : r < 8) (hde : LawDe d)
    (w : Wf B rows) (hB : B ≤ 9999) (hs : ∀ k, (rows.getD k []).length + 1 ≤ 100) (q : ∀ G', Q (.bl true) G') :
    Es (t_law_6 K A) { nx := fun _ G' => Q .non G', rt := Q } [c0, some (.ref p), c2, c3, some (.ref pr), some (.ref a), some (.ref o), some (.int (r : Int)), some v, c9, c10, c11, none] G := by
  have xw : Ex Fw G := aq.ex (by simp)
  have l8 : vss.length = 8 := by rw [hz.1]; exact w.len
  have hra' := hra
  obtain ⟨refs, r1, r2, r3, r4, r5⟩ := hra'
  k_extra "e"
  refine ee_lcL ?_
  k_extra "e"
  refine ⟨pr, _, rfl, SqL.of (xw _ _ r1), fun pg hpg => ⟨fun i acc G' => ∃ F, NewL G G' acc (vss.take i) F ∧ G' pg = none ∧ acc.length = i ∧ i ≤ vss.length, ⟨_, NewL.start, hpg, rfl, Nat.zero_le _⟩, ?_, ?_, ?_⟩⟩
  · rintro i acc G' ⟨F, h1, h2, h3, h4⟩
    exact ⟨h2, szlt (by omega), SqL.of (h1.ex _ _ (xw _ _ r1))⟩
  · rintro i acc y G' hy ⟨F, h1, h2, h3, h4⟩
    obtain ⟨l0, hr0, rfl⟩ := Option.map_eq_some_iff.mp (by rw [← List.getElem?_map]; exact hy)
    have hi : i < vss.length := by rw [← r2]; exact (List.getElem?_eq_some_iff.mp hr0).1
    have g := r3 i l0 _ hr0 (List.getElem?_eq_getElem hi)
    k_extra "e"
    refine ⟨rfl, et_yes ?_⟩
    refine iteT ?_
    k_extra "e"
    refine ec_list (.inl (SqL.of ((h1.ex.trans (Ex.new h2)) _ _ (xw _ _ g)))) fun l hl2 => ?_
    have hlp : l ≠ pg := nul_updN hl2
    have hl0 : G' l = none := nul_upd hl2
    refine ⟨by rw [upd_ne (Ne.symm hlp), upd_same], upd G' l (.lst vss[i]), by rw [upd_comm hlp]; exact Ex.refl _, upd F l (.lst vss[i]), ?_, nul_ne h2 (Ne.symm hlp), by rw [List.length_append, h3]; rfl, by omega⟩
    rw [List.take_add_one, List.getElem?_eq_getElem hi]
    exact h1.snoc hl0
  · rintro acc G' ⟨F, h1, h2, h3, h4⟩
    rw [List.length_map, r2, List.take_length] at h1
    obtain ⟨n, rg⟩ := h1.done h2
    have aq1 := Aq.newP aq n
    have T1 := T.ext n.ex
    have x1 := n.ex.tz
    generalize upd F pg (.lst acc) = Fg at aq1 rg
    generalize upd G' pg (.lst acc) = G1 at aq1 T1 x1 ⊢
    have hrv : r < vss.length := by omega
    have hrw := List.getElem?_eq_getElem hrv
    obtain ⟨ys, lg, a1, a2, a3, a4, a5, a6, _⟩ := rg.at_ hrw
    have xg : Ex Fg G1 := aq1.ex (by simp)
    have hlv := lenV hz r
    have hgv : vss.getD r [] = vss[r] := by rw [List.getD_eq_getElem?_getD, hrw]; rfl
    rw [hgv] at hlv
    have hsr := hs r
    k_extra "e"
    k_extra "e"
    refine ee_bm ?_
    k_extra "e"
    refine er_ixL (SqL.of (xg _ _ a1)) (atI_nat a2) ?_
    refine ⟨ty_lst (xg _ _ a3), ?_⟩
    k_extra "e"
    refine em_append (xg _ _ a3) (szlt (by omega)) ?_
    have aq2 := Aq.mut1 (o := .lst (vss[r] ++ [v])) aq1 a3 (fun ps z => by cases z)
    have rg2 := a6 (vss[r] ++ [v])
    rw [← addV_set hrw] at rg2
    have x2 : Tz G1 (upd G1 lg (.lst (vss[r] ++ [v]))) := Tz.mutL (xg _ _ a3)
    have T2 := tabs_mut (ys := vss[r] ++ [v]) T1 (xg _ _ a3)
    generalize upd G1 lg (.lst (vss[r] ++ [v])) = G2 at aq2 x2 T2 ⊢
    generalize upd Fg lg (.lst (vss[r] ++ [v])) = Fg2 at aq2 rg2
    have x3 := x1.trans x2
    k_extra "e"
    refine ⟨sz1000 (by simp), fun pp hpp => ?_⟩
    have aq3 := aq2.add (o := .lst [.ref a, .ref o]) hpp (fun ps z => by cases z)
    have e3 := Ex.new (o := .lst [V.ref a, V.ref o]) hpp
    have T3 := T2.ext e3
    have x4 := x3.trans e3.tz
    generalize upd G2 pp (.lst [.ref a, .ref o]) = G3 at aq3 e3 T3 x4 ⊢
    k_extra "e"
    k_extra "e"
    refine at_call (aq3.ex (F := N) (by simp) _ _ hp) hd (by omega) fun x hx => ?_
    k_extra "e"
    refine er_mod (by decide) ?_
    k_extra "e"
    refine law_t2 C T3 (aq3.sub (L' := [one pp (.lst [.ref a, .ref o]), Fg2, Fo, Fa, Fw]) (by simp)) hra (hz.tz x4) rg2 ((hz.add hv).tz x4) hDa (hza.tz x4) hDo (hzo.tz x4) one_at (by omega) (x4.iz hv) hr w (by omega) (lawDe_wf w hr hB hde hs) (by decide) q
end
end Lw

namespace Lw
open PySem PySem.Spec PyProof.Rows L2
local macro_rules | `(tactic| k_extra "x1") => `(tactic| first
  | with_reducible refine es_seq ?_
  | with_reducible refine es_asg ?_
  | with_reducible refine es_if ?_
  | with_reducible refine es_ret ?_
  | with_reducible refine es_drop ?_
  | with_reducible refine es_next ?_
  | with_reducible refine es_augS ?_
  | with_reducible refine es_fld ?_
  | ((with_reducible show Ee (tVar _) _ _ _); refine ee_var rfl ?_)
  | with_reducible refine ee_c ?_
  | with_reducible refine ee_op ?_
  | with_reducible refine ee_un ?_
  | with_reducible refine eu_neg ?_
  | with_reducible refine ee_cb ?_
  | with_reducible refine ee_call ?_
  | with_reducible refine ea_nil ?_
  | with_reducible refine ea_cons ?_
  | with_reducible refine ee_sl ?_
  | with_reducible refine eo_no ?_
  | with_reducible refine eo_part ?_
  | with_reducible refine ee_tup ?_
  | with_reducible refine ee_lst ?_
  | with_reducible refine et_test ?_
  | with_reducible refine et_tB ?_
  | with_reducible refine et_tru ?_
  | with_reducible refine et_and ?_
  | with_reducible refine et_or ?_
  | with_reducible refine et_not ?_
  | with_reducible refine ee_and ?_
  | with_reducible refine ee_or ?_
  | with_reducible refine ee_not ?_
  | with_reducible refine ee_if ?_
  | with_reducible refine ee_chain ?_
  | with_reducible refine er_addI ?_
  | with_reducible refine er_subI ?_
  | with_reducible refine er_eqI ?_
  | with_reducible refine er_neI ?_
  | with_reducible refine er_eqNI ?_
  | with_reducible refine er_eqS ?_
  | with_reducible refine er_neS ?_
  | with_reducible refine er_eqB ?_
  | with_reducible refine er_neB ?_
  | with_reducible refine er_lt ?_
  | with_reducible refine er_le ?_
  | with_reducible refine er_gt ?_
  | with_reducible refine er_ge ?_
  | with_reducible refine er_isN_non ?_
  | with_reducible refine er_isN_bl ?_
  | with_reducible refine er_isN_int ?_
  | with_reducible refine er_isN_str ?_
  | with_reducible refine er_isN_ref ?_
  | with_reducible refine er_notN_non ?_
  | with_reducible refine er_notN_bl ?_
  | with_reducible refine er_notN_int ?_
  | with_reducible refine er_notN_str ?_
  | with_reducible refine er_notN_ref ?_
  | with_reducible refine er_isN ?_
  | with_reducible refine er_notN ?_
  | with_reducible refine ec_int ?_
  | with_reducible refine ec_intB ?_
  | with_reducible refine ec_max2 ?_
  | with_reducible refine ec_min2 ?_
  | with_reducible refine ip_I ?_
  | ((with_reducible refine eg_name ?_); (try dsimp only [L2.wipe, List.set_cons_zero, List.set_cons_succ]))
  | with_reducible refine eg_sub ?_
  | with_reducible refine egs_cons ?_
  | with_reducible refine egs_nil ?_
  | with_reducible refine tru_bl ?_
  | with_reducible refine tru_int ?_
  | with_reducible refine tru_non ?_
  | with_reducible refine iteT ?_
  | with_reducible refine iteF ?_
  | with_reducible refine ite_nt ?_
  | with_reducible refine ite_nf ?_
  | with_reducible refine ⟨_, rfl, ?_⟩)
local macro_rules | `(tactic| k_extra "s") => `(tactic| ((first | k_extra "x1" | ((with_reducible refine es_unf ?_); refine es_seq ?_)); (repeat k_extra "x1")))
local macro_rules | `(tactic| k_extra "x") => `(tactic| (repeat first | k_extra "x1" | ((with_reducible refine es_unf ?_); refine es_seq ?_)))
local macro_rules | `(tactic| k_extra "start") => `(tactic| dsimp only [L2.start, List.map_cons, List.map_nil, List.length_cons, List.length_nil, Nat.reduceAdd, Nat.reduceSub, List.replicate, List.cons_append, List.nil_append, Nat.zero_add])
local macro_rules | `(tactic| k_extra "e1") => `(tactic| first
  | with_reducible refine es_next ?_
  | ((with_reducible show Ee (tVar _) _ _ _); refine ee_var rfl ?_)
  | with_reducible refine ee_c ?_
  | with_reducible refine ee_op ?_
  | with_reducible refine ee_un ?_
  | with_reducible refine eu_neg ?_
  | with_reducible refine ee_cb ?_
  | with_reducible refine ee_call ?_
  | with_reducible refine ea_nil ?_
  | with_reducible refine ea_cons ?_
  | with_reducible refine ee_sl ?_
  | with_reducible refine eo_no ?_
  | with_reducible refine eo_part ?_
  | with_reducible refine ee_tup ?_
  | with_reducible refine ee_lst ?_
  | with_reducible refine et_test ?_
  | with_reducible refine et_tB ?_
  | with_reducible refine et_tru ?_
  | with_reducible refine et_and ?_
  | with_reducible refine et_or ?_
  | with_reducible refine et_not ?_
  | with_reducible refine ee_and ?_
  | with_reducible refine ee_or ?_
  | with_reducible refine ee_not ?_
  | with_reducible refine ee_if ?_
  | with_reducible refine ee_chain ?_
  | with_reducible refine er_addI ?_
  | with_reducible refine er_subI ?_
  | with_reducible refine er_eqI ?_
  | with_reducible refine er_neI ?_
  | with_reducible refine er_eqNI ?_
  | with_reducible refine er_eqS ?_
  | with_reducible refine er_neS ?_
  | with_reducible refine er_eqB ?_
  | with_reducible refine er_neB ?_
  | with_reducible refine er_lt ?_
  | with_reducible refine er_le ?_
  | with_reducible refine er_gt ?_
  | with_reducible refine er_ge ?_
  | with_reducible refine er_isN_non ?_
  | with_reducible refine er_isN_bl ?_
  | with_reducible refine er_isN_int ?_
  | with_reducible refine er_isN_str ?_
  | with_reducible refine er_isN_ref ?_
  | with_reducible refine er_notN_non ?_
  | with_reducible refine er_notN_bl ?_
  | with_reducible refine er_notN_int ?_
  | with_reducible refine er_notN_str ?_
  | with_reducible refine er_notN_ref ?_
  | with_reducible refine er_isN ?_
  | with_reducible refine er_notN ?_
  | with_reducible refine ec_int ?_
  | with_reducible refine ec_intB ?_
  | with_reducible refine ec_max2 ?_
  | with_reducible refine ec_min2 ?_
  | with_reducible refine ip_I ?_
  | ((with_reducible refine eg_name ?_); (try dsimp only [L2.wipe, List.set_cons_zero, List.set_cons_succ]))
  | with_reducible refine eg_sub ?_
  | with_reducible refine egs_cons ?_
  | with_reducible refine egs_nil ?_
  | with_reducible refine tru_bl ?_
  | with_reducible refine tru_int ?_
  | with_reducible refine tru_non ?_
  | with_reducible refine iteT ?_
  | with_reducible refine iteF ?_
  | with_reducible refine ite_nt ?_
  | with_reducible refine ite_nf ?_
  | with_reducible refine ex_bl ?_
  | with_reducible refine ex_int ?_
  | with_reducible refine ex_str ?_
  | with_reducible refine ex_strx ?_
  | with_reducible refine ex_ints1 ?_
  | with_reducible refine ex_ints2 ?_)
local macro_rules | `(tactic| k_extra "t1") => `(tactic| first
  | with_reducible refine es_asg ?_
  | with_reducible refine es_if ?_
  | with_reducible refine es_ret ?_
  | with_reducible refine es_drop ?_
  | with_reducible refine es_augS ?_
  | with_reducible refine es_fld ?_)
local macro_rules | `(tactic| k_extra "e") => `(tactic| first
  | ((with_reducible refine es_seq ?_); (try k_extra "t1"); (repeat k_extra "e1"))
  | (k_extra "t1"; (repeat k_extra "e1"))
  | (k_extra "e1"; (repeat k_extra "e1"))
  | ((with_reducible refine es_unf ?_); (refine es_seq ?_); (try k_extra "t1"); (repeat k_extra "e1")))
section
variable {K : PySem.W.Frag} {A : Ad} {G : Hp} {Q : V → Hp → Prop} {pr a o : Addr} {vss : List (List V)} {rows : List (List De)} {B : Int} {c0 c2 c3 c7 c8 c9 c10 c11 : Option V}
/-- the replica, the deed -/
theorem law_t9 (C : Cf K A) (T : LamX.Tabs (Tb A) G) {N Fo Fa Fw : Hp} {va vo : List (List V)} {p : Addr} {ds : List Int} (aq : Aq [Fo, Fa, Fw, N] G) (hp : Li N p ds) (hd : Dr ds) (hra : RowsAt Fw pr vss) (hz : Rz G vss rows)
    (hDa : DsAt A Fa a va) (hza : Rz G va rows) (hDo : DsAt A Fo o vo) (hzo : Rz G vo rows)
    (w : Wf B rows) (hB : B ≤ 9999) (hs : ∀ k, (rows.getD k []).length + 1 ≤ 100) (q : ∀ G', Q (.bl true) G') :
    Es (t_law_9 K A) { nx := fun _ G' => Q .non G', rt := Q } [c0, some (.ref p), c2, c3, some (.ref pr), some (.ref a), some (.ref o), c7, c8, c9, c10, c11, none] G := by
  k_extra "e"
  refine at_call (aq.ex (F := N) (by simp) _ _ hp) hd (by omega) fun x hx => ?_
  k_extra "e"
  refine er_mod (by decide) ?_
  obtain ⟨r, hr⟩ := Int.eq_ofNat_of_zero_le (show 0 ≤ x % 8 by omega)
  have hr8 : r < 8 := by omega
  rw [hr]
  k_extra "e"
  k_extra "e"
  refine ⟨sz1000 (by simp), fun p0 hp0 => ?_⟩
  have e0 := Ex.new (o := .tup []) hp0
  have g0 : upd G p0 (.tup []) p0 = some (.tup []) := upd_same
  generalize upd G p0 (.tup []) = G1 at e0 g0 ⊢
  k_extra "e"
  refine ⟨sz1000 (by simp), fun p1 hp1 => ?_⟩
  have e1 := Ex.new (o := .tup [.str (Str.ofString "change"), .str (Str.ofString "a"), .ref p0, .non, .int 9999, .str (Str.ofString "x")]) hp1
  have hv : Iz (upd G1 p1 (.tup [.str (Str.ofString "change"), .str (Str.ofString "a"), .ref p0, .non, .int 9999, .str (Str.ofString "x")])) (.ref p1) (deD (.change (Str.ofString "a") [] none 9999 (Str.ofString "x"))) :=
    .tup upd_same (.cons (.str _) (.cons (.str _) (.cons (.tup (e1 _ _ g0) .nil) (.cons .non (.cons (.int _) (.cons (.str _) .nil))))))
  have e2 := e0.trans e1
  generalize upd G1 p1 (.tup [.str (Str.ofString "change"), .str (Str.ofString "a"), .ref p0, .non, .int 9999, .str (Str.ofString "x")]) = G2 at e2 hv ⊢
  have aq2 := aq.junk e2
  have hrv : r < vss.length := by rw [hz.1, w.len]; exact hr8
  have hrw := List.getElem?_eq_getElem hrv
  obtain ⟨ys, lg, a1, a2, a3, _⟩ := hra.at_ hrw
  have hlv := lenV hz r
  have hgv : vss.getD r [] = vss[r] := by rw [List.getD_eq_getElem?_getD, hrw]; rfl
  rw [hgv] at hlv
  have xw : Ex Fw G2 := aq2.ex (by simp)
  have fin : ∀ (v : V) (d : De) (G3 : Hp), Ex G2 G3 → Iz G3 v (deD d) → LawDe d → Es (t_law_6 K A) { nx := fun _ G' => Q .non G', rt := Q } [c0, some (.ref p), c2, c3, some (.ref pr), some (.ref a), some (.ref o), some (.int (r : Int)), some v, c9, c10, c11, none] G3 :=
    fun v d G3 e3 iv hde => law_t6 C (T.ext (e2.trans e3)) (aq2.junk e3) hp hd hra (hz.tz (e2.trans e3).tz) hDa (hza.tz (e2.trans e3).tz) hDo (hzo.tz (e2.trans e3).tz) iv hr8 hde w hB hs q
  k_extra "e"
  k_extra "e"
  refine er_ixL (SqL.of (xw _ _ a1)) (atI_nat a2) ?_
  k_extra "e"
  refine ec_lenL (SqL.of (xw _ _ a3)) fun _ => ?_
  k_extra "e"
  refine ifd (fun hpos => ?_) (fun _ => ?_)
  · k_extra "e"
    refine at_call (aq2.ex (F := N) (by simp) _ _ hp) hd (by omega) fun y hy => ?_
    k_extra "e"
    refine er_mod (by decide) ?_
    k_extra "e"
    refine ifd (fun _ => ?_) (fun _ => ?_)
    · k_extra "e"
      refine at_call (aq2.ex (F := N) (by simp) _ _ hp) hd (by omega) fun z hz2 => ?_
      k_extra "e"
      refine er_ixL (SqL.of (xw _ _ a1)) (atI_nat a2) ?_
      k_extra "e"
      refine ec_lenL (SqL.of (xw _ _ a3)) fun _ => ?_
      refine er_mod (by omega) ?_
      k_extra "e"
      refine ⟨sz1000 (by simp), fun t ht => ?_⟩
      k_extra "e"
      exact fin _ (.back (1 + z % (vss[r].length : Int))) _ (Ex.new ht) (.tup upd_same (.cons (.str _) (.cons (.int _) .nil))) (.inl ⟨_, rfl⟩)
    · k_extra "e"
      exact fin _ _ G2 (Ex.refl _) hv (.inr rfl)
  · refine iteF ?_
    k_extra "e"
    exact fin _ _ G2 (Ex.refl _) hv (.inr rfl)
end
theorem ok_law {K : PySem.W.Frag} {A : Ad} (C : Cf K A) : ∀ vs G Q E, S_law K A vs G Q E → Es (t_law K A) { nx := fun _ G' => Q .non G', rt := Q } (L2.start ["script", "draws", "count", "triples", "rows", "deeds", "other", "replica", "deed", "grown", "pair", "turn", "row"] vs) G := by
  rintro vs G Q E ⟨a0, ns, rfl, hS, hl, T, q⟩
  change Es _ _ (_ :: _ :: _ :: _ :: _ :: _ :: _ :: _ :: _ :: _ :: _ :: _ :: _ :: []) _
  k_extra "e"
  refine ⟨a0, ns, rfl, hS, hl, fun p ds G1 e1 hp hd => ?_⟩
  k_extra "e"
  k_extra "e"
  refine at_call hp hd (by omega) fun x hx => ?_
  k_extra "e"
  refine er_mod (by decide) ?_
  k_extra "e"
  refine at_call hp hd (by omega) fun y hy => ?_
  k_extra "e"
  refine er_div (by decide) ?_
  k_extra "e"
  refine er_mod (by decide) ?_
  k_extra "e"
  refine er_mulL (by decide) ?_
  k_extra "e"
  have hc : ∃ n : Nat, x % 31 + 30 * (if decide (y / 31 % 5 = 4) = true then 1 else 0) = (n : Int) ∧ n ≤ 60 := by
    have h0 : 0 ≤ x % 31 + 30 * (if decide (y / 31 % 5 = 4) = true then 1 else 0) := by split <;> omega
    obtain ⟨n, hn⟩ := Int.eq_ofNat_of_zero_le h0
    refine ⟨n, hn, ?_⟩
    have : (n : Int) ≤ 60 := by rw [← hn]; split <;> omega
    omega
  obtain ⟨n, hn, hn60⟩ := hc
  rw [hn]
  k_extra "e"
  refine at_call hp hd (by omega) fun z hz => ?_
  k_extra "e"
  refine er_mod (by decide) ?_
  k_extra "e"
  obtain ⟨most, hm⟩ := Int.eq_ofNat_of_zero_le (show 0 ≤ 1 + z % 8 by omega)
  rw [hm]
  have T1 := T.ext e1
  refine ⟨p, ds, 20, n, most, rfl, hp, hd, by decide, by omega, by omega, by omega, T1, fun pt us ts G2 u2 hpt hI ok => ?_⟩
  have T2 := u2.tab T1
  have hp2 : Li (NT G2) p ds := NT.get (u2.li hp) (fun ps z => by cases z)
  have hpt2 : NT G2 pt = some (.lst us) := NT.get hpt (fun ps z => by cases z)
  have hlen : ts.length ≤ 1000 := by have := ok.len; omega
  have hB0 : (INC + TL) * (n : Int) ≤ 9999 := by have : INC + (TL : Int) = 10 := rfl; rw [this]; omega
  have w := ok.wf
  have hs : ∀ k, ((rowsOf (prs ts)).getD k []).length + 1 ≤ 100 := fun k => by have := ok.sm k; omega
  k_extra "e"
  k_extra "e"
  refine ⟨pt, us, ts, rfl, hpt, hI, ok.k8, hlen, fun pr Fw G3 vss n3 ra rz => ?_⟩
  have aq3 : Aq [Fw, NT G2] G3 := Aq.newP Aq.nt0 n3
  have T3 := T2.ext n3.ex
  k_extra "e"
  k_extra "e"
  refine ⟨pt, us, ts, rfl, n3.ex _ _ hpt, n3.ex.tz.izs hI, ok.k8, hlen, fun a Fa G4 va n4 da za => ?_⟩
  have aq4 : Aq [Fa, Fw, NT G2] G4 := Aq.newP aq3 n4
  have T4 := T3.ext n4.ex
  have rz4 := rz.tz n4.ex.tz
  k_extra "e"
  k_extra "e"
  refine same_call (.int 8) (.int 8) (by simp [PyData.depth]) fun G5 e5 => ?_
  refine ⟨true, rfl, ?_⟩
  refine nt_true ?_
  k_extra "e"
  have aq5 := aq4.junk e5
  refine ⟨pr, a, vss, va, _, _, rfl, ra.ex (aq5.ex (by simp)), rz4.tz e5.tz, da.ex (aq5.ex (F := Fa) (by simp)), za.tz e5.tz, w, by omega, T4.ext e5, fun G6 u6 => ?_⟩
  refine ⟨true, rfl, ?_⟩
  refine nt_true ?_
  have aq6 : Aq [Fa, Fw, NT G2] G6 := aq5.up u6
  have T6 := u6.tab (T4.ext e5)
  have rz6 := (rz4.tz e5.tz).tz u6.tz
  have za6 := (za.tz e5.tz).tz u6.tz
  have da6 := da.ex (aq6.ex (F := Fa) (by simp))
  have la : va.length ≤ 1000 := by rw [za.1, rowsOf_len]; decide
  have da' := da
  obtain ⟨dx, pra, ha, _⟩ := da'
  k_extra "e"
  k_extra "e"
  refine ee_meth ?_
  k_extra "e"
  refine ⟨a, dx, _, rfl, aq6.ex (F := Fa) (by simp) _ _ ha, rfl, ?_⟩
  k_extra "e"
  refine ⟨a, va, rfl, da6, la, fun o Fo G7 n7 d7 => ?_⟩
  have aq7 : Aq [Fo, Fa, Fw, NT G2] G7 := Aq.newP aq6 n7
  have T7 := T6.ext n7.ex
  have d7' := d7
  obtain ⟨dx7, pr7, h7, _⟩ := d7'
  k_extra "e"
  k_extra "e"
  refine at_call (aq7.ex (F := NT G2) (by simp) _ _ hp2) hd (by omega) fun z6 hz6 => ?_
  k_extra "e"
  refine er_mod (by decide) ?_
  k_extra "e"
  refine ifd (fun _ => ?_) (fun _ => ?_)
  · k_extra "e"
    refine ee_meth ?_
    k_extra "e"
    refine ⟨o, dx7, _, rfl, aq7.ex (F := Fo) (by simp) _ _ h7, rfl, ?_⟩
    k_extra "e"
    refine ⟨o, va, rfl, d7.ex (aq7.ex (F := Fo) (by simp)), la, fun o2 Fo2 G8 n8 d8 => ?_⟩
    have aq8 : Aq [Fo2, Fa, Fw, NT G2] G8 := (Aq.newP aq7 n8).sub (by simp)
    k_extra "e"
    exact law_t9 C (T7.ext n8.ex) aq8 hp2 hd ra ((rz6.tz n7.ex.tz).tz n8.ex.tz) da ((za6.tz n7.ex.tz).tz n8.ex.tz) d8 ((za6.tz n7.ex.tz).tz n8.ex.tz) w hB0 hs q
  · k_extra "e"
    exact law_t9 C T7 aq7 hp2 hd ra (rz6.tz n7.ex.tz) da (za6.tz n7.ex.tz) d7 (za6.tz n7.ex.tz) w hB0 hs q
end Lw

namespace Lw
open PySem PySem.Spec PyProof.Rows L2
local macro_rules | `(tactic| k_extra "x1") => `(tactic| first
  | with_reducible refine es_seq ?_
  | with_reducible refine es_asg ?_
  | with_reducible refine es_if ?_
  | with_reducible refine es_ret ?_
  | with_reducible refine es_drop ?_
  | with_reducible refine es_next ?_
  | with_reducible refine es_augS ?_
  | with_reducible refine es_fld ?_
  | ((with_reducible show Ee (tVar _) _ _ _); refine ee_var rfl ?_)
  | with_reducible refine ee_c ?_
  | with_reducible refine ee_op ?_
  | with_reducible refine ee_un ?_
  | with_reducible refine eu_neg ?_
  | with_reducible refine ee_cb ?_
  | with_reducible refine ee_call ?_
  | with_reducible refine ea_nil ?_
  | with_reducible refine ea_cons ?_
  | with_reducible refine ee_sl ?_
  | with_reducible refine eo_no ?_
  | with_reducible refine eo_part ?_
  | with_reducible refine ee_tup ?_
  | with_reducible refine ee_lst ?_
  | with_reducible refine et_test ?_
  | with_reducible refine et_tB ?_
  | with_reducible refine et_tru ?_
  | with_reducible refine et_and ?_
  | with_reducible refine et_or ?_
  | with_reducible refine et_not ?_
  | with_reducible refine ee_and ?_
  | with_reducible refine ee_or ?_
  | with_reducible refine ee_not ?_
  | with_reducible refine ee_if ?_
  | with_reducible refine ee_chain ?_
  | with_reducible refine er_addI ?_
  | with_reducible refine er_subI ?_
  | with_reducible refine er_eqI ?_
  | with_reducible refine er_neI ?_
  | with_reducible refine er_eqNI ?_
  | with_reducible refine er_eqS ?_
  | with_reducible refine er_neS ?_
  | with_reducible refine er_eqB ?_
  | with_reducible refine er_neB ?_
  | with_reducible refine er_lt ?_
  | with_reducible refine er_le ?_
  | with_reducible refine er_gt ?_
  | with_reducible refine er_ge ?_
  | with_reducible refine er_isN_non ?_
  | with_reducible refine er_isN_bl ?_
  | with_reducible refine er_isN_int ?_
  | with_reducible refine er_isN_str ?_
  | with_reducible refine er_isN_ref ?_
  | with_reducible refine er_notN_non ?_
  | with_reducible refine er_notN_bl ?_
  | with_reducible refine er_notN_int ?_
  | with_reducible refine er_notN_str ?_
  | with_reducible refine er_notN_ref ?_
  | with_reducible refine er_isN ?_
  | with_reducible refine er_notN ?_
  | with_reducible refine ec_int ?_
  | with_reducible refine ec_intB ?_
  | with_reducible refine ec_max2 ?_
  | with_reducible refine ec_min2 ?_
  | with_reducible refine ip_I ?_
  | ((with_reducible refine eg_name ?_); (try dsimp only [L2.wipe, List.set_cons_zero, List.set_cons_succ]))
  | with_reducible refine eg_sub ?_
  | with_reducible refine egs_cons ?_
  | with_reducible refine egs_nil ?_
  | with_reducible refine tru_bl ?_
  | with_reducible refine tru_int ?_
  | with_reducible refine tru_non ?_
  | with_reducible refine iteT ?_
  | with_reducible refine iteF ?_
  | with_reducible refine ite_nt ?_
  | with_reducible refine ite_nf ?_
  | with_reducible refine ⟨_, rfl, ?_⟩)
local macro_rules | `(tactic| k_extra "s") => `(tactic| ((first | k_extra "x1" | ((with_reducible refine es_unf ?_); refine es_seq ?_)); (repeat k_extra "x1")))
local macro_rules | `(tactic| k_extra "x") => `(tactic| (repeat first | k_extra "x1" | ((with_reducible refine es_unf ?_); refine es_seq ?_)))
local macro_rules | `(tactic| k_extra "start") => `(tactic| dsimp only [L2.start, List.map_cons, List.map_nil, List.length_cons, List.length_nil, Nat.reduceAdd, Nat.reduceSub, List.replicate, List.cons_append, List.nil_append, Nat.zero_add])
local macro_rules | `(tactic| k_extra "e1") => `(tactic| first
  | with_reducible refine es_next ?_
  | ((with_reducible show Ee (tVar _) _ _ _); refine ee_var rfl ?_)
  | with_reducible refine ee_c ?_
  | with_reducible refine ee_op ?_
  | with_reducible refine ee_un ?_
  | with_reducible refine eu_neg ?_
  | with_reducible refine ee_cb ?_
  | with_reducible refine ee_call ?_
  | with_reducible refine ea_nil ?_
  | with_reducible refine ea_cons ?_
  | with_reducible refine ee_sl ?_
  | with_reducible refine eo_no ?_
  | with_reducible refine eo_part ?_
  | with_reducible refine ee_tup ?_
  | with_reducible refine ee_lst ?_
  | with_reducible refine et_test ?_
  | with_reducible refine et_tB ?_
  | with_reducible refine et_tru ?_
  | with_reducible refine et_and ?_
  | with_reducible refine et_or ?_
  | with_reducible refine et_not ?_
  | with_reducible refine ee_and ?_
  | with_reducible refine ee_or ?_
  | with_reducible refine ee_not ?_
  | with_reducible refine ee_if ?_
  | with_reducible refine ee_chain ?_
  | with_reducible refine er_addI ?_
  | with_reducible refine er_subI ?_
  | with_reducible refine er_eqI ?_
  | with_reducible refine er_neI ?_
  | with_reducible refine er_eqNI ?_
  | with_reducible refine er_eqS ?_
  | with_reducible refine er_neS ?_
  | with_reducible refine er_eqB ?_
  | with_reducible refine er_neB ?_
  | with_reducible refine er_lt ?_
  | with_reducible refine er_le ?_
  | with_reducible refine er_gt ?_
  | with_reducible refine er_ge ?_
  | with_reducible refine er_isN_non ?_
  | with_reducible refine er_isN_bl ?_
  | with_reducible refine er_isN_int ?_
  | with_reducible refine er_isN_str ?_
  | with_reducible refine er_isN_ref ?_
  | with_reducible refine er_notN_non ?_
  | with_reducible refine er_notN_bl ?_
  | with_reducible refine er_notN_int ?_
  | with_reducible refine er_notN_str ?_
  | with_reducible refine er_notN_ref ?_
  | with_reducible refine er_isN ?_
  | with_reducible refine er_notN ?_
  | with_reducible refine ec_int ?_
  | with_reducible refine ec_intB ?_
  | with_reducible refine ec_max2 ?_
  | with_reducible refine ec_min2 ?_
  | with_reducible refine ip_I ?_
  | ((with_reducible refine eg_name ?_); (try dsimp only [L2.wipe, List.set_cons_zero, List.set_cons_succ]))
  | with_reducible refine eg_sub ?_
  | with_reducible refine egs_cons ?_
  | with_reducible refine egs_nil ?_
  | with_reducible refine tru_bl ?_
  | with_reducible refine tru_int ?_
  | with_reducible refine tru_non ?_
  | with_reducible refine iteT ?_
  | with_reducible refine iteF ?_
  | with_reducible refine ite_nt ?_
  | with_reducible refine ite_nf ?_
  | with_reducible refine ex_bl ?_
  | with_reducible refine ex_int ?_
  | with_reducible refine ex_str ?_
  | with_reducible refine ex_strx ?_
  | with_reducible refine ex_ints1 ?_
  | with_reducible refine ex_ints2 ?_)
local macro_rules | `(tactic| k_extra "t1") => `(tactic| first
  | with_reducible refine es_asg ?_
  | with_reducible refine es_if ?_
  | with_reducible refine es_ret ?_
  | with_reducible refine es_drop ?_
  | with_reducible refine es_augS ?_
  | with_reducible refine es_fld ?_)
local macro_rules | `(tactic| k_extra "e") => `(tactic| first
  | ((with_reducible refine es_seq ?_); (try k_extra "t1"); (repeat k_extra "e1"))
  | (k_extra "t1"; (repeat k_extra "e1"))
  | (k_extra "e1"; (repeat k_extra "e1"))
  | ((with_reducible refine es_unf ?_); (refine es_seq ?_); (try k_extra "t1"); (repeat k_extra "e1")))
def topS (i : Nat) : Stmt := PySem.Challenge.pw_samemeant_k01_deeds_in_force.main.body.getD i (.Pass ⟨0, 0, 0, 0⟩)
abbrev s_inserted : Stmt := topS 3
theorem sc_inserted : FnScope ["replica", "deed", "result", "behind", "index", "character", "mark"] ["replica", "deed"] (defScope s_inserted) := ⟨rfl, rfl, rfl, by decide +kernel, rfl, by decide +kernel, by decide +kernel⟩
abbrev s_Deeds_init : Stmt := inClass (topS 4) 0
theorem sc_Deeds_init : FnScope ["self", "_"] ["self"] (defScope s_Deeds_init) := ⟨rfl, rfl, rfl, by decide +kernel, rfl, by decide +kernel, by decide +kernel⟩
abbrev s_Deeds_counts : Stmt := inClass (topS 4) 1
theorem sc_Deeds_counts : FnScope ["self", "row"] ["self"] (defScope s_Deeds_counts) := ⟨rfl, rfl, rfl, by decide +kernel, rfl, by decide +kernel, by decide +kernel⟩
abbrev s_Deeds_add : Stmt := inClass (topS 4) 2
theorem sc_Deeds_add : FnScope ["self", "replica", "deed"] ["self", "replica", "deed"] (defScope s_Deeds_add) := ⟨rfl, rfl, rfl, by decide +kernel, rfl, by decide +kernel, by decide +kernel⟩
abbrev s_Deeds_copy : Stmt := inClass (topS 4) 3
theorem sc_Deeds_copy : FnScope ["self", "result", "row"] ["self"] (defScope s_Deeds_copy) := ⟨rfl, rfl, rfl, by decide +kernel, rfl, by decide +kernel, by decide +kernel⟩
abbrev s_Deeds_forces : Stmt := inClass (topS 4) 4
theorem sc_Deeds_forces : FnScope ["self", "replica", "row", "taken", "result", "place", "in_force"] ["self", "replica"] (defScope s_Deeds_forces) := ⟨rfl, rfl, rfl, by decide +kernel, rfl, by decide +kernel, by decide +kernel⟩
abbrev s_Deeds_in_force : Stmt := inClass (topS 4) 5
theorem sc_Deeds_in_force : FnScope ["self", "replica", "place"] ["self", "replica", "place"] (defScope s_Deeds_in_force) := ⟨rfl, rfl, rfl, by decide +kernel, rfl, by decide +kernel, by decide +kernel⟩
abbrev s_Deeds_changes : Stmt := inClass (topS 4) 6
theorem sc_Deeds_changes : FnScope ["self", "module", "result", "replica", "deed", "in_force"] ["self", "module"] (defScope s_Deeds_changes) := ⟨rfl, rfl, rfl, by decide +kernel, rfl, by decide +kernel, by decide +kernel⟩
abbrev s_Deeds_row : Stmt := inClass (topS 4) 8
theorem sc_Deeds_row : FnScope ["self", "module", "removed", "found", "replica", "deed", "in_force", "places", "seen", "mark", "behind", "char", "index"] ["self", "module"] (defScope s_Deeds_row) := ⟨rfl, rfl, rfl, by decide +kernel, rfl, by decide +kernel, by decide +kernel⟩
abbrev s__law_mix : Stmt := topS 6
theorem sc__law_mix : FnScope ["cell", "k", "value"] ["cell", "k"] (defScope s__law_mix) := ⟨rfl, rfl, rfl, by decide +kernel, rfl, by decide +kernel, by decide +kernel⟩
abbrev s__law_draws : Stmt := topS 7
theorem sc__law_draws : FnScope ["script", "draws", "k", "cell", "place"] ["script"] (defScope s__law_draws) := ⟨rfl, rfl, rfl, by decide +kernel, rfl, by decide +kernel, by decide +kernel⟩
abbrev s__law_at : Stmt := topS 8
theorem sc__law_at : FnScope ["draws", "index"] ["draws", "index"] (defScope s__law_at) := ⟨rfl, rfl, rfl, by decide +kernel, rfl, by decide +kernel, by decide +kernel⟩
abbrev s__law_is_integer : Stmt := topS 9
theorem sc__law_is_integer : FnScope ["actual"] ["actual"] (defScope s__law_is_integer) := ⟨rfl, rfl, rfl, by decide +kernel, rfl, by decide +kernel, by decide +kernel⟩
abbrev s__law_same : Stmt := topS 10
theorem sc__law_same : FnScope ["actual", "expected", "k"] ["actual", "expected"] (defScope s__law_same) := ⟨rfl, rfl, rfl, by decide +kernel, rfl, by decide +kernel, by decide +kernel⟩
abbrev s__law_inserted : Stmt := topS 11
theorem sc__law_inserted : FnScope ["replica", "deed", "found", "behind", "k"] ["replica", "deed"] (defScope s__law_inserted) := ⟨rfl, rfl, rfl, by decide +kernel, rfl, by decide +kernel, by decide +kernel⟩
abbrev s__law_forces : Stmt := topS 12
theorem sc__law_forces : FnScope ["row", "forces", "k", "place", "takers", "j"] ["row"] (defScope s__law_forces) := ⟨rfl, rfl, rfl, by decide +kernel, rfl, by decide +kernel, by decide +kernel⟩
abbrev s__law_changes : Stmt := topS 13
theorem sc__law_changes : FnScope ["rows", "module", "found", "replica", "forces", "k"] ["rows", "module"] (defScope s__law_changes) := ⟨rfl, rfl, rfl, by decide +kernel, rfl, by decide +kernel, by decide +kernel⟩
abbrev s__law_row : Stmt := topS 14
theorem sc__law_row : FnScope ["rows", "module", "removed", "found", "replica", "deed", "force", "mark", "behind", "char", "row", "at", "each"] ["rows", "module"] (defScope s__law_row) := ⟨rfl, rfl, rfl, by decide +kernel, rfl, by decide +kernel, by decide +kernel⟩
abbrev s__law_last : Stmt := topS 15
theorem sc__law_last : FnScope ["rows", "last", "row", "deed"] ["rows"] (defScope s__law_last) := ⟨rfl, rfl, rfl, by decide +kernel, rfl, by decide +kernel, by decide +kernel⟩
abbrev s__law_modules : Stmt := topS 16
theorem sc__law_modules : FnScope [] [] (defScope s__law_modules) := ⟨rfl, rfl, rfl, by decide +kernel, rfl, by decide +kernel, by decide +kernel⟩
abbrev s__law_letters : Stmt := topS 17
theorem sc__law_letters : FnScope ["draws", "index", "chars", "text", "k"] ["draws", "index"] (defScope s__law_letters) := ⟨rfl, rfl, rfl, by decide +kernel, rfl, by decide +kernel, by decide +kernel⟩
abbrev s__law_deed : Stmt := topS 18
theorem sc__law_deed : FnScope ["draws", "index", "rows", "replica", "own", "module", "marks", "removed", "k", "behind", "number", "mark", "deed", "each"] ["draws", "index", "rows", "replica"] (defScope s__law_deed) := ⟨rfl, rfl, rfl, by decide +kernel, rfl, by decide +kernel, by decide +kernel⟩
abbrev s__law_visible : Stmt := topS 19
theorem sc__law_visible : FnScope ["rows", "counts", "k"] ["rows", "counts"] (defScope s__law_visible) := ⟨rfl, rfl, rfl, by decide +kernel, rfl, by decide +kernel, by decide +kernel⟩
abbrev s__law_triples : Stmt := topS 20
theorem sc__law_triples : FnScope ["draws", "start", "steps", "most", "rows", "counts", "k", "triples", "base", "replica", "other", "deed", "j"] ["draws", "start", "steps", "most"] (defScope s__law_triples) := ⟨rfl, rfl, rfl, by decide +kernel, rfl, by decide +kernel, by decide +kernel⟩
abbrev s__law_rows_of : Stmt := topS 21
theorem sc__law_rows_of : FnScope ["triples", "rows", "replica", "place", "deed", "k"] ["triples"] (defScope s__law_rows_of) := ⟨rfl, rfl, rfl, by decide +kernel, rfl, by decide +kernel, by decide +kernel⟩
abbrev s__law_deeds : Stmt := topS 22
theorem sc__law_deeds : FnScope ["triples", "deeds", "replica", "place", "deed"] ["triples"] (defScope s__law_deeds) := ⟨rfl, rfl, rfl, by decide +kernel, rfl, by decide +kernel, by decide +kernel⟩
abbrev s__law_is_forced : Stmt := topS 23
theorem sc__law_is_forced : FnScope ["rows", "deeds", "replica", "told", "module", "place", "later", "row", "k"] ["rows", "deeds"] (defScope s__law_is_forced) := ⟨rfl, rfl, rfl, by decide +kernel, rfl, by decide +kernel, by decide +kernel⟩
abbrev s_law : Stmt := topS 24
theorem sc_law : FnScope ["script", "draws", "count", "triples", "rows", "deeds", "other", "replica", "deed", "grown", "pair", "turn", "row"] ["script"] (defScope s_law) := ⟨rfl, rfl, rfl, by decide +kernel, rfl, by decide +kernel, by decide +kernel⟩
theorem tb_in_Deeds_row (A : Ad) : (A.tb_Deeds_row, (("Deeds.row" : Str) ++ (".<locals>." : Str)) ++ ("<lambda>" : Str)) ∈ Tb A := by unfold Tb; simp
theorem tb_in__law_row (A : Ad) : (A.tb__law_row, (("_law_row" : Str) ++ (".<locals>." : Str)) ++ ("<lambda>" : Str)) ∈ Tb A := by unfold Tb; simp
theorem tb_un_Deeds_row {A : Ad} (ne : TNe A) : ∀ q ∈ Tb A, q.1 = A.tb_Deeds_row → q.2 = (("Deeds.row" : Str) ++ (".<locals>." : Str)) ++ ("<lambda>" : Str) := tb_un ne _ _ (tb_in_Deeds_row A)
theorem tb_un__law_row {A : Ad} (ne : TNe A) : ∀ q ∈ Tb A, q.1 = A.tb__law_row → q.2 = (("_law_row" : Str) ++ (".<locals>." : Str)) ++ ("<lambda>" : Str) := tb_un ne _ _ (tb_in__law_row A)
structure Facts (K : PySem.W.Frag) (mg : Str → Option Value) (base : Heap) (A : Ad) : Prop where
  tne : TNe A
  tb_Deeds_row : LamX.TabB base mg A.cd_Deeds_row A.tb_Deeds_row
  tb__law_row : LamX.TabB base mg A.cd__law_row A.tb__law_row
  cf : Cf K A
  f_inserted : Fnd K mg "inserted" s_inserted
  f_Deeds_init : FndI K A.cDeeds "Deeds.__init__" s_Deeds_init
  f_Deeds_counts : FndM K A.cDeeds "counts" "Deeds.counts" s_Deeds_counts
  f_Deeds_add : FndM K A.cDeeds "add" "Deeds.add" s_Deeds_add
  f_Deeds_copy : FndM K A.cDeeds "copy" "Deeds.copy" s_Deeds_copy
  f_Deeds_forces : FndM K A.cDeeds "forces" "Deeds.forces" s_Deeds_forces
  f_Deeds_in_force : FndM K A.cDeeds "in_force" "Deeds.in_force" s_Deeds_in_force
  f_Deeds_changes : FndM K A.cDeeds "changes" "Deeds.changes" s_Deeds_changes
  f_Deeds_row : FndMC K A.cDeeds "row" "Deeds.row" s_Deeds_row A.cd_Deeds_row
  f__law_mix : Fnd K mg "_law_mix" s__law_mix
  f__law_draws : Fnd K mg "_law_draws" s__law_draws
  f__law_at : Fnd K mg "_law_at" s__law_at
  f__law_is_integer : Fnd K mg "_law_is_integer" s__law_is_integer
  f__law_same : Fnd K mg "_law_same" s__law_same
  f__law_inserted : Fnd K mg "_law_inserted" s__law_inserted
  f__law_forces : Fnd K mg "_law_forces" s__law_forces
  f__law_changes : Fnd K mg "_law_changes" s__law_changes
  f__law_row : FndC K mg "_law_row" s__law_row A.cd__law_row
  f__law_last : Fnd K mg "_law_last" s__law_last
  f__law_modules : Fnd K mg "_law_modules" s__law_modules
  f__law_letters : Fnd K mg "_law_letters" s__law_letters
  f__law_deed : Fnd K mg "_law_deed" s__law_deed
  f__law_visible : Fnd K mg "_law_visible" s__law_visible
  f__law_triples : Fnd K mg "_law_triples" s__law_triples
  f__law_rows_of : Fnd K mg "_law_rows_of" s__law_rows_of
  f__law_deeds : Fnd K mg "_law_deeds" s__law_deeds
  f__law_is_forced : Fnd K mg "_law_is_forced" s__law_is_forced
  f_law : Fnd K mg "law" s_law
  b_bool : mg "bool" = none
  b_each : mg "each" = none
  b_enumerate : mg "enumerate" = none
  b_int : mg "int" = none
  b_isinstance : mg "isinstance" = none
  b_len : mg "len" = none
  b_list : mg "list" = none
  b_max : mg "max" = none
  b_min : mg "min" = none
  b_range : mg "range" = none
  b_sorted : mg "sorted" = none
  b_str : mg "str" = none
  b_tuple : mg "tuple" = none
  b_zip : mg "zip" = none
  c_REPLICAS : ∃ u, RelV (.int 8) u ∧ mg "REPLICAS" = some u
  g_Deeds : mg "Deeds" = some (.ref A.cDeeds)
section
variable {P : Program} {w : World} {K : PySem.W.Frag} {mg : Str → Option Value} {base : Heap} {A : Ad}
theorem has_inserted (Z : Facts K mg base A) : Has P w K mg base CX0 1 "inserted" ["replica", "deed"] (up (S_inserted K A)) :=
  Has.mk0 (t := t_inserted K A) Z.f_inserted sc_inserted (fun _ _ _ _ _ _ us hl => match us, hl with | [_, _], _ => rfl) len_inserted
    (fun f cdv A0 outer s H E hr => (pss_cons (ps_set (i := 2) sc_inserted.nd rfl (by first | exact Or.inl rfl | exact Or.inr rfl) (pe_lst pa_nil)) (pss_cons (ps_set (i := 3) sc_inserted.nd rfl (by first | exact Or.inl rfl | exact Or.inr rfl) (pe_ix ix_seq (pv 1) pe_int (fun _ _ => rfl))) (pss_cons (ps_for PassesOwn.never rfl (pi_enumS (by rfl) Z.b_enumerate (pa_cons (pe_ix ix_seq (pv 1) pe_int (fun _ _ => rfl)) pa_nil)) (pg_tup rfl (pgs_cons (pg_name (i := 4) sc_inserted.nd rfl (by first | exact Or.inl rfl | exact Or.inr rfl)) (pgs_cons (pg_name (i := 5) sc_inserted.nd rfl (by first | exact Or.inl rfl | exact Or.inr rfl)) pgs_nil))) (pss_cons (ps_set (i := 6) sc_inserted.nd rfl (by first | exact Or.inl rfl | exact Or.inr rfl) (pe_tup (pa_cons (pe_op op_addU (pe_ix ix_seq (pv 1) pe_int (fun _ _ => rfl)) (pv 4)) (pa_cons (pv 0) pa_nil)))) (pss_cons (ps_expr (pe_bm PySem.F.plainAttrs_list PySem.F.slot_list_append PySem.F.type_list_append mt_append (pv 2) (pa_cons (pe_tup (pa_cons (pv 6) (pa_cons (pv 3) (pa_cons (pv 5) pa_nil)))) pa_nil))) (pss_one (ps_set (i := 3) sc_inserted.nd rfl (by first | exact Or.inl rfl | exact Or.inr rfl) (pv 6)))))) (pss_one (ps_ret (pv 2)))))))
    ok_inserted
theorem has_Deeds_init (Z : Facts K mg base A) : HasI P w K mg base CX0 1 A.cDeeds ["self"] (up (S_Deeds_init K A)) :=
  HasI.mk0 (t := t_Deeds_init K A) Z.f_Deeds_init sc_Deeds_init (fun _ _ _ _ _ _ us hl => match us, hl with | [_], _ => rfl) len_Deeds_init
    (fun f cdv A0 outer s H E hr => (pss_one (ps_fld (pv 0) (pe_lc (own := [("_", 1)]) (g := (gName 1)) (by rfl) sc_Deeds_init.nd (pi_range1 (by rfl) Z.b_range (pa_cons (pe_globE rfl Z.c_REPLICAS) pa_nil)) (blkOk_by (own := [("_", 1)]) (N := ["self", "_"]) (sc := defScope s_Deeds_init) (by decide +kernel)) (fun _ _ _ _ _ => (pg_name (i := 1) sc_Deeds_init.nd rfl (by first | exact Or.inl rfl | exact Or.inr rfl))) (fun _ _ _ _ _ => pts_nil) (fun _ _ _ _ _ => (pe_lst pa_nil))) rfl)))
    (ok_Deeds_init Z.cf)
theorem has_Deeds_counts (Z : Facts K mg base A) : HasM P w K mg base CX0 1 A.cDeeds "counts" ["self"] (up (S_Deeds_counts K A)) :=
  HasM.mk0 (t := t_Deeds_counts K A) Z.f_Deeds_counts sc_Deeds_counts (fun _ _ _ _ _ _ us hl => match us, hl with | [_], _ => rfl) len_Deeds_counts
    (fun f cdv A0 outer s H E hr => (pss_one (ps_ret (pe_lc (own := [("row", 1)]) (g := (gName 1)) (by rfl) sc_Deeds_counts.nd (pi_list (pe_fld (pv 0) rfl)) (blkOk_by (own := [("row", 1)]) (N := ["self", "row"]) (sc := defScope s_Deeds_counts) (by decide +kernel)) (fun _ _ _ _ _ => (pg_name (i := 1) sc_Deeds_counts.nd rfl (by first | exact Or.inl rfl | exact Or.inr rfl))) (fun _ _ _ _ _ => pts_nil) (fun _ _ _ _ _ => (pe_callB call_lenU (by rfl) Z.b_len (by decide +kernel) (pa_cons (pv 1) pa_nil)))))))
    (ok_Deeds_counts Z.cf)
theorem has_Deeds_add (Z : Facts K mg base A) : HasM P w K mg base CX0 1 A.cDeeds "add" ["self", "replica", "deed"] (up (S_Deeds_add K A)) :=
  HasM.mk0 (t := t_Deeds_add K A) Z.f_Deeds_add sc_Deeds_add (fun _ _ _ _ _ _ us hl => match us, hl with | [_, _, _], _ => rfl) len_Deeds_add
    (fun f cdv A0 outer s H E hr => (pss_one (ps_expr (pe_bm PySem.F.plainAttrs_list PySem.F.slot_list_append PySem.F.type_list_append mt_append (pe_ix ix_seq (pe_fld (pv 0) rfl) (pv 1) (fun _ _ => rfl)) (pa_cons (pv 2) pa_nil)))))
    (ok_Deeds_add Z.cf)
theorem has_Deeds_copy (Z : Facts K mg base A) : HasM P w K mg base CX0 3 A.cDeeds "copy" ["self"] (up (S_Deeds_copy K A)) :=
  HasM.mk0 (t := t_Deeds_copy K A) Z.f_Deeds_copy sc_Deeds_copy (fun _ _ _ _ _ _ us hl => match us, hl with | [_], _ => rfl) len_Deeds_copy
    (fun f cdv A0 outer s H E hr => (pss_cons (ps_set (i := 1) sc_Deeds_copy.nd rfl (by first | exact Or.inl rfl | exact Or.inr rfl) (pe_makeH0 (has_Deeds_init Z) (hr.mono (by decide)) (by rfl) Z.g_Deeds pass0)) (pss_cons (ps_fld (pv 1) (pe_lc (own := [("row", 2)]) (g := (gName 2)) (by rfl) sc_Deeds_copy.nd (pi_list (pe_fld (pv 0) rfl)) (blkOk_by (own := [("row", 2)]) (N := ["self", "result", "row"]) (sc := defScope s_Deeds_copy) (by decide +kernel)) (fun _ _ _ _ _ => (pg_name (i := 2) sc_Deeds_copy.nd rfl (by first | exact Or.inl rfl | exact Or.inr rfl))) (fun _ _ _ _ _ => pts_nil) (fun _ _ _ _ _ => (pe_callTy call_listU (by rfl) Z.b_list (by decide +kernel) (pa_cons (pv 2) pa_nil)))) rfl) (pss_one (ps_ret (pv 1))))))
    (ok_Deeds_copy Z.cf)
theorem has_Deeds_forces (Z : Facts K mg base A) : HasM P w K mg base CX0 1 A.cDeeds "forces" ["self", "replica"] (up (S_Deeds_forces K A)) :=
  HasM.mk0 (t := t_Deeds_forces K A) Z.f_Deeds_forces sc_Deeds_forces (fun _ _ _ _ _ _ us hl => match us, hl with | [_, _], _ => rfl) len_Deeds_forces
    (fun f cdv A0 outer s H E hr => (pss_cons (ps_set (i := 2) sc_Deeds_forces.nd rfl (by first | exact Or.inl rfl | exact Or.inr rfl) (pe_ix ix_seq (pe_fld (pv 0) rfl) (pv 1) (fun _ _ => rfl))) (pss_cons (ps_set (i := 3) sc_Deeds_forces.nd rfl (by first | exact Or.inl rfl | exact Or.inr rfl) pe_dnewK) (pss_cons (ps_set (i := 4) sc_Deeds_forces.nd rfl (by first | exact Or.inl rfl | exact Or.inr rfl) (pe_lst pa_nil)) (pss_cons (ps_for PassesOwn.never rfl (pi_range3 (by rfl) Z.b_range (pa_cons (pe_callB call_lenU (by rfl) Z.b_len (by decide +kernel) (pa_cons (pv 2) pa_nil)) (pa_cons pe_int (pa_cons (pe_un un_neg pe_int) pa_nil)))) (pg_name (i := 5) sc_Deeds_forces.nd rfl (by first | exact Or.inl rfl | exact Or.inr rfl)) (pss_cons (ps_set (i := 6) sc_Deeds_forces.nd rfl (by first | exact Or.inl rfl | exact Or.inr rfl) (pe_cmp (pc_dnotin (hu_of hr) (pv 5) (pv 3)))) (pss_cons (ps_if (PW.pt (pw_and (pt_tru (pv 6)) (pw_and1 (pt_cmpR (op_eqU (rm64 hr)) (pe_ix ix_seq (pe_ix ix_seq (pv 2) (pe_op op_subI (pv 5) pe_int) (fun _ _ => rfl)) pe_int (fun _ _ => rfl)) pe_str (nomark _))))) (pss_one (ps_dput (hu_of hr) (pv 3) (pe_ix ix_seq (pe_ix ix_seq (pv 2) (pe_op op_subI (pv 5) pe_int) (fun _ _ => rfl)) pe_int (fun _ _ => rfl)) pe_bl rfl)) pss_nil) (pss_one (ps_expr (pe_bm PySem.F.plainAttrs_list PySem.F.slot_list_append PySem.F.type_list_append mt_append (pv 4) (pa_cons (pv 6) pa_nil))))))) (pss_one (ps_ret (pe_revL (pv 4)))))))))
    (ok_Deeds_forces Z.cf)
theorem has_Deeds_in_force (Z : Facts K mg base A) : HasM P w K mg base CX0 2 A.cDeeds "in_force" ["self", "replica", "place"] (up (S_Deeds_in_force K A)) :=
  HasM.mk0 (t := t_Deeds_in_force K A) Z.f_Deeds_in_force sc_Deeds_in_force (fun _ _ _ _ _ _ us hl => match us, hl with | [_, _, _], _ => rfl) len_Deeds_in_force
    (fun f cdv A0 outer s H E hr => (pss_one (ps_ret (pe_ix ix_seq (pe_methH (pv 0) Z.cf.cl (has_Deeds_forces Z) (hr.mono (by decide)) pass0 (pa_cons (pv 1) pa_nil)) (pe_op op_subI (pv 2) pe_int) (fun _ _ => rfl)))))
    (ok_Deeds_in_force Z.cf)
theorem has_Deeds_changes (Z : Facts K mg base A) : HasM P w K mg base CX0 2 A.cDeeds "changes" ["self", "module"] (up (S_Deeds_changes K A)) :=
  HasM.mk0 (t := t_Deeds_changes K A) Z.f_Deeds_changes sc_Deeds_changes (fun _ _ _ _ _ _ us hl => match us, hl with | [_, _], _ => rfl) len_Deeds_changes
    (fun f cdv A0 outer s H E hr => (pss_cons (ps_set (i := 2) sc_Deeds_changes.nd rfl (by first | exact Or.inl rfl | exact Or.inr rfl) (pe_lst pa_nil)) (pss_cons (ps_for PassesOwn.never rfl (pi_range1 (by rfl) Z.b_range (pa_cons (pe_globE rfl Z.c_REPLICAS) pa_nil)) (pg_name (i := 3) sc_Deeds_changes.nd rfl (by first | exact Or.inl rfl | exact Or.inr rfl)) (pss_one (ps_for PassesOwn.never rfl (pi_zip (by rfl) Z.b_zip (pa_cons (pe_ix ix_seq (pe_fld (pv 0) rfl) (pv 3) (fun _ _ => rfl)) (pa_cons (pe_methH (pv 0) Z.cf.cl (has_Deeds_forces Z) (hr.mono (by decide)) pass0 (pa_cons (pv 3) pa_nil)) pa_nil))) (pg_tup rfl (pgs_cons (pg_name (i := 4) sc_Deeds_changes.nd rfl (by first | exact Or.inl rfl | exact Or.inr rfl)) (pgs_cons (pg_name (i := 5) sc_Deeds_changes.nd rfl (by first | exact Or.inl rfl | exact Or.inr rfl)) pgs_nil))) (pss_one (ps_if (PW.pt (pw_and (pt_cmpR (op_eqU (rm64 hr)) (pe_ix ix_seq (pv 4) pe_int (fun _ _ => rfl)) pe_str (nomark _)) (pw_and1 (pt_cmpR (op_eqU (rm64 hr)) (pe_ix ix_seq (pv 4) pe_int (fun _ _ => rfl)) (pv 1) (nomark _))))) (pss_one (ps_expr (pe_bm PySem.F.plainAttrs_list PySem.F.slot_list_append PySem.F.type_list_append mt_append (pv 2) (pa_cons (pe_tup (pa_cons (pv 3) (pa_cons (pv 4) (pa_cons (pv 5) pa_nil)))) pa_nil)))) pss_nil))))) (pss_one (ps_ret (pv 2))))))
    (ok_Deeds_changes Z.cf)
theorem has_Deeds_row (Z : Facts K mg base A) : HasM P w K mg base CX0 3 A.cDeeds "row" ["self", "module"] (up (S_Deeds_row K A)) :=
  HasM.mk0C (t := t_Deeds_row K A) Z.f_Deeds_row sc_Deeds_row (fun _ _ _ _ _ _ us hl => match us, hl with | [_, _], _ => rfl) len_Deeds_row
    (fun f A0 outer s H E hr => (pss_cons (ps_set (i := 2) sc_Deeds_row.nd rfl (by first | exact Or.inl rfl | exact Or.inr rfl) pe_dnewT) (pss_cons (ps_set (i := 3) sc_Deeds_row.nd rfl (by first | exact Or.inl rfl | exact Or.inr rfl) (pe_lst pa_nil)) (pss_cons (ps_for PassesOwn.never rfl (pi_list (pe_methH (pv 0) Z.cf.cl (has_Deeds_changes Z) (hr.mono (by decide)) pass0 (pa_cons (pv 1) pa_nil))) (pg_tup rfl (pgs_cons (pg_name (i := 4) sc_Deeds_row.nd rfl (by first | exact Or.inl rfl | exact Or.inr rfl)) (pgs_cons (pg_name (i := 5) sc_Deeds_row.nd rfl (by first | exact Or.inl rfl | exact Or.inr rfl)) (pgs_cons (pg_name (i := 6) sc_Deeds_row.nd rfl (by first | exact Or.inl rfl | exact Or.inr rfl)) pgs_nil)))) (pss_cons (ps_expr (pe_bm PySem.F.plainAttrs_list PySem.F.slot_list_extend PySem.F.type_list_extend mt_extend (pv 3) (pa_cons (pe_lc (own := [("mark", 9), ("behind", 10), ("char", 11)]) (g := (gTup K 3 (gCons (gName 9) (gCons (gName 10) (gCons (gName 11) gNil))))) (by rfl) sc_Deeds_row.nd (pi_list (pe_callH (has_inserted Z) (hr.mono (by decide)) (by rfl) pass0 (pa_cons (pv 4) (pa_cons (pv 5) pa_nil)))) (blkOk_by (own := [("mark", 9), ("behind", 10), ("char", 11)]) (N := ["self", "module", "removed", "found", "replica", "deed", "in_force", "places", "seen", "mark", "behind", "char", "index"]) (sc := defScope s_Deeds_row) (by decide +kernel)) (fun _ _ _ _ _ => (pg_tup rfl (pgs_cons (pg_name (i := 9) sc_Deeds_row.nd rfl (by first | exact Or.inl rfl | exact Or.inr rfl)) (pgs_cons (pg_name (i := 10) sc_Deeds_row.nd rfl (by first | exact Or.inl rfl | exact Or.inr rfl)) (pgs_cons (pg_name (i := 11) sc_Deeds_row.nd rfl (by first | exact Or.inl rfl | exact Or.inr rfl)) pgs_nil))))) (fun _ _ _ _ _ => pts_nil) (fun _ _ _ _ _ => (pe_tup (pa_cons (pv 9) (pa_cons (pv 10) (pa_cons (pv 11) (pa_cons (pv 6) pa_nil))))))) pa_nil))) (pss_one (ps_if (pt_tru (pv 6)) (pss_one (ps_expr (pe_bm PySem.F.plainAttrs_dict PySem.F.slot_dict_update PySem.F.type_dict_update (mt_updT (hu_of hr)) (pv 2) (pa_cons (pe_dcT (own := [("mark", 9)]) (g := (gName 9)) (by rfl) (hu_of hr) sc_Deeds_row.nd (pi_tup (pe_ix ix_seq (pv 5) pe_int (fun _ _ => rfl))) (blkOk_by (own := [("mark", 9)]) (N := ["self", "module", "removed", "found", "replica", "deed", "in_force", "places", "seen", "mark", "behind", "char", "index"]) (sc := defScope s_Deeds_row) (by decide +kernel)) (fun _ _ _ _ _ => (pg_name (i := 9) sc_Deeds_row.nd rfl (by first | exact Or.inl rfl | exact Or.inr rfl))) (fun _ _ _ _ _ => pts_nil) (fun _ _ _ _ _ => (pv 9)) (fun _ _ _ _ _ => pe_bl)) pa_nil)))) pss_nil)))) (pss_cons (ps_set (i := 7) sc_Deeds_row.nd rfl (by first | exact Or.inl rfl | exact Or.inr rfl) (pe_lst pa_nil)) (pss_cons (ps_set (i := 8) sc_Deeds_row.nd rfl (by first | exact Or.inl rfl | exact Or.inr rfl) pe_dnewT) (pss_cons (ps_for PassesOwn.never rfl (pi_list (pe_sortL hr Z.tb_Deeds_row rfl (tb_in_Deeds_row A) (tb_un_Deeds_row Z.tne) (by rfl) Z.b_sorted (by decide +kernel) (pa_cons (pv 3) pa_nil) (by exact ⟨rfl, rfl, rfl, by decide +kernel, by decide +kernel, rfl, fun _ => rfl⟩) rfl (fun _ _ _ _ _ => rfl))) (pg_tup rfl (pgs_cons (pg_name (i := 9) sc_Deeds_row.nd rfl (by first | exact Or.inl rfl | exact Or.inr rfl)) (pgs_cons (pg_name (i := 10) sc_Deeds_row.nd rfl (by first | exact Or.inl rfl | exact Or.inr rfl)) (pgs_cons (pg_name (i := 11) sc_Deeds_row.nd rfl (by first | exact Or.inl rfl | exact Or.inr rfl)) (pgs_cons (pg_name (i := 6) sc_Deeds_row.nd rfl (by first | exact Or.inl rfl | exact Or.inr rfl)) pgs_nil))))) (pss_cons (ps_set (i := 12) sc_Deeds_row.nd rfl (by first | exact Or.inl rfl | exact Or.inr rfl) pe_int) (pss_cons (ps_if (pt_cmpR op_notN1 (pv 10) pe_non (nomark _)) (pss_one (ps_set (i := 12) sc_Deeds_row.nd rfl (by first | exact Or.inl rfl | exact Or.inr rfl) (pe_op op_addU (pe_bm PySem.F.plainAttrs_list PySem.F.slot_list_index PySem.F.type_list_index (mt_indexD (rm65 hr)) (pv 7) (pa_cons (pv 10) pa_nil)) pe_int))) pss_nil) (pss_cons (ps_expr (pe_bm PySem.F.plainAttrs_list PySem.F.slot_list_insert PySem.F.type_list_insert mt_insertU (pv 7) (pa_cons (pv 12) (pa_cons (pv 9) pa_nil)))) (pss_one (ps_dput (hu_of hr) (pv 8) (pv 9) (pe_tup (pa_cons (pv 11) (pa_cons (pe_and (pv 6) (pe_one (pe_cmp (pc_dnotin (hu_of hr) (pv 9) (pv 2))))) pa_nil))) rfl)))))) (pss_one (ps_ret (pe_lc (own := [("mark", 9)]) (g := (gName 9)) (by rfl) sc_Deeds_row.nd (pi_list (pv 7)) (blkOk_by (own := [("mark", 9)]) (N := ["self", "module", "removed", "found", "replica", "deed", "in_force", "places", "seen", "mark", "behind", "char", "index"]) (sc := defScope s_Deeds_row) (by decide +kernel)) (fun _ _ _ _ _ => (pg_name (i := 9) sc_Deeds_row.nd rfl (by first | exact Or.inl rfl | exact Or.inr rfl))) (fun _ _ _ _ _ => pts_nil) (fun _ _ _ _ _ => (pe_op op_addU (pe_tup (pa_cons (pv 9) pa_nil)) (pe_dget (hu_of hr) (pv 8) (pv 9) (fun _ _ => rfl))))))))))))))
    (ok_Deeds_row Z.cf)
theorem has__law_mix (Z : Facts K mg base A) : Has P w K mg base CX0 1 "_law_mix" ["cell", "k"] (up (S__law_mix K A)) :=
  Has.mk0 (t := t__law_mix K A) Z.f__law_mix sc__law_mix (fun _ _ _ _ _ _ us hl => match us, hl with | [_, _], _ => rfl) len__law_mix
    (fun f cdv A0 outer s H E hr => (pss_cons (ps_set (i := 2) sc__law_mix.nd rfl (by first | exact Or.inl rfl | exact Or.inr rfl) (pe_op op_modU (pe_callTy call_intU (by rfl) Z.b_int (by decide +kernel) (pa_cons (pe_op op_addU (pe_op op_addU (pe_op op_mulU (pe_callTy call_intU (by rfl) Z.b_int (by decide +kernel) (pa_cons (pv 0) pa_nil)) pe_int) (pe_op op_mulU (pv 1) pe_int)) pe_int) pa_nil)) pe_int)) (pss_cons (ps_set (i := 2) sc__law_mix.nd rfl (by first | exact Or.inl rfl | exact Or.inr rfl) (pe_op op_modU (pe_callTy call_intU (by rfl) Z.b_int (by decide +kernel) (pa_cons (pe_op op_addU (pe_op op_addU (pe_op op_mulU (pv 2) (pv 2)) (pe_op op_mulU (pv 1) pe_int)) pe_int) pa_nil)) pe_int)) (pss_one (ps_ret (pe_op op_modU (pe_op op_divU (pv 2) pe_int) pe_int))))))
    ok__law_mix
theorem has__law_draws (Z : Facts K mg base A) : Has P w K mg base CX0 2 "_law_draws" ["script"] (up (S__law_draws K A)) :=
  Has.mk0 (t := t__law_draws K A) Z.f__law_draws sc__law_draws (fun _ _ _ _ _ _ us hl => match us, hl with | [_], _ => rfl) len__law_draws
    (fun f cdv A0 outer s H E hr => (pss_cons (ps_set (i := 1) sc__law_draws.nd rfl (by first | exact Or.inl rfl | exact Or.inr rfl) (pe_lst pa_nil)) (pss_cons (ps_for PassesOwn.never rfl (pi_range1 (by rfl) Z.b_range (pa_cons (pe_callB (call_min2U rfl) (by rfl) Z.b_min (by decide +kernel) (pa_cons pe_int (pa_cons (pe_callB call_lenU (by rfl) Z.b_len (by decide +kernel) (pa_cons (pv 0) pa_nil)) pa_nil))) pa_nil)) (pg_name (i := 2) sc__law_draws.nd rfl (by first | exact Or.inl rfl | exact Or.inr rfl)) (pss_cons (ps_set (i := 3) sc__law_draws.nd rfl (by first | exact Or.inl rfl | exact Or.inr rfl) (pe_callTy call_intU (by rfl) Z.b_int (by decide +kernel) (pa_cons (pe_ix ix_seq (pv 0) (pv 2) (fun _ _ => rfl)) pa_nil))) (pss_one (ps_if (pt_cmpR (op_ltU (rm0 hr)) (pv 3) (pe_op op_powU pe_int pe_int) (nomark _)) (pss_one (ps_expr (pe_bm PySem.F.plainAttrs_list PySem.F.slot_list_append PySem.F.type_list_append mt_append (pv 1) (pa_cons (pe_callH (has__law_mix Z) (hr.mono (by decide)) (by rfl) pass0 (pa_cons (pv 3) (pa_cons (pv 2) pa_nil))) pa_nil)))) (pss_one (ps_for PassesOwn.never rfl (pi_range1 (by rfl) Z.b_range (pa_cons pe_int pa_nil)) (pg_name (i := 4) sc__law_draws.nd rfl (by first | exact Or.inl rfl | exact Or.inr rfl)) (pss_one (ps_if (pt_cmpR op_gtU (pv 3) pe_int (nomark _)) (pss_cons (ps_expr (pe_bm PySem.F.plainAttrs_list PySem.F.slot_list_append PySem.F.type_list_append mt_append (pv 1) (pa_cons (pe_op op_modU (pe_callTy call_intU (by rfl) Z.b_int (by decide +kernel) (pa_cons (pv 3) pa_nil)) pe_int) pa_nil))) (pss_one (ps_set (i := 3) sc__law_draws.nd rfl (by first | exact Or.inl rfl | exact Or.inr rfl) (pe_op op_divU (pv 3) pe_int)))) pss_nil)))))))) (pss_one (ps_ret (pv 1))))))
    ok__law_draws
theorem has__law_at (Z : Facts K mg base A) : Has P w K mg base CX0 2 "_law_at" ["draws", "index"] (up (S__law_at K A)) :=
  Has.mk0 (t := t__law_at K A) Z.f__law_at sc__law_at (fun _ _ _ _ _ _ us hl => match us, hl with | [_, _], _ => rfl) len__law_at
    (fun f cdv A0 outer s H E hr => (pss_cons (ps_if (pt_cmpR (op_ltU (rm0 hr)) (pv 1) (pe_callB call_lenU (by rfl) Z.b_len (by decide +kernel) (pa_cons (pv 0) pa_nil)) (nomark _)) (pss_one (ps_ret (pe_ix ix_seq (pv 0) (pv 1) (fun _ _ => rfl)))) pss_nil) (pss_cons (ps_if (pt_cmpR (op_eqU (rm64 hr)) (pe_callB call_lenU (by rfl) Z.b_len (by decide +kernel) (pa_cons (pv 0) pa_nil)) pe_int (nomark _)) (pss_one (ps_ret (pe_callH (has__law_mix Z) (hr.mono (by decide)) (by rfl) pass0 (pa_cons (pv 1) (pa_cons pe_int pa_nil))))) pss_nil) (pss_one (ps_ret (pe_callH (has__law_mix Z) (hr.mono (by decide)) (by rfl) pass0 (pa_cons (pe_op op_addU (pe_ix ix_seq (pv 0) (pe_op op_modU (pe_callTy call_intU (by rfl) Z.b_int (by decide +kernel) (pa_cons (pv 1) pa_nil)) (pe_callB call_lenU (by rfl) Z.b_len (by decide +kernel) (pa_cons (pv 0) pa_nil))) (fun _ _ => rfl)) (pe_op op_mulU (pv 1) pe_int)) (pa_cons (pv 1) pa_nil))))))))
    ok__law_at
theorem has__law_is_integer (Z : Facts K mg base A) : Has P w K mg base CX0 1 "_law_is_integer" ["actual"] (up (S__law_is_integer K A)) :=
  Has.mk0 (t := t__law_is_integer K A) Z.f__law_is_integer sc__law_is_integer (fun _ _ _ _ _ _ us hl => match us, hl with | [_], _ => rfl) len__law_is_integer
    (fun f cdv A0 outer s H E hr => (pss_one (ps_ret (pe_and (pe_callB call_isiU (by rfl) Z.b_isinstance (by decide +kernel) (pa_cons (pv 0) (pa_cons (pe_bltn (v := .ty "int") (by rfl) Z.b_int (by decide +kernel) rfl) pa_nil))) (pe_one (pe_not (pe_callB call_isiU (by rfl) Z.b_isinstance (by decide +kernel) (pa_cons (pv 0) (pa_cons (pe_bltn (v := .ty "bool") (by rfl) Z.b_bool (by decide +kernel) rfl) pa_nil)))))))))
    ok__law_is_integer
theorem has__law_same_n (Z : Facts K mg base A) : ∀ n : Nat, Has P w K mg base CX0 (n + 1) "_law_same" ["actual", "expected"] (up (Sn__law_same K A n))
  | 0 => Has.never (ps := ["actual", "expected"]) Z.f__law_same (fun _ _ _ _ _ _ us hl => match us, hl with | [_, _], _ => rfl) no__law_same
  | n + 1 => by
    have h_rec := has__law_same_n Z n
    exact Has.mk0 (t := t__law_same K A (Sn__law_same K A n)) Z.f__law_same sc__law_same (fun _ _ _ _ _ _ us hl => match us, hl with | [_, _], _ => rfl) (len__law_same (n + 1))
      (fun f cdv A0 outer s H E hr => (pss_cons (ps_if (pt_tru (pe_callB call_isiU (by rfl) Z.b_isinstance (by decide +kernel) (pa_cons (pv 1) (pa_cons (pe_tup (pa_cons (pe_bltn (v := .ty "list") (by rfl) Z.b_list (by decide +kernel) rfl) (pa_cons (pe_bltn (v := .ty "tuple") (by rfl) Z.b_tuple (by decide +kernel) rfl) pa_nil))) pa_nil)))) (pss_cons (ps_if (PW.pt (pw_or (pt_cmpR (op_neU (rm64 hr)) (pe_callB call_isiU (by rfl) Z.b_isinstance (by decide +kernel) (pa_cons (pv 1) (pa_cons (pe_bltn (v := .ty "list") (by rfl) Z.b_list (by decide +kernel) rfl) pa_nil))) (pe_callB call_isiU (by rfl) Z.b_isinstance (by decide +kernel) (pa_cons (pv 0) (pa_cons (pe_bltn (v := .ty "list") (by rfl) Z.b_list (by decide +kernel) rfl) pa_nil))) (nomark _)) (pw_or1 (pt_cmpR (op_neU (rm64 hr)) (pe_callB call_isiU (by rfl) Z.b_isinstance (by decide +kernel) (pa_cons (pv 1) (pa_cons (pe_bltn (v := .ty "tuple") (by rfl) Z.b_tuple (by decide +kernel) rfl) pa_nil))) (pe_callB call_isiU (by rfl) Z.b_isinstance (by decide +kernel) (pa_cons (pv 0) (pa_cons (pe_bltn (v := .ty "tuple") (by rfl) Z.b_tuple (by decide +kernel) rfl) pa_nil))) (nomark _))))) (pss_one (ps_ret pe_bl)) pss_nil) (pss_cons (ps_if (pt_cmpR (op_neU (rm64 hr)) (pe_callB call_lenU (by rfl) Z.b_len (by decide +kernel) (pa_cons (pv 0) pa_nil)) (pe_callB call_lenU (by rfl) Z.b_len (by decide +kernel) (pa_cons (pv 1) pa_nil)) (nomark _)) (pss_one (ps_ret pe_bl)) pss_nil) (pss_cons (ps_for PassesOwn.never rfl (pi_range1 (by rfl) Z.b_range (pa_cons (pe_callB call_lenU (by rfl) Z.b_len (by decide +kernel) (pa_cons (pv 1) pa_nil)) pa_nil)) (pg_name (i := 2) sc__law_same.nd rfl (by first | exact Or.inl rfl | exact Or.inr rfl)) (pss_one (ps_if (pt_not (pt_tru (pe_callH h_rec hr (by rfl) pass0 (pa_cons (pe_ix ix_seq (pv 0) (pv 2) (fun _ _ => rfl)) (pa_cons (pe_ix ix_seq (pv 1) (pv 2) (fun _ _ => rfl)) pa_nil))))) (pss_one (ps_ret pe_bl)) pss_nil))) (pss_one (ps_ret pe_bl))))) pss_nil) (pss_cons (ps_if (pt_cmpR op_isN1 (pv 1) pe_non (nomark _)) (pss_one (ps_ret (pe_cmpR op_isN1 (pv 0) pe_non (nomark _)))) pss_nil) (pss_cons (ps_if (pt_tru (pe_callB call_isiU (by rfl) Z.b_isinstance (by decide +kernel) (pa_cons (pv 1) (pa_cons (pe_bltn (v := .ty "bool") (by rfl) Z.b_bool (by decide +kernel) rfl) pa_nil)))) (pss_one (ps_ret (pe_and (pe_callB call_isiU (by rfl) Z.b_isinstance (by decide +kernel) (pa_cons (pv 0) (pa_cons (pe_bltn (v := .ty "bool") (by rfl) Z.b_bool (by decide +kernel) rfl) pa_nil))) (pe_one (pe_cmpR (op_eqU (rm64 hr)) (pv 0) (pv 1) (nomark _)))))) pss_nil) (pss_cons (ps_if (pt_tru (pe_callB call_isiU (by rfl) Z.b_isinstance (by decide +kernel) (pa_cons (pv 1) (pa_cons (pe_bltn (v := .ty "int") (by rfl) Z.b_int (by decide +kernel) rfl) pa_nil)))) (pss_one (ps_ret (pe_and (pe_callH (has__law_is_integer Z) (hr.mono (Nat.le_add_left _ _)) (by rfl) pass0 (pa_cons (pv 0) pa_nil)) (pe_one (pe_cmpR (op_eqU (rm64 hr)) (pv 0) (pv 1) (nomark _)))))) pss_nil) (pss_one (ps_ret (pe_and (pe_callB call_isiU (by rfl) Z.b_isinstance (by decide +kernel) (pa_cons (pv 0) (pa_cons (pe_bltn (v := .ty "str") (by rfl) Z.b_str (by decide +kernel) rfl) pa_nil))) (pe_one (pe_cmpR (op_eqU (rm64 hr)) (pv 0) (pv 1) (nomark _)))))))))))
      (ok__law_same n)
theorem has__law_same (Z : Facts K mg base A) : Has P w K mg base CX0 9 "_law_same" ["actual", "expected"] (up (S__law_same K A)) := has__law_same_n Z 8
theorem has__law_inserted (Z : Facts K mg base A) : Has P w K mg base CX0 1 "_law_inserted" ["replica", "deed"] (up (S__law_inserted K A)) :=
  Has.mk0 (t := t__law_inserted K A) Z.f__law_inserted sc__law_inserted (fun _ _ _ _ _ _ us hl => match us, hl with | [_, _], _ => rfl) len__law_inserted
    (fun f cdv A0 outer s H E hr => (pss_cons (ps_set (i := 2) sc__law_inserted.nd rfl (by first | exact Or.inl rfl | exact Or.inr rfl) (pe_lst pa_nil)) (pss_cons (ps_set (i := 3) sc__law_inserted.nd rfl (by first | exact Or.inl rfl | exact Or.inr rfl) (pe_ix ix_seq (pv 1) pe_int (fun _ _ => rfl))) (pss_cons (ps_for PassesOwn.never rfl (pi_range1 (by rfl) Z.b_range (pa_cons (pe_callB call_lenU (by rfl) Z.b_len (by decide +kernel) (pa_cons (pe_ix ix_seq (pv 1) pe_int (fun _ _ => rfl)) pa_nil)) pa_nil)) (pg_name (i := 4) sc__law_inserted.nd rfl (by first | exact Or.inl rfl | exact Or.inr rfl)) (pss_cons (ps_expr (pe_bm PySem.F.plainAttrs_list PySem.F.slot_list_append PySem.F.type_list_append mt_append (pv 2) (pa_cons (pe_tup (pa_cons (pe_tup (pa_cons (pe_op op_addU (pe_ix ix_seq (pv 1) pe_int (fun _ _ => rfl)) (pv 4)) (pa_cons (pv 0) pa_nil))) (pa_cons (pv 3) (pa_cons (pe_ix ix_seq (pe_ix ix_seq (pv 1) pe_int (fun _ _ => rfl)) (pv 4) (fun _ _ => rfl)) pa_nil)))) pa_nil))) (pss_one (ps_set (i := 3) sc__law_inserted.nd rfl (by first | exact Or.inl rfl | exact Or.inr rfl) (pe_tup (pa_cons (pe_op op_addU (pe_ix ix_seq (pv 1) pe_int (fun _ _ => rfl)) (pv 4)) (pa_cons (pv 0) pa_nil))))))) (pss_one (ps_ret (pv 2)))))))
    ok__law_inserted
theorem has__law_forces (Z : Facts K mg base A) : Has P w K mg base CX0 1 "_law_forces" ["row"] (up (S__law_forces K A)) :=
  Has.mk0 (t := t__law_forces K A) Z.f__law_forces sc__law_forces (fun _ _ _ _ _ _ us hl => match us, hl with | [_], _ => rfl) len__law_forces
    (fun f cdv A0 outer s H E hr => (pss_cons (ps_set (i := 1) sc__law_forces.nd rfl (by first | exact Or.inl rfl | exact Or.inr rfl) (pe_lst pa_nil)) (pss_cons (ps_for PassesOwn.never rfl (pi_range1 (by rfl) Z.b_range (pa_cons (pe_callB call_lenU (by rfl) Z.b_len (by decide +kernel) (pa_cons (pv 0) pa_nil)) pa_nil)) (pg_name (i := 2) sc__law_forces.nd rfl (by first | exact Or.inl rfl | exact Or.inr rfl)) (pss_cons (ps_set (i := 3) sc__law_forces.nd rfl (by first | exact Or.inl rfl | exact Or.inr rfl) (pe_op op_subI (pe_callB call_lenU (by rfl) Z.b_len (by decide +kernel) (pa_cons (pv 0) pa_nil)) (pv 2))) (pss_cons (ps_setLc (i := 4) (own := [("j", 5)]) (g := (gName 5)) (by rfl) sc__law_forces.nd rfl rfl (sw_true rfl rfl rfl (by decide +kernel)) (pi_range1 (by rfl) Z.b_range (pa_cons (pe_callB call_lenU (by rfl) Z.b_len (by decide +kernel) (pa_cons (pv 1) pa_nil)) pa_nil)) (blkOk_by (own := [("j", 5)]) (N := ["row", "forces", "k", "place", "takers", "j"]) (sc := defScope s__law_forces) (by decide +kernel)) (fun _ _ _ _ _ => (pg_name (i := 5) sc__law_forces.nd rfl (by first | exact Or.inl rfl | exact Or.inr rfl))) (fun _ _ _ _ _ => (pts_one (PW.pt (pw_and (pt_tru (pe_ix ix_seq (pv 1) (pv 5) (fun _ _ => rfl))) (pw_and1 (pt_cmpR (op_eqU (rm64 hr)) (pe_ix ix_seq (pv 0) (pe_op op_subI (pe_op op_subI (pe_callB call_lenU (by rfl) Z.b_len (by decide +kernel) (pa_cons (pv 0) pa_nil)) pe_int) (pv 5)) (fun _ _ => rfl)) (pe_tup (pa_cons pe_str (pa_cons (pv 3) pa_nil))) (nomark _))))))) (fun _ _ _ _ _ => (pv 5))) (pss_one (ps_expr (pe_bm PySem.F.plainAttrs_list PySem.F.slot_list_append PySem.F.type_list_append mt_append (pv 1) (pa_cons (pe_cmpR (op_eqU (rm64 hr)) (pe_callB call_lenU (by rfl) Z.b_len (by decide +kernel) (pa_cons (pv 4) pa_nil)) pe_int (nomark _)) pa_nil))))))) (pss_one (ps_ret (pe_lc (own := [("k", 2)]) (g := (gName 2)) (by rfl) sc__law_forces.nd (pi_range1 (by rfl) Z.b_range (pa_cons (pe_callB call_lenU (by rfl) Z.b_len (by decide +kernel) (pa_cons (pv 0) pa_nil)) pa_nil)) (blkOk_by (own := [("k", 2)]) (N := ["row", "forces", "k", "place", "takers", "j"]) (sc := defScope s__law_forces) (by decide +kernel)) (fun _ _ _ _ _ => (pg_name (i := 2) sc__law_forces.nd rfl (by first | exact Or.inl rfl | exact Or.inr rfl))) (fun _ _ _ _ _ => pts_nil) (fun _ _ _ _ _ => (pe_ix ix_seq (pv 1) (pe_op op_subI (pe_op op_subI (pe_callB call_lenU (by rfl) Z.b_len (by decide +kernel) (pa_cons (pv 0) pa_nil)) pe_int) (pv 2)) (fun _ _ => rfl)))))))))
    ok__law_forces
theorem has__law_changes (Z : Facts K mg base A) : Has P w K mg base CX0 2 "_law_changes" ["rows", "module"] (up (S__law_changes K A)) :=
  Has.mk0 (t := t__law_changes K A) Z.f__law_changes sc__law_changes (fun _ _ _ _ _ _ us hl => match us, hl with | [_, _], _ => rfl) len__law_changes
    (fun f cdv A0 outer s H E hr => (pss_cons (ps_set (i := 2) sc__law_changes.nd rfl (by first | exact Or.inl rfl | exact Or.inr rfl) (pe_lst pa_nil)) (pss_cons (ps_for PassesOwn.never rfl (pi_range1 (by rfl) Z.b_range (pa_cons pe_int pa_nil)) (pg_name (i := 3) sc__law_changes.nd rfl (by first | exact Or.inl rfl | exact Or.inr rfl)) (pss_cons (ps_set (i := 4) sc__law_changes.nd rfl (by first | exact Or.inl rfl | exact Or.inr rfl) (pe_callH (has__law_forces Z) (hr.mono (by decide)) (by rfl) pass0 (pa_cons (pe_ix ix_seq (pv 0) (pv 3) (fun _ _ => rfl)) pa_nil))) (pss_one (ps_for PassesOwn.never rfl (pi_range1 (by rfl) Z.b_range (pa_cons (pe_callB call_lenU (by rfl) Z.b_len (by decide +kernel) (pa_cons (pe_ix ix_seq (pv 0) (pv 3) (fun _ _ => rfl)) pa_nil)) pa_nil)) (pg_name (i := 5) sc__law_changes.nd rfl (by first | exact Or.inl rfl | exact Or.inr rfl)) (pss_one (ps_if (PW.pt (pw_and (pt_cmpR (op_eqU (rm64 hr)) (pe_ix ix_seq (pe_ix ix_seq (pe_ix ix_seq (pv 0) (pv 3) (fun _ _ => rfl)) (pv 5) (fun _ _ => rfl)) pe_int (fun _ _ => rfl)) pe_str (nomark _)) (pw_and1 (pt_cmpR (op_eqU (rm64 hr)) (pe_ix ix_seq (pe_ix ix_seq (pe_ix ix_seq (pv 0) (pv 3) (fun _ _ => rfl)) (pv 5) (fun _ _ => rfl)) pe_int (fun _ _ => rfl)) (pv 1) (nomark _))))) (pss_one (ps_expr (pe_bm PySem.F.plainAttrs_list PySem.F.slot_list_append PySem.F.type_list_append mt_append (pv 2) (pa_cons (pe_tup (pa_cons (pv 3) (pa_cons (pe_ix ix_seq (pe_ix ix_seq (pv 0) (pv 3) (fun _ _ => rfl)) (pv 5) (fun _ _ => rfl)) (pa_cons (pe_ix ix_seq (pv 4) (pv 5) (fun _ _ => rfl)) pa_nil)))) pa_nil)))) pss_nil)))))) (pss_one (ps_ret (pv 2))))))
    ok__law_changes
theorem has__law_row (Z : Facts K mg base A) : Has P w K mg base CX0 3 "_law_row" ["rows", "module"] (up (S__law_row K A)) :=
  Has.mk0C (t := t__law_row K A) Z.f__law_row sc__law_row (fun _ _ _ _ _ _ us hl => match us, hl with | [_, _], _ => rfl) len__law_row
    (fun f A0 outer s H E hr => (pss_cons (ps_set (i := 2) sc__law_row.nd rfl (by first | exact Or.inl rfl | exact Or.inr rfl) (pe_lst pa_nil)) (pss_cons (ps_set (i := 3) sc__law_row.nd rfl (by first | exact Or.inl rfl | exact Or.inr rfl) (pe_lst pa_nil)) (pss_cons (ps_for PassesOwn.never rfl (pi_list (pe_callH (has__law_changes Z) (hr.mono (by decide)) (by rfl) pass0 (pa_cons (pv 0) (pa_cons (pv 1) pa_nil)))) (pg_tup rfl (pgs_cons (pg_name (i := 4) sc__law_row.nd rfl (by first | exact Or.inl rfl | exact Or.inr rfl)) (pgs_cons (pg_name (i := 5) sc__law_row.nd rfl (by first | exact Or.inl rfl | exact Or.inr rfl)) (pgs_cons (pg_name (i := 6) sc__law_row.nd rfl (by first | exact Or.inl rfl | exact Or.inr rfl)) pgs_nil)))) (pss_cons (ps_for PassesOwn.never rfl (pi_list (pe_callH (has__law_inserted Z) (hr.mono (by decide)) (by rfl) pass0 (pa_cons (pv 4) (pa_cons (pv 5) pa_nil)))) (pg_tup rfl (pgs_cons (pg_name (i := 7) sc__law_row.nd rfl (by first | exact Or.inl rfl | exact Or.inr rfl)) (pgs_cons (pg_name (i := 8) sc__law_row.nd rfl (by first | exact Or.inl rfl | exact Or.inr rfl)) (pgs_cons (pg_name (i := 9) sc__law_row.nd rfl (by first | exact Or.inl rfl | exact Or.inr rfl)) pgs_nil)))) (pss_one (ps_expr (pe_bm PySem.F.plainAttrs_list PySem.F.slot_list_append PySem.F.type_list_append mt_append (pv 3) (pa_cons (pe_tup (pa_cons (pv 7) (pa_cons (pv 8) (pa_cons (pv 9) (pa_cons (pv 6) pa_nil))))) pa_nil))))) (pss_one (ps_if (pt_tru (pv 6)) (pss_one (ps_set (i := 2) sc__law_row.nd rfl (by first | exact Or.inl rfl | exact Or.inr rfl) (pe_op op_addU (pv 2) (pe_callTy call_listU (by rfl) Z.b_list (by decide +kernel) (pa_cons (pe_ix ix_seq (pv 5) pe_int (fun _ _ => rfl)) pa_nil))))) pss_nil)))) (pss_cons (ps_set (i := 10) sc__law_row.nd rfl (by first | exact Or.inl rfl | exact Or.inr rfl) (pe_lst pa_nil)) (pss_cons (ps_for PassesOwn.never rfl (pi_list (pe_sortL hr Z.tb__law_row rfl (tb_in__law_row A) (tb_un__law_row Z.tne) (by rfl) Z.b_sorted (by decide +kernel) (pa_cons (pv 3) pa_nil) (by exact ⟨rfl, rfl, rfl, by decide +kernel, by decide +kernel, rfl, fun _ => rfl⟩) rfl (fun _ _ _ _ _ => rfl))) (pg_tup rfl (pgs_cons (pg_name (i := 7) sc__law_row.nd rfl (by first | exact Or.inl rfl | exact Or.inr rfl)) (pgs_cons (pg_name (i := 8) sc__law_row.nd rfl (by first | exact Or.inl rfl | exact Or.inr rfl)) (pgs_cons (pg_name (i := 9) sc__law_row.nd rfl (by first | exact Or.inl rfl | exact Or.inr rfl)) (pgs_cons (pg_name (i := 6) sc__law_row.nd rfl (by first | exact Or.inl rfl | exact Or.inr rfl)) pgs_nil))))) (pss_cons (ps_set (i := 11) sc__law_row.nd rfl (by first | exact Or.inl rfl | exact Or.inr rfl) pe_int) (pss_cons (ps_if (pt_cmpR op_notN1 (pv 8) pe_non (nomark _)) (pss_one (ps_set (i := 11) sc__law_row.nd rfl (by first | exact Or.inl rfl | exact Or.inr rfl) (pe_op op_addU (pe_bm PySem.F.plainAttrs_list PySem.F.slot_list_index PySem.F.type_list_index (mt_indexD (rm65 hr)) (pe_lc (own := [("each", 12)]) (g := (gName 12)) (by rfl) sc__law_row.nd (pi_list (pv 10)) (blkOk_by (own := [("each", 12)]) (N := ["rows", "module", "removed", "found", "replica", "deed", "force", "mark", "behind", "char", "row", "at", "each"]) (sc := defScope s__law_row) (by decide +kernel)) (fun _ _ _ _ _ => (pg_name (i := 12) sc__law_row.nd rfl (by first | exact Or.inl rfl | exact Or.inr rfl))) (fun _ _ _ _ _ => pts_nil) (fun _ _ _ _ _ => (pe_ix ix_seq (pv 12) pe_int (fun _ _ => rfl)))) (pa_cons (pv 8) pa_nil)) pe_int))) pss_nil) (pss_one (ps_expr (pe_bm PySem.F.plainAttrs_list PySem.F.slot_list_insert PySem.F.type_list_insert mt_insertU (pv 10) (pa_cons (pv 11) (pa_cons (pe_tup (pa_cons (pv 7) (pa_cons (pv 9) (pa_cons (pe_and (pv 6) (pe_one (pe_cmpR (op_notInU (rm65 hr)) (pv 7) (pv 2) (by rfl)))) pa_nil)))) pa_nil)))))))) (pss_one (ps_ret (pv 10)))))))))
    ok__law_row
theorem has__law_last (Z : Facts K mg base A) : Has P w K mg base CX0 1 "_law_last" ["rows"] (up (S__law_last K A)) :=
  Has.mk0 (t := t__law_last K A) Z.f__law_last sc__law_last (fun _ _ _ _ _ _ us hl => match us, hl with | [_], _ => rfl) len__law_last
    (fun f cdv A0 outer s H E hr => (pss_cons (ps_set (i := 1) sc__law_last.nd rfl (by first | exact Or.inl rfl | exact Or.inr rfl) pe_int) (pss_cons (ps_for PassesOwn.never rfl (pi_list (pv 0)) (pg_name (i := 2) sc__law_last.nd rfl (by first | exact Or.inl rfl | exact Or.inr rfl)) (pss_one (ps_for PassesOwn.never rfl (pi_list (pv 2)) (pg_name (i := 3) sc__law_last.nd rfl (by first | exact Or.inl rfl | exact Or.inr rfl)) (pss_one (ps_if (pt_cmpR (op_eqU (rm64 hr)) (pe_ix ix_seq (pv 3) pe_int (fun _ _ => rfl)) pe_str (nomark _)) (pss_one (ps_set (i := 1) sc__law_last.nd rfl (by first | exact Or.inl rfl | exact Or.inr rfl) (pe_callB (call_max2U rfl) (by rfl) Z.b_max (by decide +kernel) (pa_cons (pv 1) (pa_cons (pe_op op_addU (pe_ix ix_seq (pv 3) pe_int (fun _ _ => rfl)) (pe_callB call_lenU (by rfl) Z.b_len (by decide +kernel) (pa_cons (pe_ix ix_seq (pv 3) pe_int (fun _ _ => rfl)) pa_nil))) pa_nil))))) pss_nil))))) (pss_one (ps_ret (pv 1))))))
    ok__law_last
theorem has__law_modules (Z : Facts K mg base A) : Has P w K mg base CX0 1 "_law_modules" [] (up (S__law_modules K A)) :=
  Has.mk0 (t := t__law_modules K A) Z.f__law_modules sc__law_modules (fun _ _ _ _ _ _ us hl => match us, hl with | [], _ => rfl) len__law_modules
    (fun f cdv A0 outer s H E hr => (pss_one (ps_ret (pe_lst (pa_cons pe_str (pa_cons pe_str (pa_cons pe_str (pa_cons (pe_op op_repS pe_str pe_int) pa_nil))))))))
    ok__law_modules
theorem has__law_letters (Z : Facts K mg base A) : Has P w K mg base CX0 3 "_law_letters" ["draws", "index"] (up (S__law_letters K A)) :=
  Has.mk0 (t := t__law_letters K A) Z.f__law_letters sc__law_letters (fun _ _ _ _ _ _ us hl => match us, hl with | [_, _], _ => rfl) len__law_letters
    (fun f cdv A0 outer s H E hr => (pss_cons (ps_set (i := 2) sc__law_letters.nd rfl (by first | exact Or.inl rfl | exact Or.inr rfl) pe_str) (pss_cons (ps_set (i := 3) sc__law_letters.nd rfl (by first | exact Or.inl rfl | exact Or.inr rfl) pe_str) (pss_cons (ps_for PassesOwn.never rfl (pi_range1 (by rfl) Z.b_range (pa_cons (pe_op op_modU (pe_callH (has__law_at Z) (hr.mono (by decide)) (by rfl) pass0 (pa_cons (pv 0) (pa_cons (pv 1) pa_nil))) pe_int) pa_nil)) (pg_name (i := 4) sc__law_letters.nd rfl (by first | exact Or.inl rfl | exact Or.inr rfl)) (pss_one (ps_set (i := 3) sc__law_letters.nd rfl (by first | exact Or.inl rfl | exact Or.inr rfl) (pe_op op_addU (pv 3) (pe_ix ix_seq (pv 2) (pe_op op_modU (pe_op op_addU (pe_callH (has__law_at Z) (hr.mono (by decide)) (by rfl) pass0 (pa_cons (pv 0) (pa_cons (pe_op op_addU (pv 1) pe_int) pa_nil))) (pe_op op_mulU pe_int (pv 4))) pe_int) (fun _ _ => rfl)))))) (pss_one (ps_ret (pv 3)))))))
    ok__law_letters
theorem has__law_deed (Z : Facts K mg base A) : Has P w K mg base CX0 4 "_law_deed" ["draws", "index", "rows", "replica"] (up (S__law_deed K A)) :=
  Has.mk0 (t := t__law_deed K A) Z.f__law_deed sc__law_deed (fun _ _ _ _ _ _ us hl => match us, hl with | [_, _, _, _], _ => rfl) len__law_deed
    (fun f cdv A0 outer s H E hr => (pss_cons (ps_set (i := 4) sc__law_deed.nd rfl (by first | exact Or.inl rfl | exact Or.inr rfl) (pe_ix ix_seq (pv 2) (pv 3) (fun _ _ => rfl))) (pss_cons (ps_if (PW.pt (pw_and (pt_cmpR (op_eqU (rm64 hr)) (pe_op op_modU (pe_callH (has__law_at Z) (hr.mono (by decide)) (by rfl) pass0 (pa_cons (pv 0) (pa_cons (pv 1) pa_nil))) pe_int) pe_int (nomark _)) (pw_and1 (pt_cmpR op_gtU (pe_callB call_lenU (by rfl) Z.b_len (by decide +kernel) (pa_cons (pv 4) pa_nil)) pe_int (nomark _))))) (pss_one (ps_ret (pe_tup (pa_cons pe_str (pa_cons (pe_op op_addU pe_int (pe_op op_modU (pe_callH (has__law_at Z) (hr.mono (by decide)) (by rfl) pass0 (pa_cons (pv 0) (pa_cons (pe_op op_addU (pv 1) pe_int) pa_nil))) (pe_callB call_lenU (by rfl) Z.b_len (by decide +kernel) (pa_cons (pv 4) pa_nil)))) pa_nil))))) pss_nil) (pss_cons (ps_set (i := 5) sc__law_deed.nd rfl (by first | exact Or.inl rfl | exact Or.inr rfl) (pe_ix ix_seq (pe_callH0 (has__law_modules Z) (hr.mono (by decide)) (by rfl) pass0) (pe_op op_divU (pe_op op_modU (pe_callH (has__law_at Z) (hr.mono (by decide)) (by rfl) pass0 (pa_cons (pv 0) (pa_cons (pe_op op_addU (pv 1) pe_int) pa_nil))) pe_int) pe_int) (fun _ _ => rfl))) (pss_cons (ps_setLc (i := 6) (own := [("each", 13)]) (g := (gName 13)) (by rfl) sc__law_deed.nd rfl rfl (sw_true rfl rfl rfl (by decide +kernel)) (pi_list (pe_callH (has__law_row Z) (hr.mono (by decide)) (by rfl) pass0 (pa_cons (pv 2) (pa_cons (pv 5) pa_nil)))) (blkOk_by (own := [("each", 13)]) (N := ["draws", "index", "rows", "replica", "own", "module", "marks", "removed", "k", "behind", "number", "mark", "deed", "each"]) (sc := defScope s__law_deed) (by decide +kernel)) (fun _ _ _ _ _ => (pg_name (i := 13) sc__law_deed.nd rfl (by first | exact Or.inl rfl | exact Or.inr rfl))) (fun _ _ _ _ _ => pts_nil) (fun _ _ _ _ _ => (pe_ix ix_seq (pv 13) pe_int (fun _ _ => rfl)))) (pss_cons (ps_set (i := 7) sc__law_deed.nd rfl (by first | exact Or.inl rfl | exact Or.inr rfl) (pe_lst pa_nil)) (pss_cons (ps_for PassesOwn.never rfl (pi_range1 (by rfl) Z.b_range (pa_cons (pe_op op_modU (pe_callH (has__law_at Z) (hr.mono (by decide)) (by rfl) pass0 (pa_cons (pv 0) (pa_cons (pe_op op_addU (pv 1) pe_int) pa_nil))) pe_int) pa_nil)) (pg_name (i := 8) sc__law_deed.nd rfl (by first | exact Or.inl rfl | exact Or.inr rfl)) (pss_one (ps_if (pt_cmpR op_gtU (pe_callB call_lenU (by rfl) Z.b_len (by decide +kernel) (pa_cons (pv 6) pa_nil)) pe_int (nomark _)) (pss_one (ps_expr (pe_bm PySem.F.plainAttrs_list PySem.F.slot_list_append PySem.F.type_list_append mt_append (pv 7) (pa_cons (pe_ix ix_seq (pv 6) (pe_op op_modU (pe_callH (has__law_at Z) (hr.mono (by decide)) (by rfl) pass0 (pa_cons (pv 0) (pa_cons (pe_op op_addU (pe_op op_addU (pv 1) pe_int) (pv 8)) pa_nil))) (pe_callB call_lenU (by rfl) Z.b_len (by decide +kernel) (pa_cons (pv 6) pa_nil))) (fun _ _ => rfl)) pa_nil)))) pss_nil))) (pss_cons (ps_set (i := 9) sc__law_deed.nd rfl (by first | exact Or.inl rfl | exact Or.inr rfl) pe_non) (pss_cons (ps_if (PW.pt (pw_and (pt_cmpR op_gtU (pe_callB call_lenU (by rfl) Z.b_len (by decide +kernel) (pa_cons (pv 6) pa_nil)) pe_int (nomark _)) (pw_and1 (pt_cmpR (op_neU (rm64 hr)) (pe_op op_modU (pe_callH (has__law_at Z) (hr.mono (by decide)) (by rfl) pass0 (pa_cons (pv 0) (pa_cons (pe_op op_addU (pv 1) pe_int) pa_nil))) pe_int) pe_int (nomark _))))) (pss_one (ps_set (i := 9) sc__law_deed.nd rfl (by first | exact Or.inl rfl | exact Or.inr rfl) (pe_ix ix_seq (pv 6) (pe_op op_modU (pe_op op_divU (pe_callH (has__law_at Z) (hr.mono (by decide)) (by rfl) pass0 (pa_cons (pv 0) (pa_cons (pe_op op_addU (pv 1) pe_int) pa_nil))) pe_int) (pe_callB call_lenU (by rfl) Z.b_len (by decide +kernel) (pa_cons (pv 6) pa_nil))) (fun _ _ => rfl)))) pss_nil) (pss_cons (ps_set (i := 10) sc__law_deed.nd rfl (by first | exact Or.inl rfl | exact Or.inr rfl) pe_int) (pss_cons (ps_for PassesOwn.never rfl (pi_list (pe_op op_addU (pv 7) (pe_lst (pa_cons (pv 9) pa_nil)))) (pg_name (i := 11) sc__law_deed.nd rfl (by first | exact Or.inl rfl | exact Or.inr rfl)) (pss_one (ps_if (pt_cmpR op_notN1 (pv 11) pe_non (nomark _)) (pss_one (ps_set (i := 10) sc__law_deed.nd rfl (by first | exact Or.inl rfl | exact Or.inr rfl) (pe_callB (call_max2U rfl) (by rfl) Z.b_max (by decide +kernel) (pa_cons (pv 10) (pa_cons (pe_op op_addU (pe_ix ix_seq (pv 11) pe_int (fun _ _ => rfl)) pe_int) pa_nil))))) pss_nil))) (pss_cons (ps_for PassesOwn.never rfl (pi_list (pv 4)) (pg_name (i := 12) sc__law_deed.nd rfl (by first | exact Or.inl rfl | exact Or.inr rfl)) (pss_one (ps_if (pt_cmpR (op_eqU (rm64 hr)) (pe_ix ix_seq (pv 12) pe_int (fun _ _ => rfl)) pe_str (nomark _)) (pss_one (ps_set (i := 10) sc__law_deed.nd rfl (by first | exact Or.inl rfl | exact Or.inr rfl) (pe_callB (call_max2U rfl) (by rfl) Z.b_max (by decide +kernel) (pa_cons (pv 10) (pa_cons (pe_op op_addU (pe_ix ix_seq (pv 12) pe_int (fun _ _ => rfl)) (pe_callB call_lenU (by rfl) Z.b_len (by decide +kernel) (pa_cons (pe_ix ix_seq (pv 12) pe_int (fun _ _ => rfl)) pa_nil))) pa_nil))))) pss_nil))) (pss_cons (ps_set (i := 10) sc__law_deed.nd rfl (by first | exact Or.inl rfl | exact Or.inr rfl) (pe_op op_addU (pv 10) (pe_ix ix_seq (pe_lst (pa_cons pe_int (pa_cons pe_int (pa_cons pe_int (pa_cons pe_int pa_nil))))) (pe_op op_modU (pe_callH (has__law_at Z) (hr.mono (by decide)) (by rfl) pass0 (pa_cons (pv 0) (pa_cons (pe_op op_addU (pv 1) pe_int) pa_nil))) pe_int) (fun _ _ => rfl)))) (pss_cons (ps_if (pt_cmpR (op_eqU (rm64 hr)) (pe_op op_modU (pe_op op_divU (pe_callH (has__law_at Z) (hr.mono (by decide)) (by rfl) pass0 (pa_cons (pv 0) (pa_cons (pe_op op_addU (pv 1) pe_int) pa_nil))) pe_int) pe_int) pe_int (nomark _)) (pss_one (ps_set (i := 10) sc__law_deed.nd rfl (by first | exact Or.inl rfl | exact Or.inr rfl) (pe_callB (call_max2U rfl) (by rfl) Z.b_max (by decide +kernel) (pa_cons (pv 10) (pa_cons (pe_op op_addU (pe_callH (has__law_last Z) (hr.mono (by decide)) (by rfl) pass0 (pa_cons (pv 2) pa_nil)) pe_int) pa_nil))))) pss_nil) (pss_one (ps_ret (pe_tup (pa_cons pe_str (pa_cons (pv 5) (pa_cons (pe_callTy call_tupU (by rfl) Z.b_tuple (by decide +kernel) (pa_cons (pv 7) pa_nil)) (pa_cons (pv 9) (pa_cons (pv 10) (pa_cons (pe_callH (has__law_letters Z) (hr.mono (by decide)) (by rfl) pass0 (pa_cons (pv 0) (pa_cons (pe_op op_addU (pv 1) pe_int) pa_nil))) pa_nil)))))))))))))))))))))))
    ok__law_deed
theorem has__law_visible (Z : Facts K mg base A) : Has P w K mg base CX0 1 "_law_visible" ["rows", "counts"] (up (S__law_visible K A)) :=
  Has.mk0 (t := t__law_visible K A) Z.f__law_visible sc__law_visible (fun _ _ _ _ _ _ us hl => match us, hl with | [_, _], _ => rfl) len__law_visible
    (fun f cdv A0 outer s H E hr => (pss_one (ps_ret (pe_lc (own := [("k", 2)]) (g := (gName 2)) (by rfl) sc__law_visible.nd (pi_range1 (by rfl) Z.b_range (pa_cons pe_int pa_nil)) (blkOk_by (own := [("k", 2)]) (N := ["rows", "counts", "k"]) (sc := defScope s__law_visible) (by decide +kernel)) (fun _ _ _ _ _ => (pg_name (i := 2) sc__law_visible.nd rfl (by first | exact Or.inl rfl | exact Or.inr rfl))) (fun _ _ _ _ _ => pts_nil) (fun _ _ _ _ _ => (pe_slice sl_U (pe_ix ix_seq (pv 0) (pv 2) (fun _ _ => rfl)) po_none (po_some (pe_ix ix_seq (pv 1) (pv 2) (fun _ _ => rfl)))))))))
    ok__law_visible
theorem has__law_triples (Z : Facts K mg base A) : Has P w K mg base CX0 5 "_law_triples" ["draws", "start", "steps", "most"] (up (S__law_triples K A)) :=
  Has.mk0 (t := t__law_triples K A) Z.f__law_triples sc__law_triples (fun _ _ _ _ _ _ us hl => match us, hl with | [_, _, _, _], _ => rfl) len__law_triples
    (fun f cdv A0 outer s H E hr => (pss_cons (ps_setLc (i := 4) (own := [("k", 6)]) (g := (gName 6)) (by rfl) sc__law_triples.nd rfl rfl (sw_true rfl rfl rfl (by decide +kernel)) (pi_range1 (by rfl) Z.b_range (pa_cons pe_int pa_nil)) (blkOk_by (own := [("k", 6)]) (N := ["draws", "start", "steps", "most", "rows", "counts", "k", "triples", "base", "replica", "other", "deed", "j"]) (sc := defScope s__law_triples) (by decide +kernel)) (fun _ _ _ _ _ => (pg_name (i := 6) sc__law_triples.nd rfl (by first | exact Or.inl rfl | exact Or.inr rfl))) (fun _ _ _ _ _ => pts_nil) (fun _ _ _ _ _ => (pe_lst pa_nil))) (pss_cons (ps_set (i := 5) sc__law_triples.nd rfl (by first | exact Or.inl rfl | exact Or.inr rfl) (pe_lst pa_nil)) (pss_cons (ps_for PassesOwn.never rfl (pi_range1 (by rfl) Z.b_range (pa_cons (pv 3) pa_nil)) (pg_name (i := 6) sc__law_triples.nd rfl (by first | exact Or.inl rfl | exact Or.inr rfl)) (pss_one (ps_expr (pe_bm PySem.F.plainAttrs_list PySem.F.slot_list_append PySem.F.type_list_append mt_append (pv 5) (pa_cons (pe_lc (own := [("j", 12)]) (g := (gName 12)) (by rfl) sc__law_triples.nd (pi_range1 (by rfl) Z.b_range (pa_cons pe_int pa_nil)) (blkOk_by (own := [("j", 12)]) (N := ["draws", "start", "steps", "most", "rows", "counts", "k", "triples", "base", "replica", "other", "deed", "j"]) (sc := defScope s__law_triples) (by decide +kernel)) (fun _ _ _ _ _ => (pg_name (i := 12) sc__law_triples.nd rfl (by first | exact Or.inl rfl | exact Or.inr rfl))) (fun _ _ _ _ _ => pts_nil) (fun _ _ _ _ _ => pe_int)) pa_nil))))) (pss_cons (ps_set (i := 7) sc__law_triples.nd rfl (by first | exact Or.inl rfl | exact Or.inr rfl) (pe_lst pa_nil)) (pss_cons (ps_for PassesOwn.never rfl (pi_range1 (by rfl) Z.b_range (pa_cons (pv 2) pa_nil)) (pg_name (i := 6) sc__law_triples.nd rfl (by first | exact Or.inl rfl | exact Or.inr rfl)) (pss_cons (ps_set (i := 8) sc__law_triples.nd rfl (by first | exact Or.inl rfl | exact Or.inr rfl) (pe_op op_addU (pv 1) (pe_op op_mulU pe_int (pv 6)))) (pss_cons (ps_set (i := 9) sc__law_triples.nd rfl (by first | exact Or.inl rfl | exact Or.inr rfl) (pe_op op_modU (pe_callH (has__law_at Z) (hr.mono (by decide)) (by rfl) pass0 (pa_cons (pv 0) (pa_cons (pv 8) pa_nil))) (pv 3))) (pss_cons (ps_set (i := 10) sc__law_triples.nd rfl (by first | exact Or.inl rfl | exact Or.inr rfl) (pe_op op_modU (pe_callH (has__law_at Z) (hr.mono (by decide)) (by rfl) pass0 (pa_cons (pv 0) (pa_cons (pe_op op_addU (pv 8) pe_int) pa_nil))) (pe_op op_addU (pv 3) pe_int))) (pss_cons (ps_if (pt_cmpR (op_ltU (rm0 hr)) (pv 10) (pv 3) (nomark _)) (pss_one (ps_asg (pe_lc (own := [("j", 12)]) (g := (gName 12)) (by rfl) sc__law_triples.nd (pi_range1 (by rfl) Z.b_range (pa_cons pe_int pa_nil)) (blkOk_by (own := [("j", 12)]) (N := ["draws", "start", "steps", "most", "rows", "counts", "k", "triples", "base", "replica", "other", "deed", "j"]) (sc := defScope s__law_triples) (by decide +kernel)) (fun _ _ _ _ _ => (pg_name (i := 12) sc__law_triples.nd rfl (by first | exact Or.inl rfl | exact Or.inr rfl))) (fun _ _ _ _ _ => pts_nil) (fun _ _ _ _ _ => (pe_callB (call_max2U rfl) (by rfl) Z.b_max (by decide +kernel) (pa_cons (pe_ix ix_seq (pe_ix ix_seq (pv 5) (pv 9) (fun _ _ => rfl)) (pv 12) (fun _ _ => rfl)) (pa_cons (pe_ix ix_seq (pe_ix ix_seq (pv 5) (pv 10) (fun _ _ => rfl)) (pv 12) (fun _ _ => rfl)) pa_nil))))) (pg_sub (pv 5) (pv 9) set_list))) pss_nil) (pss_cons (ps_set (i := 11) sc__law_triples.nd rfl (by first | exact Or.inl rfl | exact Or.inr rfl) (pe_callH (has__law_deed Z) (hr.mono (by decide)) (by rfl) pass0 (pa_cons (pv 0) (pa_cons (pe_op op_addU (pv 8) pe_int) (pa_cons (pe_callH (has__law_visible Z) (hr.mono (by decide)) (by rfl) pass0 (pa_cons (pv 4) (pa_cons (pe_ix ix_seq (pv 5) (pv 9) (fun _ _ => rfl)) pa_nil))) (pa_cons (pv 9) pa_nil)))))) (pss_cons (ps_expr (pe_bm PySem.F.plainAttrs_list PySem.F.slot_list_append PySem.F.type_list_append mt_append (pe_ix ix_seq (pv 4) (pv 9) (fun _ _ => rfl)) (pa_cons (pv 11) pa_nil))) (pss_cons (ps_asg (pe_callB call_lenU (by rfl) Z.b_len (by decide +kernel) (pa_cons (pe_ix ix_seq (pv 4) (pv 9) (fun _ _ => rfl)) pa_nil)) (pg_sub (pe_ix ix_seq (pv 5) (pv 9) (fun _ _ => rfl)) (pv 9) set_list)) (pss_one (ps_expr (pe_bm PySem.F.plainAttrs_list PySem.F.slot_list_append PySem.F.type_list_append mt_append (pv 7) (pa_cons (pe_tup (pa_cons (pv 9) (pa_cons (pe_callB call_lenU (by rfl) Z.b_len (by decide +kernel) (pa_cons (pe_ix ix_seq (pv 4) (pv 9) (fun _ _ => rfl)) pa_nil)) (pa_cons (pv 11) pa_nil)))) pa_nil)))))))))))) (pss_one (ps_ret (pv 7)))))))))
    ok__law_triples
theorem has__law_rows_of (Z : Facts K mg base A) : Has P w K mg base CX0 1 "_law_rows_of" ["triples"] (up (S__law_rows_of K A)) :=
  Has.mk0 (t := t__law_rows_of K A) Z.f__law_rows_of sc__law_rows_of (fun _ _ _ _ _ _ us hl => match us, hl with | [_], _ => rfl) len__law_rows_of
    (fun f cdv A0 outer s H E hr => (pss_cons (ps_setLc (i := 1) (own := [("k", 5)]) (g := (gName 5)) (by rfl) sc__law_rows_of.nd rfl rfl (sw_true rfl rfl rfl (by decide +kernel)) (pi_range1 (by rfl) Z.b_range (pa_cons pe_int pa_nil)) (blkOk_by (own := [("k", 5)]) (N := ["triples", "rows", "replica", "place", "deed", "k"]) (sc := defScope s__law_rows_of) (by decide +kernel)) (fun _ _ _ _ _ => (pg_name (i := 5) sc__law_rows_of.nd rfl (by first | exact Or.inl rfl | exact Or.inr rfl))) (fun _ _ _ _ _ => pts_nil) (fun _ _ _ _ _ => (pe_lst pa_nil))) (pss_cons (ps_for PassesOwn.never rfl (pi_list (pv 0)) (pg_tup rfl (pgs_cons (pg_name (i := 2) sc__law_rows_of.nd rfl (by first | exact Or.inl rfl | exact Or.inr rfl)) (pgs_cons (pg_name (i := 3) sc__law_rows_of.nd rfl (by first | exact Or.inl rfl | exact Or.inr rfl)) (pgs_cons (pg_name (i := 4) sc__law_rows_of.nd rfl (by first | exact Or.inl rfl | exact Or.inr rfl)) pgs_nil)))) (pss_one (ps_expr (pe_bm PySem.F.plainAttrs_list PySem.F.slot_list_append PySem.F.type_list_append mt_append (pe_ix ix_seq (pv 1) (pv 2) (fun _ _ => rfl)) (pa_cons (pv 4) pa_nil))))) (pss_one (ps_ret (pv 1))))))
    ok__law_rows_of
theorem has__law_deeds (Z : Facts K mg base A) : Has P w K mg base CX0 3 "_law_deeds" ["triples"] (up (S__law_deeds K A)) :=
  Has.mk0 (t := t__law_deeds K A) Z.f__law_deeds sc__law_deeds (fun _ _ _ _ _ _ us hl => match us, hl with | [_], _ => rfl) len__law_deeds
    (fun f cdv A0 outer s H E hr => (pss_cons (ps_set (i := 1) sc__law_deeds.nd rfl (by first | exact Or.inl rfl | exact Or.inr rfl) (pe_makeH0 (has_Deeds_init Z) (hr.mono (by decide)) (by rfl) Z.g_Deeds pass0)) (pss_cons (ps_for PassesOwn.never rfl (pi_list (pv 0)) (pg_tup rfl (pgs_cons (pg_name (i := 2) sc__law_deeds.nd rfl (by first | exact Or.inl rfl | exact Or.inr rfl)) (pgs_cons (pg_name (i := 3) sc__law_deeds.nd rfl (by first | exact Or.inl rfl | exact Or.inr rfl)) (pgs_cons (pg_name (i := 4) sc__law_deeds.nd rfl (by first | exact Or.inl rfl | exact Or.inr rfl)) pgs_nil)))) (pss_one (ps_expr (pe_methH (pv 1) Z.cf.cl (has_Deeds_add Z) (hr.mono (by decide)) pass0 (pa_cons (pv 2) (pa_cons (pv 4) pa_nil)))))) (pss_one (ps_ret (pv 1))))))
    (ok__law_deeds Z.cf)
theorem has__law_is_forced (Z : Facts K mg base A) : Has P w K mg base CX0 10 "_law_is_forced" ["rows", "deeds"] (up (S__law_is_forced K A)) :=
  Has.mk0 (t := t__law_is_forced K A) Z.f__law_is_forced sc__law_is_forced (fun _ _ _ _ _ _ us hl => match us, hl with | [_, _], _ => rfl) len__law_is_forced
    (fun f cdv A0 outer s H E hr => (pss_cons (ps_if (PW.pt (pw_or (pt_not (pt_tru (pe_callH (has__law_same Z) (hr.mono (by decide)) (by rfl) pass0 (pa_cons (pe_fld (pv 1) rfl) (pa_cons (pv 0) pa_nil))))) (pw_or1 (pt_not (pt_tru (pe_callH (has__law_same Z) (hr.mono (by decide)) (by rfl) pass0 (pa_cons (pe_methH0 (pv 1) Z.cf.cl (has_Deeds_counts Z) (hr.mono (by decide)) pass0) (pa_cons (pe_lc (own := [("row", 7)]) (g := (gName 7)) (by rfl) sc__law_is_forced.nd (pi_list (pv 0)) (blkOk_by (own := [("row", 7)]) (N := ["rows", "deeds", "replica", "told", "module", "place", "later", "row", "k"]) (sc := defScope s__law_is_forced) (by decide +kernel)) (fun _ _ _ _ _ => (pg_name (i := 7) sc__law_is_forced.nd rfl (by first | exact Or.inl rfl | exact Or.inr rfl))) (fun _ _ _ _ _ => pts_nil) (fun _ _ _ _ _ => (pe_callB call_lenU (by rfl) Z.b_len (by decide +kernel) (pa_cons (pv 7) pa_nil)))) pa_nil)))))))) (pss_one (ps_ret pe_bl)) pss_nil) (pss_cons (ps_for PassesOwn.never rfl (pi_range1 (by rfl) Z.b_range (pa_cons pe_int pa_nil)) (pg_name (i := 2) sc__law_is_forced.nd rfl (by first | exact Or.inl rfl | exact Or.inr rfl)) (pss_cons (ps_set (i := 3) sc__law_is_forced.nd rfl (by first | exact Or.inl rfl | exact Or.inr rfl) (pe_lc (own := [("place", 5)]) (g := (gName 5)) (by rfl) sc__law_is_forced.nd (pi_range2 (by rfl) Z.b_range (pa_cons pe_int (pa_cons (pe_op op_addU (pe_callB call_lenU (by rfl) Z.b_len (by decide +kernel) (pa_cons (pe_ix ix_seq (pv 0) (pv 2) (fun _ _ => rfl)) pa_nil)) pe_int) pa_nil))) (blkOk_by (own := [("place", 5)]) (N := ["rows", "deeds", "replica", "told", "module", "place", "later", "row", "k"]) (sc := defScope s__law_is_forced) (by decide +kernel)) (fun _ _ _ _ _ => (pg_name (i := 5) sc__law_is_forced.nd rfl (by first | exact Or.inl rfl | exact Or.inr rfl))) (fun _ _ _ _ _ => pts_nil) (fun _ _ _ _ _ => (pe_methH (pv 1) Z.cf.cl (has_Deeds_in_force Z) (hr.mono (by decide)) pass0 (pa_cons (pv 2) (pa_cons (pv 5) pa_nil)))))) (pss_cons (ps_if (pt_not (pt_tru (pe_callH (has__law_same Z) (hr.mono (by decide)) (by rfl) pass0 (pa_cons (pv 3) (pa_cons (pe_callH (has__law_forces Z) (hr.mono (by decide)) (by rfl) pass0 (pa_cons (pe_ix ix_seq (pv 0) (pv 2) (fun _ _ => rfl)) pa_nil)) pa_nil))))) (pss_one (ps_ret pe_bl)) pss_nil) (pss_cons (ps_set (i := 4) sc__law_is_forced.nd rfl (by first | exact Or.inl rfl | exact Or.inr rfl) (pe_ix ix_seq (pe_callH0 (has__law_modules Z) (hr.mono (by decide)) (by rfl) pass0) (pe_op op_modU (pv 2) pe_int) (fun _ _ => rfl))) (pss_cons (ps_expr (pe_bm PySem.F.plainAttrs_list PySem.F.slot_list_append PySem.F.type_list_append mt_append (pe_methH (pv 1) Z.cf.cl (has_Deeds_row Z) (hr.mono (by decide)) pass0 (pa_cons (pv 4) pa_nil)) (pa_cons pe_non pa_nil))) (pss_cons (ps_if (pt_not (pt_tru (pe_callH (has__law_same Z) (hr.mono (by decide)) (by rfl) pass0 (pa_cons (pe_methH (pv 1) Z.cf.cl (has_Deeds_row Z) (hr.mono (by decide)) pass0 (pa_cons (pv 4) pa_nil)) (pa_cons (pe_callH (has__law_row Z) (hr.mono (by decide)) (by rfl) pass0 (pa_cons (pv 0) (pa_cons (pv 4) pa_nil))) pa_nil))))) (pss_one (ps_ret pe_bl)) pss_nil) (pss_one (ps_for PassesOwn.never rfl (pi_range2 (by rfl) Z.b_range (pa_cons pe_int (pa_cons (pe_op op_addU (pe_callB call_lenU (by rfl) Z.b_len (by decide +kernel) (pa_cons (pv 3) pa_nil)) pe_int) pa_nil))) (pg_name (i := 5) sc__law_is_forced.nd rfl (by first | exact Or.inl rfl | exact Or.inr rfl)) (pss_cons (ps_setLc (i := 6) (own := [("k", 8)]) (g := (gName 8)) (by rfl) sc__law_is_forced.nd rfl rfl (sw_true rfl rfl rfl (by decide +kernel)) (pi_range2 (by rfl) Z.b_range (pa_cons (pv 5) (pa_cons (pe_callB call_lenU (by rfl) Z.b_len (by decide +kernel) (pa_cons (pv 3) pa_nil)) pa_nil))) (blkOk_by (own := [("k", 8)]) (N := ["rows", "deeds", "replica", "told", "module", "place", "later", "row", "k"]) (sc := defScope s__law_is_forced) (by decide +kernel)) (fun _ _ _ _ _ => (pg_name (i := 8) sc__law_is_forced.nd rfl (by first | exact Or.inl rfl | exact Or.inr rfl))) (fun _ _ _ _ _ => (pts_one (PW.pt (pw_and (pt_tru (pe_ix ix_seq (pv 3) (pv 8) (fun _ _ => rfl))) (pw_and1 (pt_cmpR (op_eqU (rm64 hr)) (pe_ix ix_seq (pe_ix ix_seq (pv 0) (pv 2) (fun _ _ => rfl)) (pv 8) (fun _ _ => rfl)) (pe_tup (pa_cons pe_str (pa_cons (pv 5) pa_nil))) (nomark _))))))) (fun _ _ _ _ _ => (pv 8))) (pss_one (ps_if (pt_cmpR (op_neU (rm64 hr)) (pe_ix ix_seq (pv 3) (pe_op op_subI (pv 5) pe_int) (fun _ _ => rfl)) (pe_cmpR (op_eqU (rm64 hr)) (pe_callB call_lenU (by rfl) Z.b_len (by decide +kernel) (pa_cons (pv 6) pa_nil)) pe_int (nomark _)) (nomark _)) (pss_one (ps_ret pe_bl)) pss_nil))))))))))) (pss_one (ps_ret pe_bl)))))
    (ok__law_is_forced Z.cf)
theorem has_law (Z : Facts K mg base A) : Has P w K mg base CX0 11 "law" ["script"] (up (S_law K A)) :=
  Has.mk0 (t := t_law K A) Z.f_law sc_law (fun _ _ _ _ _ _ us hl => match us, hl with | [_], _ => rfl) len_law
    (fun f cdv A0 outer s H E hr => (pss_cons (ps_set (i := 1) sc_law.nd rfl (by first | exact Or.inl rfl | exact Or.inr rfl) (pe_callH (has__law_draws Z) (hr.mono (by decide)) (by rfl) pass0 (pa_cons (pv 0) pa_nil))) (pss_cons (ps_set (i := 2) sc_law.nd rfl (by first | exact Or.inl rfl | exact Or.inr rfl) (pe_op op_addU (pe_op op_modU (pe_callH (has__law_at Z) (hr.mono (by decide)) (by rfl) pass0 (pa_cons (pv 1) (pa_cons pe_int pa_nil))) pe_int) (pe_op op_mulU pe_int (pe_callTy call_intU (by rfl) Z.b_int (by decide +kernel) (pa_cons (pe_cmpR (op_eqU (rm64 hr)) (pe_op op_modU (pe_op op_divU (pe_callH (has__law_at Z) (hr.mono (by decide)) (by rfl) pass0 (pa_cons (pv 1) (pa_cons pe_int pa_nil))) pe_int) pe_int) pe_int (nomark _)) pa_nil))))) (pss_cons (ps_set (i := 3) sc_law.nd rfl (by first | exact Or.inl rfl | exact Or.inr rfl) (pe_callH (has__law_triples Z) (hr.mono (by decide)) (by rfl) pass0 (pa_cons (pv 1) (pa_cons pe_int (pa_cons (pv 2) (pa_cons (pe_op op_addU pe_int (pe_op op_modU (pe_callH (has__law_at Z) (hr.mono (by decide)) (by rfl) pass0 (pa_cons (pv 1) (pa_cons pe_int pa_nil))) pe_int)) pa_nil)))))) (pss_cons (ps_set (i := 4) sc_law.nd rfl (by first | exact Or.inl rfl | exact Or.inr rfl) (pe_callH (has__law_rows_of Z) (hr.mono (by decide)) (by rfl) pass0 (pa_cons (pv 3) pa_nil))) (pss_cons (ps_set (i := 5) sc_law.nd rfl (by first | exact Or.inl rfl | exact Or.inr rfl) (pe_callH (has__law_deeds Z) (hr.mono (by decide)) (by rfl) pass0 (pa_cons (pv 3) pa_nil))) (pss_cons (ps_if (PW.pt (pw_or (pt_not (pt_tru (pe_callH (has__law_same Z) (hr.mono (by decide)) (by rfl) pass0 (pa_cons (pe_globE rfl Z.c_REPLICAS) (pa_cons pe_int pa_nil))))) (pw_or1 (pt_not (pt_tru (pe_callH (has__law_is_forced Z) (hr.mono (by decide)) (by rfl) pass0 (pa_cons (pv 4) (pa_cons (pv 5) pa_nil)))))))) (pss_one (ps_ret pe_bl)) pss_nil) (pss_cons (ps_set (i := 6) sc_law.nd rfl (by first | exact Or.inl rfl | exact Or.inr rfl) (pe_methH0 (pv 5) Z.cf.cl (has_Deeds_copy Z) (hr.mono (by decide)) pass0)) (pss_cons (ps_if (pt_cmpR (op_eqU (rm64 hr)) (pe_op op_modU (pe_callH (has__law_at Z) (hr.mono (by decide)) (by rfl) pass0 (pa_cons (pv 1) (pa_cons pe_int pa_nil))) pe_int) pe_int (nomark _)) (pss_one (ps_set (i := 6) sc_law.nd rfl (by first | exact Or.inl rfl | exact Or.inr rfl) (pe_methH0 (pv 6) Z.cf.cl (has_Deeds_copy Z) (hr.mono (by decide)) pass0))) pss_nil) (pss_cons (ps_set (i := 7) sc_law.nd rfl (by first | exact Or.inl rfl | exact Or.inr rfl) (pe_op op_modU (pe_callH (has__law_at Z) (hr.mono (by decide)) (by rfl) pass0 (pa_cons (pv 1) (pa_cons pe_int pa_nil))) pe_int)) (pss_cons (ps_set (i := 8) sc_law.nd rfl (by first | exact Or.inl rfl | exact Or.inr rfl) (pe_tup (pa_cons pe_str (pa_cons pe_str (pa_cons (pe_tup pa_nil) (pa_cons pe_non (pa_cons pe_int (pa_cons pe_str pa_nil)))))))) (pss_cons (ps_if (PW.pt (pw_and (pt_cmpR op_gtU (pe_callB call_lenU (by rfl) Z.b_len (by decide +kernel) (pa_cons (pe_ix ix_seq (pv 4) (pv 7) (fun _ _ => rfl)) pa_nil)) pe_int (nomark _)) (pw_and1 (pt_cmpR op_gtU (pe_op op_modU (pe_callH (has__law_at Z) (hr.mono (by decide)) (by rfl) pass0 (pa_cons (pv 1) (pa_cons pe_int pa_nil))) pe_int) pe_int (nomark _))))) (pss_one (ps_set (i := 8) sc_law.nd rfl (by first | exact Or.inl rfl | exact Or.inr rfl) (pe_tup (pa_cons pe_str (pa_cons (pe_op op_addU pe_int (pe_op op_modU (pe_callH (has__law_at Z) (hr.mono (by decide)) (by rfl) pass0 (pa_cons (pv 1) (pa_cons pe_int pa_nil))) (pe_callB call_lenU (by rfl) Z.b_len (by decide +kernel) (pa_cons (pe_ix ix_seq (pv 4) (pv 7) (fun _ _ => rfl)) pa_nil)))) pa_nil))))) pss_nil) (pss_cons (ps_setLc (i := 9) (own := [("row", 12)]) (g := (gName 12)) (by rfl) sc_law.nd rfl rfl (sw_true rfl rfl rfl (by decide +kernel)) (pi_list (pv 4)) (blkOk_by (own := [("row", 12)]) (N := ["script", "draws", "count", "triples", "rows", "deeds", "other", "replica", "deed", "grown", "pair", "turn", "row"]) (sc := defScope s_law) (by decide +kernel)) (fun _ _ _ _ _ => (pg_name (i := 12) sc_law.nd rfl (by first | exact Or.inl rfl | exact Or.inr rfl))) (fun _ _ _ _ _ => pts_nil) (fun _ _ _ _ _ => (pe_callTy call_listU (by rfl) Z.b_list (by decide +kernel) (pa_cons (pv 12) pa_nil)))) (pss_cons (ps_expr (pe_bm PySem.F.plainAttrs_list PySem.F.slot_list_append PySem.F.type_list_append mt_append (pe_ix ix_seq (pv 9) (pv 7) (fun _ _ => rfl)) (pa_cons (pv 8) pa_nil))) (pss_cons (ps_set (i := 10) sc_law.nd rfl (by first | exact Or.inl rfl | exact Or.inr rfl) (pe_lst (pa_cons (pv 5) (pa_cons (pv 6) pa_nil)))) (pss_cons (ps_set (i := 11) sc_law.nd rfl (by first | exact Or.inl rfl | exact Or.inr rfl) (pe_op op_modU (pe_callH (has__law_at Z) (hr.mono (by decide)) (by rfl) pass0 (pa_cons (pv 1) (pa_cons pe_int pa_nil))) pe_int)) (pss_cons (ps_expr (pe_methH (pe_ix ix_seq (pv 10) (pv 11) (fun _ _ => rfl)) Z.cf.cl (has_Deeds_add Z) (hr.mono (by decide)) pass0 (pa_cons (pv 7) (pa_cons (pv 8) pa_nil)))) (pss_cons (ps_expr (pe_bm PySem.F.plainAttrs_list PySem.F.slot_list_append PySem.F.type_list_append mt_append (pe_methH0 (pv 5) Z.cf.cl (has_Deeds_counts Z) (hr.mono (by decide)) pass0) (pa_cons pe_int pa_nil))) (pss_one (ps_ret (pe_and (pe_callH (has__law_is_forced Z) (hr.mono (by decide)) (by rfl) pass0 (pa_cons (pv 9) (pa_cons (pe_ix ix_seq (pv 10) (pv 11) (fun _ _ => rfl)) pa_nil))) (pe_one (pe_callH (has__law_is_forced Z) (hr.mono (by decide)) (by rfl) pass0 (pa_cons (pv 4) (pa_cons (pe_ix ix_seq (pv 10) (pe_op op_subI pe_int (pv 11)) (fun _ _ => rfl)) pa_nil)))))))))))))))))))))))))
    (ok_law Z.cf)
end
theorem law_sp {K : PySem.W.Frag} {A : Ad} {H : Hp} {a : Addr} {ns : List Int} (hl : ns.length ≤ 63) (hS : SqL K H a (ns.map V.int)) (T : LamX.Tabs (Tb A) H) : up (S_law K A) [.ref a] H (fun v _ => v = .bl true) (fun _ _ _ => False) :=
  ⟨H, fun v _ => v = .bl true, fun _ _ _ => False, Ex.refl _, ⟨a, ns, rfl, hS, hl, T, fun _ => rfl⟩, fun _ _ _ _ q => q, fun _ _ _ _ _ z => z⟩
theorem all_mk {l : PySem.W.OpenLaw} {w : World} {K : PySem.W.Frag} {h : Heap} {mg : Str → Option Value} {fa : Addr} (X : K.In h) (G : h.Ns mainGlobals mg) (hfa : mg "law" = some (.ref fa))
    {C_Deeds : Addr}
    {f0 : Addr} {od0 an0 : Option Addr} {sl0 : Array (Option Value)} {oc0 kV0 dc0 pm0 cd0 ct0 : Value}
    {f1 : Addr} {od1 an1 : Option Addr} {sl1 : Array (Option Value)} {oc1 kV1 dc1 pm1 cd1 ct1 : Value}
    {f2 : Addr} {od2 an2 : Option Addr} {sl2 : Array (Option Value)} {oc2 kV2 dc2 pm2 cd2 ct2 : Value}
    {f3 : Addr} {od3 an3 : Option Addr} {sl3 : Array (Option Value)} {oc3 kV3 dc3 pm3 cd3 ct3 : Value}
    {f4 : Addr} {od4 an4 : Option Addr} {sl4 : Array (Option Value)} {oc4 kV4 dc4 pm4 cd4 ct4 : Value}
    {f5 : Addr} {od5 an5 : Option Addr} {sl5 : Array (Option Value)} {oc5 kV5 dc5 pm5 cd5 ct5 : Value}
    {f6 : Addr} {od6 an6 : Option Addr} {sl6 : Array (Option Value)} {oc6 kV6 dc6 pm6 cd6 ct6 : Value}
    {f7 : Addr} {od7 an7 : Option Addr} {sl7 : Array (Option Value)} {oc7 kV7 dc7 pm7 cd7 ct7 : Value}
    {f8 ca8 ta8 : Addr} {od8 an8 oe8 : Option Addr} {sl8 sm8 : Array (Option Value)} {vf8 : Array Value} {oc8 kV8 dc8 pm8 ct8 : Value}
    {f9 : Addr} {od9 an9 : Option Addr} {sl9 : Array (Option Value)} {oc9 kV9 dc9 pm9 cd9 ct9 : Value}
    {f10 : Addr} {od10 an10 : Option Addr} {sl10 : Array (Option Value)} {oc10 kV10 dc10 pm10 cd10 ct10 : Value}
    {f11 : Addr} {od11 an11 : Option Addr} {sl11 : Array (Option Value)} {oc11 kV11 dc11 pm11 cd11 ct11 : Value}
    {f12 : Addr} {od12 an12 : Option Addr} {sl12 : Array (Option Value)} {oc12 kV12 dc12 pm12 cd12 ct12 : Value}
    {f13 : Addr} {od13 an13 : Option Addr} {sl13 : Array (Option Value)} {oc13 kV13 dc13 pm13 cd13 ct13 : Value}
    {f14 : Addr} {od14 an14 : Option Addr} {sl14 : Array (Option Value)} {oc14 kV14 dc14 pm14 cd14 ct14 : Value}
    {f15 : Addr} {od15 an15 : Option Addr} {sl15 : Array (Option Value)} {oc15 kV15 dc15 pm15 cd15 ct15 : Value}
    {f16 : Addr} {od16 an16 : Option Addr} {sl16 : Array (Option Value)} {oc16 kV16 dc16 pm16 cd16 ct16 : Value}
    {f17 ca17 ta17 : Addr} {od17 an17 oe17 : Option Addr} {sl17 sm17 : Array (Option Value)} {vf17 : Array Value} {oc17 kV17 dc17 pm17 ct17 : Value}
    {f18 : Addr} {od18 an18 : Option Addr} {sl18 : Array (Option Value)} {oc18 kV18 dc18 pm18 cd18 ct18 : Value}
    {f19 : Addr} {od19 an19 : Option Addr} {sl19 : Array (Option Value)} {oc19 kV19 dc19 pm19 cd19 ct19 : Value}
    {f20 : Addr} {od20 an20 : Option Addr} {sl20 : Array (Option Value)} {oc20 kV20 dc20 pm20 cd20 ct20 : Value}
    {f21 : Addr} {od21 an21 : Option Addr} {sl21 : Array (Option Value)} {oc21 kV21 dc21 pm21 cd21 ct21 : Value}
    {f22 : Addr} {od22 an22 : Option Addr} {sl22 : Array (Option Value)} {oc22 kV22 dc22 pm22 cd22 ct22 : Value}
    {f23 : Addr} {od23 an23 : Option Addr} {sl23 : Array (Option Value)} {oc23 kV23 dc23 pm23 cd23 ct23 : Value}
    {f24 : Addr} {od24 an24 : Option Addr} {sl24 : Array (Option Value)} {oc24 kV24 dc24 pm24 cd24 ct24 : Value}
    {f25 : Addr} {od25 an25 : Option Addr} {sl25 : Array (Option Value)} {oc25 kV25 dc25 pm25 cd25 ct25 : Value}
    {f26 : Addr} {od26 an26 : Option Addr} {sl26 : Array (Option Value)} {oc26 kV26 dc26 pm26 cd26 ct26 : Value}
    {f27 : Addr} {od27 an27 : Option Addr} {sl27 : Array (Option Value)} {oc27 kV27 dc27 pm27 cd27 ct27 : Value}
    {ck_REPLICAS : Tok}
    (gC_Deeds : PySem.W.nsIn K mainGlobals "Deeds" = some (some (.ref C_Deeds)))
    (pg_Deeds : PySem.W.plainGet K C_Deeds Str.empty = true)
    (hd_Deeds : PySem.W.hasDictIn K C_Deeds = true)
    (po_Deeds : PySem.W.plainOver K C_Deeds = true)
    (sa_Deeds : PySem.W.findIn K (.ref C_Deeds) "__setattr__" = some (some (.builtin "object.__setattr__")))
    (mk_Deeds : PySem.W.makesIn K C_Deeds = true)
    (kc_Deeds : PySem.W.keepIn K (.ref C_Deeds) = true)
    (n0_Deeds : PySem.W.findIn K (.ref C_Deeds) "rows" = some none)
    (a0 : PySem.W.nsIn K mainGlobals "inserted" = some (some (.ref f0)))
    (l0 : K.lookup f0 = some ⟨oc0, od0, .func (PySem.W.fnOf "inserted" "inserted" (defArgs s_inserted) (defBody s_inserted) (defScope s_inserted) .none kV0 dc0 pm0 an0 cd0 ct0), sl0⟩)
    (c0 : PySem.W.codeIn K cd0 "inserted" = true)
    (k0 : PySem.W.keepIn K (.ref f0) = true)
    (a1 : PySem.W.findIn K (.ref C_Deeds) "__init__" = some (some (.ref f1)))
    (i1 : PySem.W.isFn K (.ref f1) = true)
    (l1 : K.lookup f1 = some ⟨oc1, od1, .func (PySem.W.fnOf "__init__" "Deeds.__init__" (defArgs s_Deeds_init) (defBody s_Deeds_init) (defScope s_Deeds_init) .none kV1 dc1 pm1 an1 cd1 ct1), sl1⟩)
    (c1 : PySem.W.codeIn K cd1 "Deeds.__init__" = true)
    (k1 : PySem.W.keepIn K (.ref f1) = true)
    (a2 : PySem.W.findIn K (.ref C_Deeds) "counts" = some (some (.ref f2)))
    (i2 : PySem.W.isFn K (.ref f2) = true)
    (l2 : K.lookup f2 = some ⟨oc2, od2, .func (PySem.W.fnOf "counts" "Deeds.counts" (defArgs s_Deeds_counts) (defBody s_Deeds_counts) (defScope s_Deeds_counts) .none kV2 dc2 pm2 an2 cd2 ct2), sl2⟩)
    (c2 : PySem.W.codeIn K cd2 "Deeds.counts" = true)
    (k2 : PySem.W.keepIn K (.ref f2) = true)
    (a3 : PySem.W.findIn K (.ref C_Deeds) "add" = some (some (.ref f3)))
    (i3 : PySem.W.isFn K (.ref f3) = true)
    (l3 : K.lookup f3 = some ⟨oc3, od3, .func (PySem.W.fnOf "add" "Deeds.add" (defArgs s_Deeds_add) (defBody s_Deeds_add) (defScope s_Deeds_add) .none kV3 dc3 pm3 an3 cd3 ct3), sl3⟩)
    (c3 : PySem.W.codeIn K cd3 "Deeds.add" = true)
    (k3 : PySem.W.keepIn K (.ref f3) = true)
    (a4 : PySem.W.findIn K (.ref C_Deeds) "copy" = some (some (.ref f4)))
    (i4 : PySem.W.isFn K (.ref f4) = true)
    (l4 : K.lookup f4 = some ⟨oc4, od4, .func (PySem.W.fnOf "copy" "Deeds.copy" (defArgs s_Deeds_copy) (defBody s_Deeds_copy) (defScope s_Deeds_copy) .none kV4 dc4 pm4 an4 cd4 ct4), sl4⟩)
    (c4 : PySem.W.codeIn K cd4 "Deeds.copy" = true)
    (k4 : PySem.W.keepIn K (.ref f4) = true)
    (a5 : PySem.W.findIn K (.ref C_Deeds) "forces" = some (some (.ref f5)))
    (i5 : PySem.W.isFn K (.ref f5) = true)
    (l5 : K.lookup f5 = some ⟨oc5, od5, .func (PySem.W.fnOf "forces" "Deeds.forces" (defArgs s_Deeds_forces) (defBody s_Deeds_forces) (defScope s_Deeds_forces) .none kV5 dc5 pm5 an5 cd5 ct5), sl5⟩)
    (c5 : PySem.W.codeIn K cd5 "Deeds.forces" = true)
    (k5 : PySem.W.keepIn K (.ref f5) = true)
    (a6 : PySem.W.findIn K (.ref C_Deeds) "in_force" = some (some (.ref f6)))
    (i6 : PySem.W.isFn K (.ref f6) = true)
    (l6 : K.lookup f6 = some ⟨oc6, od6, .func (PySem.W.fnOf "in_force" "Deeds.in_force" (defArgs s_Deeds_in_force) (defBody s_Deeds_in_force) (defScope s_Deeds_in_force) .none kV6 dc6 pm6 an6 cd6 ct6), sl6⟩)
    (c6 : PySem.W.codeIn K cd6 "Deeds.in_force" = true)
    (k6 : PySem.W.keepIn K (.ref f6) = true)
    (a7 : PySem.W.findIn K (.ref C_Deeds) "changes" = some (some (.ref f7)))
    (i7 : PySem.W.isFn K (.ref f7) = true)
    (l7 : K.lookup f7 = some ⟨oc7, od7, .func (PySem.W.fnOf "changes" "Deeds.changes" (defArgs s_Deeds_changes) (defBody s_Deeds_changes) (defScope s_Deeds_changes) .none kV7 dc7 pm7 an7 cd7 ct7), sl7⟩)
    (c7 : PySem.W.codeIn K cd7 "Deeds.changes" = true)
    (k7 : PySem.W.keepIn K (.ref f7) = true)
    (a8 : PySem.W.findIn K (.ref C_Deeds) "row" = some (some (.ref f8)))
    (i8 : PySem.W.isFn K (.ref f8) = true)
    (l8 : K.lookup f8 = some ⟨oc8, od8, .func (PySem.W.fnOf "row" "Deeds.row" (defArgs s_Deeds_row) (defBody s_Deeds_row) (defScope s_Deeds_row) .none kV8 dc8 pm8 an8 (.ref ca8) ct8), sl8⟩)
    (c8 : PySem.W.codeIn K (.ref ca8) "Deeds.row" = true)
    (k8 : PySem.W.keepIn K (.ref f8) = true)
    (u8 : K.lookup ca8 = some ⟨.type "code", oe8, .fields vf8, sm8⟩)
    (v8 : vf8[11]? = some (.ref ta8))
    (h8 : PySem.W.codeHdIn K ca8 ta8 = true)
    (n8 : K.lookup ta8 = none)
    (t8 : h.get? ta8 = some (PySem.W.tabObj #[]))
    (a9 : PySem.W.nsIn K mainGlobals "_law_mix" = some (some (.ref f9)))
    (l9 : K.lookup f9 = some ⟨oc9, od9, .func (PySem.W.fnOf "_law_mix" "_law_mix" (defArgs s__law_mix) (defBody s__law_mix) (defScope s__law_mix) .none kV9 dc9 pm9 an9 cd9 ct9), sl9⟩)
    (c9 : PySem.W.codeIn K cd9 "_law_mix" = true)
    (k9 : PySem.W.keepIn K (.ref f9) = true)
    (a10 : PySem.W.nsIn K mainGlobals "_law_draws" = some (some (.ref f10)))
    (l10 : K.lookup f10 = some ⟨oc10, od10, .func (PySem.W.fnOf "_law_draws" "_law_draws" (defArgs s__law_draws) (defBody s__law_draws) (defScope s__law_draws) .none kV10 dc10 pm10 an10 cd10 ct10), sl10⟩)
    (c10 : PySem.W.codeIn K cd10 "_law_draws" = true)
    (k10 : PySem.W.keepIn K (.ref f10) = true)
    (a11 : PySem.W.nsIn K mainGlobals "_law_at" = some (some (.ref f11)))
    (l11 : K.lookup f11 = some ⟨oc11, od11, .func (PySem.W.fnOf "_law_at" "_law_at" (defArgs s__law_at) (defBody s__law_at) (defScope s__law_at) .none kV11 dc11 pm11 an11 cd11 ct11), sl11⟩)
    (c11 : PySem.W.codeIn K cd11 "_law_at" = true)
    (k11 : PySem.W.keepIn K (.ref f11) = true)
    (a12 : PySem.W.nsIn K mainGlobals "_law_is_integer" = some (some (.ref f12)))
    (l12 : K.lookup f12 = some ⟨oc12, od12, .func (PySem.W.fnOf "_law_is_integer" "_law_is_integer" (defArgs s__law_is_integer) (defBody s__law_is_integer) (defScope s__law_is_integer) .none kV12 dc12 pm12 an12 cd12 ct12), sl12⟩)
    (c12 : PySem.W.codeIn K cd12 "_law_is_integer" = true)
    (k12 : PySem.W.keepIn K (.ref f12) = true)
    (a13 : PySem.W.nsIn K mainGlobals "_law_same" = some (some (.ref f13)))
    (l13 : K.lookup f13 = some ⟨oc13, od13, .func (PySem.W.fnOf "_law_same" "_law_same" (defArgs s__law_same) (defBody s__law_same) (defScope s__law_same) .none kV13 dc13 pm13 an13 cd13 ct13), sl13⟩)
    (c13 : PySem.W.codeIn K cd13 "_law_same" = true)
    (k13 : PySem.W.keepIn K (.ref f13) = true)
    (a14 : PySem.W.nsIn K mainGlobals "_law_inserted" = some (some (.ref f14)))
    (l14 : K.lookup f14 = some ⟨oc14, od14, .func (PySem.W.fnOf "_law_inserted" "_law_inserted" (defArgs s__law_inserted) (defBody s__law_inserted) (defScope s__law_inserted) .none kV14 dc14 pm14 an14 cd14 ct14), sl14⟩)
    (c14 : PySem.W.codeIn K cd14 "_law_inserted" = true)
    (k14 : PySem.W.keepIn K (.ref f14) = true)
    (a15 : PySem.W.nsIn K mainGlobals "_law_forces" = some (some (.ref f15)))
    (l15 : K.lookup f15 = some ⟨oc15, od15, .func (PySem.W.fnOf "_law_forces" "_law_forces" (defArgs s__law_forces) (defBody s__law_forces) (defScope s__law_forces) .none kV15 dc15 pm15 an15 cd15 ct15), sl15⟩)
    (c15 : PySem.W.codeIn K cd15 "_law_forces" = true)
    (k15 : PySem.W.keepIn K (.ref f15) = true)
    (a16 : PySem.W.nsIn K mainGlobals "_law_changes" = some (some (.ref f16)))
    (l16 : K.lookup f16 = some ⟨oc16, od16, .func (PySem.W.fnOf "_law_changes" "_law_changes" (defArgs s__law_changes) (defBody s__law_changes) (defScope s__law_changes) .none kV16 dc16 pm16 an16 cd16 ct16), sl16⟩)
    (c16 : PySem.W.codeIn K cd16 "_law_changes" = true)
    (k16 : PySem.W.keepIn K (.ref f16) = true)
    (a17 : PySem.W.nsIn K mainGlobals "_law_row" = some (some (.ref f17)))
    (l17 : K.lookup f17 = some ⟨oc17, od17, .func (PySem.W.fnOf "_law_row" "_law_row" (defArgs s__law_row) (defBody s__law_row) (defScope s__law_row) .none kV17 dc17 pm17 an17 (.ref ca17) ct17), sl17⟩)
    (c17 : PySem.W.codeIn K (.ref ca17) "_law_row" = true)
    (k17 : PySem.W.keepIn K (.ref f17) = true)
    (u17 : K.lookup ca17 = some ⟨.type "code", oe17, .fields vf17, sm17⟩)
    (v17 : vf17[11]? = some (.ref ta17))
    (h17 : PySem.W.codeHdIn K ca17 ta17 = true)
    (n17 : K.lookup ta17 = none)
    (t17 : h.get? ta17 = some (PySem.W.tabObj #[]))
    (a18 : PySem.W.nsIn K mainGlobals "_law_last" = some (some (.ref f18)))
    (l18 : K.lookup f18 = some ⟨oc18, od18, .func (PySem.W.fnOf "_law_last" "_law_last" (defArgs s__law_last) (defBody s__law_last) (defScope s__law_last) .none kV18 dc18 pm18 an18 cd18 ct18), sl18⟩)
    (c18 : PySem.W.codeIn K cd18 "_law_last" = true)
    (k18 : PySem.W.keepIn K (.ref f18) = true)
    (a19 : PySem.W.nsIn K mainGlobals "_law_modules" = some (some (.ref f19)))
    (l19 : K.lookup f19 = some ⟨oc19, od19, .func (PySem.W.fnOf "_law_modules" "_law_modules" (defArgs s__law_modules) (defBody s__law_modules) (defScope s__law_modules) .none kV19 dc19 pm19 an19 cd19 ct19), sl19⟩)
    (c19 : PySem.W.codeIn K cd19 "_law_modules" = true)
    (k19 : PySem.W.keepIn K (.ref f19) = true)
    (a20 : PySem.W.nsIn K mainGlobals "_law_letters" = some (some (.ref f20)))
    (l20 : K.lookup f20 = some ⟨oc20, od20, .func (PySem.W.fnOf "_law_letters" "_law_letters" (defArgs s__law_letters) (defBody s__law_letters) (defScope s__law_letters) .none kV20 dc20 pm20 an20 cd20 ct20), sl20⟩)
    (c20 : PySem.W.codeIn K cd20 "_law_letters" = true)
    (k20 : PySem.W.keepIn K (.ref f20) = true)
    (a21 : PySem.W.nsIn K mainGlobals "_law_deed" = some (some (.ref f21)))
    (l21 : K.lookup f21 = some ⟨oc21, od21, .func (PySem.W.fnOf "_law_deed" "_law_deed" (defArgs s__law_deed) (defBody s__law_deed) (defScope s__law_deed) .none kV21 dc21 pm21 an21 cd21 ct21), sl21⟩)
    (c21 : PySem.W.codeIn K cd21 "_law_deed" = true)
    (k21 : PySem.W.keepIn K (.ref f21) = true)
    (a22 : PySem.W.nsIn K mainGlobals "_law_visible" = some (some (.ref f22)))
    (l22 : K.lookup f22 = some ⟨oc22, od22, .func (PySem.W.fnOf "_law_visible" "_law_visible" (defArgs s__law_visible) (defBody s__law_visible) (defScope s__law_visible) .none kV22 dc22 pm22 an22 cd22 ct22), sl22⟩)
    (c22 : PySem.W.codeIn K cd22 "_law_visible" = true)
    (k22 : PySem.W.keepIn K (.ref f22) = true)
    (a23 : PySem.W.nsIn K mainGlobals "_law_triples" = some (some (.ref f23)))
    (l23 : K.lookup f23 = some ⟨oc23, od23, .func (PySem.W.fnOf "_law_triples" "_law_triples" (defArgs s__law_triples) (defBody s__law_triples) (defScope s__law_triples) .none kV23 dc23 pm23 an23 cd23 ct23), sl23⟩)
    (c23 : PySem.W.codeIn K cd23 "_law_triples" = true)
    (k23 : PySem.W.keepIn K (.ref f23) = true)
    (a24 : PySem.W.nsIn K mainGlobals "_law_rows_of" = some (some (.ref f24)))
    (l24 : K.lookup f24 = some ⟨oc24, od24, .func (PySem.W.fnOf "_law_rows_of" "_law_rows_of" (defArgs s__law_rows_of) (defBody s__law_rows_of) (defScope s__law_rows_of) .none kV24 dc24 pm24 an24 cd24 ct24), sl24⟩)
    (c24 : PySem.W.codeIn K cd24 "_law_rows_of" = true)
    (k24 : PySem.W.keepIn K (.ref f24) = true)
    (a25 : PySem.W.nsIn K mainGlobals "_law_deeds" = some (some (.ref f25)))
    (l25 : K.lookup f25 = some ⟨oc25, od25, .func (PySem.W.fnOf "_law_deeds" "_law_deeds" (defArgs s__law_deeds) (defBody s__law_deeds) (defScope s__law_deeds) .none kV25 dc25 pm25 an25 cd25 ct25), sl25⟩)
    (c25 : PySem.W.codeIn K cd25 "_law_deeds" = true)
    (k25 : PySem.W.keepIn K (.ref f25) = true)
    (a26 : PySem.W.nsIn K mainGlobals "_law_is_forced" = some (some (.ref f26)))
    (l26 : K.lookup f26 = some ⟨oc26, od26, .func (PySem.W.fnOf "_law_is_forced" "_law_is_forced" (defArgs s__law_is_forced) (defBody s__law_is_forced) (defScope s__law_is_forced) .none kV26 dc26 pm26 an26 cd26 ct26), sl26⟩)
    (c26 : PySem.W.codeIn K cd26 "_law_is_forced" = true)
    (k26 : PySem.W.keepIn K (.ref f26) = true)
    (a27 : PySem.W.nsIn K mainGlobals "law" = some (some (.ref f27)))
    (l27 : K.lookup f27 = some ⟨oc27, od27, .func (PySem.W.fnOf "law" "law" (defArgs s_law) (defBody s_law) (defScope s_law) .none kV27 dc27 pm27 an27 cd27 ct27), sl27⟩)
    (c27 : PySem.W.codeIn K cd27 "law" = true)
    (k27 : PySem.W.keepIn K (.ref f27) = true)
    (cc_REPLICAS : PySem.W.nsIn K mainGlobals "REPLICAS" = some (some (.int 8 ck_REPLICAS)))
    (z_bool : PySem.W.nsIn K mainGlobals "bool" = some none)
    (z_each : PySem.W.nsIn K mainGlobals "each" = some none)
    (z_enumerate : PySem.W.nsIn K mainGlobals "enumerate" = some none)
    (z_int : PySem.W.nsIn K mainGlobals "int" = some none)
    (z_isinstance : PySem.W.nsIn K mainGlobals "isinstance" = some none)
    (z_len : PySem.W.nsIn K mainGlobals "len" = some none)
    (z_list : PySem.W.nsIn K mainGlobals "list" = some none)
    (z_max : PySem.W.nsIn K mainGlobals "max" = some none)
    (z_min : PySem.W.nsIn K mainGlobals "min" = some none)
    (z_range : PySem.W.nsIn K mainGlobals "range" = some none)
    (z_sorted : PySem.W.nsIn K mainGlobals "sorted" = some none)
    (z_str : PySem.W.nsIn K mainGlobals "str" = some none)
    (z_tuple : PySem.W.nsIn K mainGlobals "tuple" = some none)
    (z_zip : PySem.W.nsIn K mainGlobals "zip" = some none)
    (ne0_1 : ta8 ≠ ta17) :
    LamX.LawAtS l w K CX0 11 63 "script" mg fa h := by
  have e := hfa.symm.trans (PySem.W.mg_of X G a27)
  cases e
  refine ⟨PySem.W.fnOf "law" "law" (defArgs s_law) (defBody s_law) (defScope s_law) .none kV27 dc27 pm27 an27 cd27 ct27, [(ca8, ta8), (ca17, ta17)], up (S_law K ⟨C_Deeds, ca8, ta8, ca17, ta17⟩), ?_, ?_, ?_, fun s v => .of_eq rfl, fun H a ns hl _ hT hS => law_sp hl hS ?_, fun base kb nb TB => ?_⟩
  · exact List.forall_mem_cons.mpr ⟨t8, List.forall_mem_cons.mpr ⟨t17, fun _ z => nomatch z⟩⟩
  · exact List.forall_mem_cons.mpr ⟨n8, List.forall_mem_cons.mpr ⟨n17, fun _ z => nomatch z⟩⟩
  · exact List.forall_mem_cons.mpr ⟨PySem.W.codeHd_of_K X h8, List.forall_mem_cons.mpr ⟨PySem.W.codeHd_of_K X h17, fun _ z => nomatch z⟩⟩
  · exact List.forall_mem_cons.mpr ⟨LamX.TabS.nil (hT (ca8, ta8) (by simp)), List.forall_mem_cons.mpr ⟨LamX.TabS.nil (hT (ca17, ta17) (by simp)), fun _ z => nomatch z⟩⟩
  have Z : Facts K mg base ⟨C_Deeds, ca8, ta8, ca17, ta17⟩ := ⟨ne0_1,
    TB (ca8, ta8) (by simp),
    TB (ca17, ta17) (by simp),
    ⟨⟨pg_Deeds, hd_Deeds, po_Deeds, sa_Deeds⟩, n0_Deeds⟩,
    ⟨⟨_, _, PySem.W.mg_of kb nb a0, fun_mk (st := s_inserted) l0 c0 k0⟩⟩,
    ⟨⟨_, _, ⟨mk_Deeds, a1, i1, kc_Deeds⟩, fun_mk (st := s_Deeds_init) l1 c1 k1⟩⟩,
    ⟨⟨_, _, ⟨a2, i2, k2⟩, fun_mk (st := s_Deeds_counts) l2 c2 k2⟩⟩,
    ⟨⟨_, _, ⟨a3, i3, k3⟩, fun_mk (st := s_Deeds_add) l3 c3 k3⟩⟩,
    ⟨⟨_, _, ⟨a4, i4, k4⟩, fun_mk (st := s_Deeds_copy) l4 c4 k4⟩⟩,
    ⟨⟨_, _, ⟨a5, i5, k5⟩, fun_mk (st := s_Deeds_forces) l5 c5 k5⟩⟩,
    ⟨⟨_, _, ⟨a6, i6, k6⟩, fun_mk (st := s_Deeds_in_force) l6 c6 k6⟩⟩,
    ⟨⟨_, _, ⟨a7, i7, k7⟩, fun_mk (st := s_Deeds_changes) l7 c7 k7⟩⟩,
    ⟨⟨_, _, ⟨a8, i8, k8⟩, funC_mk (st := s_Deeds_row) l8 c8 k8⟩⟩,
    ⟨⟨_, _, PySem.W.mg_of kb nb a9, fun_mk (st := s__law_mix) l9 c9 k9⟩⟩,
    ⟨⟨_, _, PySem.W.mg_of kb nb a10, fun_mk (st := s__law_draws) l10 c10 k10⟩⟩,
    ⟨⟨_, _, PySem.W.mg_of kb nb a11, fun_mk (st := s__law_at) l11 c11 k11⟩⟩,
    ⟨⟨_, _, PySem.W.mg_of kb nb a12, fun_mk (st := s__law_is_integer) l12 c12 k12⟩⟩,
    ⟨⟨_, _, PySem.W.mg_of kb nb a13, fun_mk (st := s__law_same) l13 c13 k13⟩⟩,
    ⟨⟨_, _, PySem.W.mg_of kb nb a14, fun_mk (st := s__law_inserted) l14 c14 k14⟩⟩,
    ⟨⟨_, _, PySem.W.mg_of kb nb a15, fun_mk (st := s__law_forces) l15 c15 k15⟩⟩,
    ⟨⟨_, _, PySem.W.mg_of kb nb a16, fun_mk (st := s__law_changes) l16 c16 k16⟩⟩,
    ⟨⟨_, _, PySem.W.mg_of kb nb a17, funC_mk (st := s__law_row) l17 c17 k17⟩⟩,
    ⟨⟨_, _, PySem.W.mg_of kb nb a18, fun_mk (st := s__law_last) l18 c18 k18⟩⟩,
    ⟨⟨_, _, PySem.W.mg_of kb nb a19, fun_mk (st := s__law_modules) l19 c19 k19⟩⟩,
    ⟨⟨_, _, PySem.W.mg_of kb nb a20, fun_mk (st := s__law_letters) l20 c20 k20⟩⟩,
    ⟨⟨_, _, PySem.W.mg_of kb nb a21, fun_mk (st := s__law_deed) l21 c21 k21⟩⟩,
    ⟨⟨_, _, PySem.W.mg_of kb nb a22, fun_mk (st := s__law_visible) l22 c22 k22⟩⟩,
    ⟨⟨_, _, PySem.W.mg_of kb nb a23, fun_mk (st := s__law_triples) l23 c23 k23⟩⟩,
    ⟨⟨_, _, PySem.W.mg_of kb nb a24, fun_mk (st := s__law_rows_of) l24 c24 k24⟩⟩,
    ⟨⟨_, _, PySem.W.mg_of kb nb a25, fun_mk (st := s__law_deeds) l25 c25 k25⟩⟩,
    ⟨⟨_, _, PySem.W.mg_of kb nb a26, fun_mk (st := s__law_is_forced) l26 c26 k26⟩⟩,
    ⟨⟨_, _, PySem.W.mg_of kb nb a27, fun_mk (st := s_law) l27 c27 k27⟩⟩,
    PySem.W.mg_none_of kb nb z_bool,
    PySem.W.mg_none_of kb nb z_each,
    PySem.W.mg_none_of kb nb z_enumerate,
    PySem.W.mg_none_of kb nb z_int,
    PySem.W.mg_none_of kb nb z_isinstance,
    PySem.W.mg_none_of kb nb z_len,
    PySem.W.mg_none_of kb nb z_list,
    PySem.W.mg_none_of kb nb z_max,
    PySem.W.mg_none_of kb nb z_min,
    PySem.W.mg_none_of kb nb z_range,
    PySem.W.mg_none_of kb nb z_sorted,
    PySem.W.mg_none_of kb nb z_str,
    PySem.W.mg_none_of kb nb z_tuple,
    PySem.W.mg_none_of kb nb z_zip,
    ⟨_, by first | exact ⟨_, rfl⟩ | rfl, PySem.W.mg_of kb nb cc_REPLICAS⟩,
    PySem.W.mg_of kb nb gC_Deeds⟩
  exact fnok0 (S := S_law K ⟨C_Deeds, ca8, ta8, ca17, ta17⟩) (t := t_law K ⟨C_Deeds, ca8, ta8, ca17, ta17⟩) (fun_mk (st := s_law) l27 c27 k27) sc_law len_law (fun f cdv A0 outer s H E hr => (pss_cons (ps_set (i := 1) sc_law.nd rfl (by first | exact Or.inl rfl | exact Or.inr rfl) (pe_callH (has__law_draws Z) (hr.mono (by decide)) (by rfl) pass0 (pa_cons (pv 0) pa_nil))) (pss_cons (ps_set (i := 2) sc_law.nd rfl (by first | exact Or.inl rfl | exact Or.inr rfl) (pe_op op_addU (pe_op op_modU (pe_callH (has__law_at Z) (hr.mono (by decide)) (by rfl) pass0 (pa_cons (pv 1) (pa_cons pe_int pa_nil))) pe_int) (pe_op op_mulU pe_int (pe_callTy call_intU (by rfl) Z.b_int (by decide +kernel) (pa_cons (pe_cmpR (op_eqU (rm64 hr)) (pe_op op_modU (pe_op op_divU (pe_callH (has__law_at Z) (hr.mono (by decide)) (by rfl) pass0 (pa_cons (pv 1) (pa_cons pe_int pa_nil))) pe_int) pe_int) pe_int (nomark _)) pa_nil))))) (pss_cons (ps_set (i := 3) sc_law.nd rfl (by first | exact Or.inl rfl | exact Or.inr rfl) (pe_callH (has__law_triples Z) (hr.mono (by decide)) (by rfl) pass0 (pa_cons (pv 1) (pa_cons pe_int (pa_cons (pv 2) (pa_cons (pe_op op_addU pe_int (pe_op op_modU (pe_callH (has__law_at Z) (hr.mono (by decide)) (by rfl) pass0 (pa_cons (pv 1) (pa_cons pe_int pa_nil))) pe_int)) pa_nil)))))) (pss_cons (ps_set (i := 4) sc_law.nd rfl (by first | exact Or.inl rfl | exact Or.inr rfl) (pe_callH (has__law_rows_of Z) (hr.mono (by decide)) (by rfl) pass0 (pa_cons (pv 3) pa_nil))) (pss_cons (ps_set (i := 5) sc_law.nd rfl (by first | exact Or.inl rfl | exact Or.inr rfl) (pe_callH (has__law_deeds Z) (hr.mono (by decide)) (by rfl) pass0 (pa_cons (pv 3) pa_nil))) (pss_cons (ps_if (PW.pt (pw_or (pt_not (pt_tru (pe_callH (has__law_same Z) (hr.mono (by decide)) (by rfl) pass0 (pa_cons (pe_globE rfl Z.c_REPLICAS) (pa_cons pe_int pa_nil))))) (pw_or1 (pt_not (pt_tru (pe_callH (has__law_is_forced Z) (hr.mono (by decide)) (by rfl) pass0 (pa_cons (pv 4) (pa_cons (pv 5) pa_nil)))))))) (pss_one (ps_ret pe_bl)) pss_nil) (pss_cons (ps_set (i := 6) sc_law.nd rfl (by first | exact Or.inl rfl | exact Or.inr rfl) (pe_methH0 (pv 5) Z.cf.cl (has_Deeds_copy Z) (hr.mono (by decide)) pass0)) (pss_cons (ps_if (pt_cmpR (op_eqU (rm64 hr)) (pe_op op_modU (pe_callH (has__law_at Z) (hr.mono (by decide)) (by rfl) pass0 (pa_cons (pv 1) (pa_cons pe_int pa_nil))) pe_int) pe_int (nomark _)) (pss_one (ps_set (i := 6) sc_law.nd rfl (by first | exact Or.inl rfl | exact Or.inr rfl) (pe_methH0 (pv 6) Z.cf.cl (has_Deeds_copy Z) (hr.mono (by decide)) pass0))) pss_nil) (pss_cons (ps_set (i := 7) sc_law.nd rfl (by first | exact Or.inl rfl | exact Or.inr rfl) (pe_op op_modU (pe_callH (has__law_at Z) (hr.mono (by decide)) (by rfl) pass0 (pa_cons (pv 1) (pa_cons pe_int pa_nil))) pe_int)) (pss_cons (ps_set (i := 8) sc_law.nd rfl (by first | exact Or.inl rfl | exact Or.inr rfl) (pe_tup (pa_cons pe_str (pa_cons pe_str (pa_cons (pe_tup pa_nil) (pa_cons pe_non (pa_cons pe_int (pa_cons pe_str pa_nil)))))))) (pss_cons (ps_if (PW.pt (pw_and (pt_cmpR op_gtU (pe_callB call_lenU (by rfl) Z.b_len (by decide +kernel) (pa_cons (pe_ix ix_seq (pv 4) (pv 7) (fun _ _ => rfl)) pa_nil)) pe_int (nomark _)) (pw_and1 (pt_cmpR op_gtU (pe_op op_modU (pe_callH (has__law_at Z) (hr.mono (by decide)) (by rfl) pass0 (pa_cons (pv 1) (pa_cons pe_int pa_nil))) pe_int) pe_int (nomark _))))) (pss_one (ps_set (i := 8) sc_law.nd rfl (by first | exact Or.inl rfl | exact Or.inr rfl) (pe_tup (pa_cons pe_str (pa_cons (pe_op op_addU pe_int (pe_op op_modU (pe_callH (has__law_at Z) (hr.mono (by decide)) (by rfl) pass0 (pa_cons (pv 1) (pa_cons pe_int pa_nil))) (pe_callB call_lenU (by rfl) Z.b_len (by decide +kernel) (pa_cons (pe_ix ix_seq (pv 4) (pv 7) (fun _ _ => rfl)) pa_nil)))) pa_nil))))) pss_nil) (pss_cons (ps_setLc (i := 9) (own := [("row", 12)]) (g := (gName 12)) (by rfl) sc_law.nd rfl rfl (sw_true rfl rfl rfl (by decide +kernel)) (pi_list (pv 4)) (blkOk_by (own := [("row", 12)]) (N := ["script", "draws", "count", "triples", "rows", "deeds", "other", "replica", "deed", "grown", "pair", "turn", "row"]) (sc := defScope s_law) (by decide +kernel)) (fun _ _ _ _ _ => (pg_name (i := 12) sc_law.nd rfl (by first | exact Or.inl rfl | exact Or.inr rfl))) (fun _ _ _ _ _ => pts_nil) (fun _ _ _ _ _ => (pe_callTy call_listU (by rfl) Z.b_list (by decide +kernel) (pa_cons (pv 12) pa_nil)))) (pss_cons (ps_expr (pe_bm PySem.F.plainAttrs_list PySem.F.slot_list_append PySem.F.type_list_append mt_append (pe_ix ix_seq (pv 9) (pv 7) (fun _ _ => rfl)) (pa_cons (pv 8) pa_nil))) (pss_cons (ps_set (i := 10) sc_law.nd rfl (by first | exact Or.inl rfl | exact Or.inr rfl) (pe_lst (pa_cons (pv 5) (pa_cons (pv 6) pa_nil)))) (pss_cons (ps_set (i := 11) sc_law.nd rfl (by first | exact Or.inl rfl | exact Or.inr rfl) (pe_op op_modU (pe_callH (has__law_at Z) (hr.mono (by decide)) (by rfl) pass0 (pa_cons (pv 1) (pa_cons pe_int pa_nil))) pe_int)) (pss_cons (ps_expr (pe_methH (pe_ix ix_seq (pv 10) (pv 11) (fun _ _ => rfl)) Z.cf.cl (has_Deeds_add Z) (hr.mono (by decide)) pass0 (pa_cons (pv 7) (pa_cons (pv 8) pa_nil)))) (pss_cons (ps_expr (pe_bm PySem.F.plainAttrs_list PySem.F.slot_list_append PySem.F.type_list_append mt_append (pe_methH0 (pv 5) Z.cf.cl (has_Deeds_counts Z) (hr.mono (by decide)) pass0) (pa_cons pe_int pa_nil))) (pss_one (ps_ret (pe_and (pe_callH (has__law_is_forced Z) (hr.mono (by decide)) (by rfl) pass0 (pa_cons (pv 9) (pa_cons (pe_ix ix_seq (pv 10) (pv 11) (fun _ _ => rfl)) pa_nil))) (pe_one (pe_callH (has__law_is_forced Z) (hr.mono (by decide)) (by rfl) pass0 (pa_cons (pv 4) (pa_cons (pe_ix ix_seq (pv 10) (pe_op op_subI pe_int (pv 11)) (fun _ _ => rfl)) pa_nil))))))))))))))))))))))))) (ok_law Z.cf)
end Lw
open PySem PySem.W PyProof.Rows
set_option maxRecDepth 100000 in
set_option maxHeartbeats 0 in
theorem PySem.Challenge.cw_samemeant_k01_deeds_in_force_holds : PySem.Challenge.rw_samemeant_k01_deeds_in_force.Holds := by
  w_on; o_law; k_head; (case hw => w_witness2)
  k_fill
  refine LamX.walk_ofTs (l := PySem.Challenge.rw_samemeant_k01_deeds_in_force) (n := 63) (k := 11) (x := "script") (CX := fun _ => L2.CX0) rfl (by decide) rfl ⟨rfl, by decide, by decide⟩ (fun w h Y => PySem.W.km_in_of Y) ?F (fun _ _ _ _ _ h => h)
  case F =>
    intro w mg fa h Y KX G hmg
    refine' Lw.all_mk KX G hmg ?gC_Deeds ?pg_Deeds ?hd_Deeds ?po_Deeds ?sa_Deeds ?mk_Deeds ?kc_Deeds ?n0_Deeds ?a0 ?l0 ?c0 ?k0 ?a1 ?i1 ?l1 ?c1 ?k1 ?a2 ?i2 ?l2 ?c2 ?k2 ?a3 ?i3 ?l3 ?c3 ?k3 ?a4 ?i4 ?l4 ?c4 ?k4 ?a5 ?i5 ?l5 ?c5 ?k5 ?a6 ?i6 ?l6 ?c6 ?k6 ?a7 ?i7 ?l7 ?c7 ?k7 ?a8 ?i8 ?l8 ?c8 ?k8 ?u8 ?v8 ?h8 ?n8 ?t8 ?a9 ?l9 ?c9 ?k9 ?a10 ?l10 ?c10 ?k10 ?a11 ?l11 ?c11 ?k11 ?a12 ?l12 ?c12 ?k12 ?a13 ?l13 ?c13 ?k13 ?a14 ?l14 ?c14 ?k14 ?a15 ?l15 ?c15 ?k15 ?a16 ?l16 ?c16 ?k16 ?a17 ?l17 ?c17 ?k17 ?u17 ?v17 ?h17 ?n17 ?t17 ?a18 ?l18 ?c18 ?k18 ?a19 ?l19 ?c19 ?k19 ?a20 ?l20 ?c20 ?k20 ?a21 ?l21 ?c21 ?k21 ?a22 ?l22 ?c22 ?k22 ?a23 ?l23 ?c23 ?k23 ?a24 ?l24 ?c24 ?k24 ?a25 ?l25 ?c25 ?k25 ?a26 ?l26 ?c26 ?k26 ?a27 ?l27 ?c27 ?k27 ?cc_REPLICAS ?z_bool ?z_each ?z_enumerate ?z_int ?z_isinstance ?z_len ?z_list ?z_max ?z_min ?z_range ?z_sorted ?z_str ?z_tuple ?z_zip ?ne0_1
    (case gC_Deeds => k_is)
    (case pg_Deeds => k_is)
    (case hd_Deeds => k_is)
    (case po_Deeds => k_is)
    (case sa_Deeds => k_is)
    (case mk_Deeds => k_is)
    (case kc_Deeds => k_is)
    (case n0_Deeds => k_is)
    (case a0 => k_is)
    (case l0 => k_is)
    (case c0 => k_is)
    (case k0 => k_is)
    (case a1 => k_is)
    (case i1 => k_is)
    (case l1 => k_is)
    (case c1 => k_is)
    (case k1 => k_is)
    (case a2 => k_is)
    (case i2 => k_is)
    (case l2 => k_is)
    (case c2 => k_is)
    (case k2 => k_is)
    (case a3 => k_is)
    (case i3 => k_is)
    (case l3 => k_is)
    (case c3 => k_is)
    (case k3 => k_is)
    (case a4 => k_is)
    (case i4 => k_is)
    (case l4 => k_is)
    (case c4 => k_is)
    (case k4 => k_is)
    (case a5 => k_is)
    (case i5 => k_is)
    (case l5 => k_is)
    (case c5 => k_is)
    (case k5 => k_is)
    (case a6 => k_is)
    (case i6 => k_is)
    (case l6 => k_is)
    (case c6 => k_is)
    (case k6 => k_is)
    (case a7 => k_is)
    (case i7 => k_is)
    (case l7 => k_is)
    (case c7 => k_is)
    (case k7 => k_is)
    (case a8 => k_is)
    (case i8 => k_is)
    (case l8 => k_is)
    (case c8 => k_is)
    (case k8 => k_is)
    (case u8 => k_is)
    (case v8 => exact rfl)
    (case h8 => kernel_rfl)
    (case n8 => kernel_rfl)
    (case t8 => exact PySem.W.km_tabs_of Y _ (by first | k_mem | simp))
    (case a9 => k_is)
    (case l9 => k_is)
    (case c9 => k_is)
    (case k9 => k_is)
    (case a10 => k_is)
    (case l10 => k_is)
    (case c10 => k_is)
    (case k10 => k_is)
    (case a11 => k_is)
    (case l11 => k_is)
    (case c11 => k_is)
    (case k11 => k_is)
    (case a12 => k_is)
    (case l12 => k_is)
    (case c12 => k_is)
    (case k12 => k_is)
    (case a13 => k_is)
    (case l13 => k_is)
    (case c13 => k_is)
    (case k13 => k_is)
    (case a14 => k_is)
    (case l14 => k_is)
    (case c14 => k_is)
    (case k14 => k_is)
    (case a15 => k_is)
    (case l15 => k_is)
    (case c15 => k_is)
    (case k15 => k_is)
    (case a16 => k_is)
    (case l16 => k_is)
    (case c16 => k_is)
    (case k16 => k_is)
    (case a17 => k_is)
    (case l17 => k_is)
    (case c17 => k_is)
    (case k17 => k_is)
    (case u17 => k_is)
    (case v17 => exact rfl)
    (case h17 => kernel_rfl)
    (case n17 => kernel_rfl)
    (case t17 => exact PySem.W.km_tabs_of Y _ (by first | k_mem | simp))
    (case a18 => k_is)
    (case l18 => k_is)
    (case c18 => k_is)
    (case k18 => k_is)
    (case a19 => k_is)
    (case l19 => k_is)
    (case c19 => k_is)
    (case k19 => k_is)
    (case a20 => k_is)
    (case l20 => k_is)
    (case c20 => k_is)
    (case k20 => k_is)
    (case a21 => k_is)
    (case l21 => k_is)
    (case c21 => k_is)
    (case k21 => k_is)
    (case a22 => k_is)
    (case l22 => k_is)
    (case c22 => k_is)
    (case k22 => k_is)
    (case a23 => k_is)
    (case l23 => k_is)
    (case c23 => k_is)
    (case k23 => k_is)
    (case a24 => k_is)
    (case l24 => k_is)
    (case c24 => k_is)
    (case k24 => k_is)
    (case a25 => k_is)
    (case l25 => k_is)
    (case c25 => k_is)
    (case k25 => k_is)
    (case a26 => k_is)
    (case l26 => k_is)
    (case c26 => k_is)
    (case k26 => k_is)
    (case a27 => k_is)
    (case l27 => k_is)
    (case c27 => k_is)
    (case k27 => k_is)
    (case cc_REPLICAS => k_is)
    (case z_bool => k_is)
    (case z_each => k_is)
    (case z_enumerate => k_is)
    (case z_int => k_is)
    (case z_isinstance => k_is)
    (case z_len => k_is)
    (case z_list => k_is)
    (case z_max => k_is)
    (case z_min => k_is)
    (case z_range => k_is)
    (case z_sorted => k_is)
    (case z_str => k_is)
    (case z_tuple => k_is)
    (case z_zip => k_is)
    (case ne0_1 => decide)
