import PyProof.Rows.All
import Wide.All
import OpenK.AllK
import Wide.FinOn
import Open.SpecLaws
import KE.OsGo
import HandS.ForSpec
import HandS.Evl
import HandS.Comp
import HandS.Dict
import HandS.Iter
import HandS.Walk
import HandS.Zip
import HandS.Conv
import HandS.TupAny
import HandS.Deep
import HandS.SortInts
import HandS.Strs
import PySem.Challenge.RW_turngroups_s01_answers
import HandS.TupMul
import HandS.SetFor
import HandS.Style
import KE.KTupSum
import KE.SortData
import KE.KDictSum
import KE.KeyNested
import PyVamete
import KE.KDictDisplayH
set_option Elab.async false
set_option linter.all false
set_option maxRecDepth 100000
set_option maxHeartbeats 2000000
/-! ### 1. weakest readings -/
namespace TG
open PySem PySem.Spec PyProof.Rows L2
open Evl (Ex ex_l ex_t fresh_back)

section
variable {X : Cx} {e : Expr} {es : List Expr} {st : Stmt} {sts : List Stmt}
def tE (X : Cx) (e : Expr) : TE := fun σ H Q => ∀ (pins : List (Addr × Obj)) (s : Shared), Inv X pins σ H s → wpAny (model X.prog X.w) X.A (eval e X.env) (EP X pins σ Q) X.xe s
def tT (X : Cx) (e : Expr) : TT := fun σ H Q => ∀ (pins : List (Addr × Obj)) (s : Shared), Inv X pins σ H s → wpAny (model X.prog X.w) X.A (isTrue e X.env (eval e X.env)) (TP X pins σ Q) X.xe s
def tA (X : Cx) (es : List Expr) : TA := fun σ H Q => ∀ (pos : Pos) (pins : List (Addr × Obj)) (s : Shared), Inv X pins σ H s → wpAny (model X.prog X.w) X.A (spliced (backTo pos (starEach es X.env))) (AP X pins σ Q) X.xe s
def tS (X : Cx) (st : Stmt) : TS := fun D σ H => ∀ (pins : List (Addr × Obj)) (s : Shared), Inv X pins σ H s → wpAny (model X.prog X.w) X.A (exec st X.env) (SP X pins D) X.xe s
def tSs (X : Cx) (sts : List Stmt) : TS := fun D σ H => ∀ (pins : List (Addr × Obj)) (s : Shared), Inv X pins σ H s → wpAny (model X.prog X.w) X.A (execs sts X.env) (SP X pins D) X.xe s
theorem pE (e : Expr) : PE X e (tE X e) := ⟨fun pins s _ _ _ I h => h pins s I⟩
theorem pT (e : Expr) : PT X e (tT X e) := ⟨fun pins s _ _ _ I h => h pins s I⟩
theorem pA (es : List Expr) : PA X es (tA X es) := ⟨fun pos pins s _ _ _ I h => h pos pins s I⟩
theorem pS (st : Stmt) : PS X st (tS X st) := ⟨fun pins s _ _ _ I h => h pins s I⟩
theorem pSs (sts : List Stmt) : PSs X sts (tSs X sts) := ⟨fun pins s _ _ _ I h => h pins s I⟩
variable {σ : L2.St} {H : Hp}
theorem w_E {t : TE} {Q : VK} (h : PE X e t) (q : t σ H Q) : tE X e σ H Q := fun pins s I => h.run pins s σ H Q I q
theorem w_T {t : TT} {Q : Bool → Hp → Prop} (h : PT X e t) (q : t σ H Q) : tT X e σ H Q := fun pins s I => h.run pins s σ H Q I q
theorem w_A {t : TA} {Q : List V → Hp → Prop} (h : PA X es t) (q : t σ H Q) : tA X es σ H Q := fun pos pins s I => h.run pos pins s σ H Q I q
theorem w_S {t : TS} {D : Ends} (h : PS X st t) (q : t D σ H) : tS X st D σ H := fun pins s I => h.run pins s σ H D I q
theorem w_Ss {t : TS} {D : Ends} (h : PSs X sts t) (q : t D σ H) : tSs X sts D σ H := fun pins s I => h.run pins s σ H D I q
end

/-! ### 2. what a value is -/
abbrev T := Hp → V → Prop
/-- what never changes: a tuple, what is frozen -/
def Stays : HO → Prop
  | .tup _ => True
  | .frz _ _ => True
  | _ => False
def Tx (H H' : Hp) : Prop := ∀ a o, H a = some o → Stays o → H' a = some o
theorem Tx.refl (H : Hp) : Tx H H := fun _ _ h _ => h
theorem Tx.trans {H H1 H2 : Hp} (a : Tx H H1) (b : Tx H1 H2) : Tx H H2 := fun x o h s => b x o (a x o h s) s
theorem tx_of {H H' : Hp} (e : Ex H H') : Tx H H' := fun a o h _ => e a _ h
theorem tx_upd {H : Hp} {a : Addr} {o : HO} (h : ∀ u, H a = some u → ¬ Stays u) : Tx H (upd H a o) := fun b u e s => by
  by_cases hb : b = a
  · subst hb; exact absurd s (h u e)
  · rw [upd_ne hb]; exact e
/-- a tuple (0), a frozen one that has no dict of its own (2), either (others) -/
def Tu (f : Nat) (H : Hp) (a : Addr) (xs : List V) : Prop := (f ≠ 2 ∧ H a = some (.tup xs)) ∨ (f ≠ 0 ∧ ∃ o : Obj, o.dict = none ∧ H a = some (.frz o (.tup xs)))
theorem Tu.of {f : Nat} {H : Hp} {a : Addr} {xs : List V} (h : H a = some (.tup xs)) (z : f ≠ 2 := by decide) : Tu f H a xs := .inl ⟨z, h⟩
theorem Tu.strict {H : Hp} {a : Addr} {xs : List V} (h : Tu 0 H a xs) : H a = some (.tup xs) := h.elim (·.2) fun q => absurd rfl q.1
theorem Tu.froz {H : Hp} {a : Addr} {xs : List V} (h : Tu 2 H a xs) : ∃ o : Obj, o.dict = none ∧ H a = some (.frz o (.tup xs)) := h.elim (fun q => absurd rfl q.1) (·.2)
theorem Tu.sq {K : PySem.W.Frag} {f : Nat} {H : Hp} {a : Addr} {xs : List V} (h : Tu f H a xs) : SqT K H a xs := h.elim (fun q => .inl (.inl q.2)) fun ⟨_, o, _, q⟩ => .inl (.inr ⟨o, q⟩)
theorem Tu.lift {f : Nat} {H : Hp} {a : Addr} {xs : List V} (h : Tu f H a xs) : Tu 1 H a xs := h.elim (fun q => .inl ⟨by decide, q.2⟩) fun q => .inr ⟨by decide, q.2⟩
theorem Tu.ex {f : Nat} {H H' : Hp} {a : Addr} {xs : List V} (h : Tu f H a xs) (e : Ex H H') : Tu f H' a xs := h.elim (fun q => .inl ⟨q.1, e _ _ q.2⟩) fun ⟨z, o, d, q⟩ => .inr ⟨z, o, d, e _ _ q⟩
theorem Tu.tx {f : Nat} {H H' : Hp} {a : Addr} {xs : List V} (h : Tu f H a xs) (e : Tx H H') : Tu f H' a xs := h.elim (fun q => .inl ⟨q.1, e _ _ q.2 trivial⟩) fun ⟨z, o, d, q⟩ => .inr ⟨z, o, d, e _ _ q trivial⟩
mutual
inductive IsD (f : Nat) (H : Hp) : PyData → V → Prop
  | non : IsD f H .none .non
  | bl (b : Bool) : IsD f H (.bool b) (.bl b)
  | int (i : Int) : IsD f H (.int i) (.int i)
  | lst {a : Addr} {xs : List V} {ds : List PyData} : H a = some (.lst xs) → IsAll f H ds xs → IsD f H (.list ds) (.ref a)
  | tup {a : Addr} {xs : List V} {ds : List PyData} : Tu f H a xs → IsAll f H ds xs → IsD f H (.tuple ds) (.ref a)
inductive IsAll (f : Nat) (H : Hp) : List PyData → List V → Prop
  | nil : IsAll f H [] []
  | cons {v : V} {vs : List V} {d : PyData} {ds : List PyData} : IsD f H d v → IsAll f H ds vs → IsAll f H (d :: ds) (v :: vs)
end
abbrev Isf (f : Nat) (d : PyData) : T := fun H v => IsD f H d v
abbrev Is (d : PyData) : T := Isf 0 d
variable {f g : Nat}
mutual
/-- no list within -/
def imm : PyData → Bool
  | .none => true
  | .bool _ => true
  | .int _ => true
  | .tuple xs => imms xs
  | _ => false
def imms : List PyData → Bool
  | [] => true
  | x :: r => imm x && imms r
end
mutual
theorem IsD.ex {H H' : Hp} (e : Ex H H') : ∀ (d : PyData) (v : V), IsD f H d v → IsD f H' d v
  | _, _, .non => .non
  | _, _, .bl b => .bl b
  | _, _, .int i => .int i
  | .list ds, _, .lst h r => .lst (e _ _ h) (IsAll.ex e ds _ r)
  | .tuple ds, _, .tup h r => .tup (h.ex e) (IsAll.ex e ds _ r)
theorem IsAll.ex {H H' : Hp} (e : Ex H H') : ∀ (ds : List PyData) (vs : List V), IsAll f H ds vs → IsAll f H' ds vs
  | _, _, .nil => .nil
  | d :: ds, _, .cons h r => .cons (IsD.ex e d _ h) (IsAll.ex e ds _ r)
end
mutual
theorem IsD.tx {H H' : Hp} (e : Tx H H') : ∀ (d : PyData) (v : V), imm d = true → IsD f H d v → IsD f H' d v
  | _, _, _, .non => .non
  | _, _, _, .bl b => .bl b
  | _, _, _, .int i => .int i
  | .list ds, _, z, .lst h r => nomatch z
  | .tuple ds, _, z, .tup h r => .tup (h.tx e) (IsAll.tx e ds _ z r)
theorem IsAll.tx {H H' : Hp} (e : Tx H H') : ∀ (ds : List PyData) (vs : List V), imms ds = true → IsAll f H ds vs → IsAll f H' ds vs
  | _, _, _, .nil => .nil
  | d :: ds, _, z, .cons h r => .cons (IsD.tx e d _ (Bool.and_eq_true_iff.mp z).1 h) (IsAll.tx e ds _ (Bool.and_eq_true_iff.mp z).2 r)
end
theorem imms_map {α : Type} {f : α → PyData} (h : ∀ a, imm (f a) = true) : ∀ l : List α, imms (l.map f) = true
  | [] => rfl
  | x :: r => by
    show (imm (f x) && imms (r.map f)) = true
    rw [h x, imms_map h r]; rfl
mutual
theorem IsD.dp {K : PySem.W.Frag} {H : Hp} : ∀ (d : PyData) (v : V), IsD f H d v → Dp K H v d
  | _, _, .non => .non
  | _, _, .bl b => .bl b
  | _, _, .int i => .int i
  | .list ds, _, .lst h r => .lst (SqL.of h) (IsAll.dp ds _ r)
  | .tuple ds, _, .tup h r => .tup h.sq (IsAll.dp ds _ r)
theorem IsAll.dp {K : PySem.W.Frag} {H : Hp} : ∀ (ds : List PyData) (vs : List V), IsAll f H ds vs → DpAll K H vs ds
  | _, _, .nil => .nil
  | d :: ds, _, .cons h r => .cons (IsD.dp d _ h) (IsAll.dp ds _ r)
end
theorem IsAll.length {H : Hp} : ∀ {ds : List PyData} {vs : List V}, IsAll f H ds vs → vs.length = ds.length
  | _, _, .nil => rfl
  | _, _, .cons _ r => congrArg (· + 1) r.length
theorem IsAll.get {H : Hp} : ∀ {ds : List PyData} {vs : List V} {i : Nat} {d : PyData}, IsAll f H ds vs → ds[i]? = some d → ∃ v, vs[i]? = some v ∧ IsD f H d v
  | _, _, _, _, .nil, e => by simp at e
  | _, _, 0, _, .cons h _, e => by simp at e; subst e; exact ⟨_, rfl, h⟩
  | _, _, i + 1, d, .cons _ r, e => by
    obtain ⟨v, h1, h2⟩ := IsAll.get (i := i) (d := d) r (by simpa using e)
    exact ⟨v, by simpa using h1, h2⟩
theorem IsAll.app {H : Hp} : ∀ {ds es : List PyData} {vs ws : List V}, IsAll f H ds vs → IsAll f H es ws → IsAll f H (ds ++ es) (vs ++ ws)
  | _, _, _, _, .nil, s => s
  | _, _, _, _, .cons r t, s => .cons r (IsAll.app t s)
theorem IsAll.of_get {H : Hp} : ∀ {ds : List PyData} {vs : List V}, vs.length = ds.length → (∀ (i : Nat) (d : PyData) (v : V), ds[i]? = some d → vs[i]? = some v → IsD f H d v) → IsAll f H ds vs
  | [], [], _, _ => .nil
  | d :: ds, v :: vs, hl, h => .cons (h 0 d v rfl rfl) (IsAll.of_get (by simpa using hl) fun i d' v' h1 h2 => h (i + 1) d' v' (by simpa using h1) (by simpa using h2))
  | [], _ :: _, hl, _ => by simp at hl
  | _ :: _, [], hl, _ => by simp at hl
theorem IsAll.take {H : Hp} : ∀ {ds : List PyData} {vs : List V} (n : Nat), IsAll f H ds vs → IsAll f H (ds.take n) (vs.take n)
  | _, _, 0, _ => .nil
  | _, _, _ + 1, .nil => .nil
  | _, _, n + 1, .cons r t => .cons r (IsAll.take n t)
theorem IsAll.drop {H : Hp} : ∀ {ds : List PyData} {vs : List V} (n : Nat), IsAll f H ds vs → IsAll f H (ds.drop n) (vs.drop n)
  | _, _, 0, r => r
  | _, _, _ + 1, .nil => .nil
  | _, _, n + 1, .cons _ t => IsAll.drop n t
theorem IsD.ex' {H H' : Hp} {d : PyData} {v : V} (h : IsD f H d v) (e : Ex H H') : IsD f H' d v := IsD.ex e d v h
theorem isAll_ints {H : Hp} : ∀ l : List Int, IsAll f H (l.map PyData.int) (l.map V.int)
  | [] => .nil
  | i :: r => .cons (.int i) (isAll_ints r)
theorem ints_of {H : Hp} : ∀ {l : List Int} {vs : List V}, IsAll f H (l.map PyData.int) vs → vs = l.map V.int
  | [], _, .nil => rfl
  | i :: r, _, .cons (.int _) t => congrArg (V.int i :: ·) (ints_of t)
theorem isAll_bools {H : Hp} : ∀ l : List Bool, IsAll f H (l.map PyData.bool) (l.map V.bl)
  | [] => .nil
  | i :: r => .cons (.bl i) (isAll_bools r)
theorem bools_of {H : Hp} : ∀ {l : List Bool} {vs : List V}, IsAll f H (l.map PyData.bool) vs → vs = l.map V.bl
  | [], _, .nil => rfl
  | i :: r, _, .cons (.bl _) t => congrArg (V.bl i :: ·) (bools_of t)
mutual
theorem IsD.lift {H : Hp} : ∀ (d : PyData) (v : V), IsD f H d v → IsD 1 H d v
  | _, _, .non => .non
  | _, _, .bl b => .bl b
  | _, _, .int i => .int i
  | .list ds, _, .lst h r => .lst h (IsAll.lift ds _ r)
  | .tuple ds, _, .tup h r => .tup h.lift (IsAll.lift ds _ r)
theorem IsAll.lift {H : Hp} : ∀ (ds : List PyData) (vs : List V), IsAll f H ds vs → IsAll 1 H ds vs
  | _, _, .nil => .nil
  | d :: ds, _, .cons h r => .cons (IsD.lift d _ h) (IsAll.lift ds _ r)
end
theorem IsD.up {H : Hp} {d : PyData} {v : V} (h : IsD f H d v) : IsD 1 H d v := IsD.lift d v h
theorem is_int {H : Hp} {i : Int} {v : V} (h : Isf f (.int i) H v) : v = .int i := by cases h; rfl
theorem is_bool {H : Hp} {i : Bool} {v : V} (h : Isf f (.bool i) H v) : v = .bl i := by cases h; rfl
theorem is_none {H : Hp} {v : V} (h : Isf f .none H v) : v = .non := by cases h; rfl
theorem is_list {H : Hp} {ds : List PyData} {v : V} (h : Isf f (.list ds) H v) : ∃ a xs, v = .ref a ∧ H a = some (.lst xs) ∧ IsAll f H ds xs := by cases h with | lst h r => exact ⟨_, _, rfl, h, r⟩
theorem is_tuple {H : Hp} {ds : List PyData} {v : V} (h : Isf f (.tuple ds) H v) : ∃ a xs, v = .ref a ∧ Tu f H a xs ∧ IsAll f H ds xs := by cases h with | tup h r => exact ⟨_, _, rfl, h, r⟩

def dRow (l : List Int) : PyData := .tuple (l.map .int)
def dInts (l : List Int) : PyData := .list (l.map .int)
def dTurn (t : List Int × List Int) : PyData := .tuple [dRow t.1, dRow t.2]
def dRows (l : List (List Int)) : PyData := .list (l.map dRow)
def dTurns (l : List (List Int × List Int)) : PyData := .list (l.map dTurn)
theorem imm_row (l : List Int) : imm (dRow l) = true := imms_map (fun _ => rfl) l
theorem imm_turn (t : List Int × List Int) : imm (dTurn t) = true := by
  show (imm (dRow t.1) && (imm (dRow t.2) && true)) = true
  rw [imm_row, imm_row]; rfl
theorem is_row {H : Hp} {l : List Int} {v : V} (h : Is (dRow l) H v) : ∃ a, v = .ref a ∧ H a = some (.tup (l.map V.int)) := by
  obtain ⟨a, xs, e, h, r⟩ := is_tuple h
  exact ⟨a, e, by rw [h.strict, ints_of r]⟩
theorem is_rowF {H : Hp} {l : List Int} {v : V} (h : Isf f (dRow l) H v) : ∃ a, v = .ref a ∧ Tu f H a (l.map V.int) := by
  obtain ⟨a, xs, e, h, r⟩ := is_tuple h
  exact ⟨a, e, by rw [← ints_of r]; exact h⟩
theorem isD_int {H : Hp} {i : Int} {v : V} (h : IsD f H (.int i) v) : IsD g H (.int i) v := by
  cases h
  exact .int i
theorem row_is {H : Hp} {l : List Int} {a : Addr} (h : H a = some (.tup (l.map V.int))) : Is (dRow l) H (.ref a) := .tup (.of h) (isAll_ints l)
theorem is_ints {H : Hp} {l : List Int} {v : V} (h : Is (dInts l) H v) : ∃ a, v = .ref a ∧ H a = some (.lst (l.map V.int)) := by
  obtain ⟨a, xs, e, h, r⟩ := is_list h
  exact ⟨a, e, by rw [h, ints_of r]⟩
theorem ints_is {H : Hp} {l : List Int} {a : Addr} (h : H a = some (.lst (l.map V.int))) : Is (dInts l) H (.ref a) := .lst h (isAll_ints l)
/-! ### 3. kinds of values that stay -/
class Sta (P : T) : Prop where
  mono : ∀ {H H' : Hp} {v : V}, Ex H H' → P H v → P H' v
instance (d : PyData) : Sta (Isf f d) := ⟨fun e h => IsD.ex e d _ h⟩

/-! ### 4. what an expression evaluates to -/
def EvE (X : Cx) (e : Expr) (σ : L2.St) (H : Hp) (P : T) : Prop := ∀ H1, Ex H H1 → ∀ Q : VK, (∀ v H2, Ex H1 H2 → P H2 v → Q v H2) → tE X e σ H1 Q
def EvT (X : Cx) (e : Expr) (σ : L2.St) (H : Hp) (b : Bool) : Prop := ∀ H1, Ex H H1 → ∀ Q : Bool → Hp → Prop, (∀ H2, Ex H1 H2 → Q b H2) → tT X e σ H1 Q
inductive AllP (H : Hp) : List T → List V → Prop
  | nil : AllP H [] []
  | cons {P : T} {Ps : List T} {v : V} {vs : List V} : P H v → AllP H Ps vs → AllP H (P :: Ps) (v :: vs)
def EvA (X : Cx) (es : List Expr) (σ : L2.St) (H : Hp) (Ps : List T) : Prop := ∀ H1, Ex H H1 → ∀ Q : List V → Hp → Prop, (∀ vs H2, Ex H1 H2 → AllP H2 Ps vs → Q vs H2) → tA X es σ H1 Q
section
variable {X : Cx} {σ : L2.St} {H H' : Hp} {a b c e : Expr} {es : List Expr} {P P' P1 P2 : T} {pos : Pos} {i j : Int}
theorem EvE.mono (e1 : Ex H H') (h : EvE X e σ H P) : EvE X e σ H' P := fun H1 a Q q => h H1 (e1.trans a) Q q
theorem EvE.imp (h : EvE X e σ H P) (k : ∀ H' v, Ex H H' → P H' v → P' H' v) : EvE X e σ H P' := fun H1 e1 Q q => h H1 e1 Q fun v H2 e2 p => q v H2 e2 (k H2 v (e1.trans e2) p)
theorem ev_var {i : Nat} {x : Str} {v : V} [s : Sta P] (h : σ[i]? = some (some v)) (p : P H v) (hN : X.N[i]? = some x := by rfl) (hv : Vis X.env.scope x := by first | exact Or.inl rfl | exact Or.inr (Or.inl rfl) | exact Or.inr (Or.inr rfl)) (hd : (x == ("__debug__" : Str)) = false := by decide)
    (hcd : (x == ("__classdict__" : Str)) = false := by decide) : EvE X (.Name x pos) σ H P := fun H1 e1 Q q => w_E (pe_var hN hv hd hcd) ⟨v, h, q v H1 (Ex.refl H1) (s.mono e1 p)⟩
theorem ev_int {k : Int} {n : Nat} : EvE X (.Constant (.int k) n pos) σ H (Is (.int k)) := fun H1 _ Q q => w_E pe_int (q _ H1 (Ex.refl H1) (.int k))
theorem ev_bl {k : Bool} {n : Nat} : EvE X (.Constant (.bool k) n pos) σ H (Is (.bool k)) := fun H1 _ Q q => w_E pe_bl (q _ H1 (Ex.refl H1) (.bl k))
theorem ev_non {n : Nat} : EvE X (.Constant .none n pos) σ H (Is .none) := fun H1 _ Q q => w_E pe_non (q _ H1 (Ex.refl H1) .non)
theorem ev_glob {x : Str} {k : Int} (h : ∃ t, X.mg x = some (.int k t)) (hg : Gl X x := by rfl) (hd : (x == ("__debug__" : Str)) = false := by decide) : EvE X (.Name x pos) σ H (Is (.int k)) := fun H1 _ Q q => by
  obtain ⟨t, h⟩ := h
  exact w_E (pe_glob hg h (v := .int k) ⟨t, rfl⟩ hd) (q _ H1 (Ex.refl H1) (.int k))
/-- two operands -/
theorem ev_op {op : Operator} {r : R2} (ho : OpR X (binaryOp op) r) [s1 : Sta P1] (ha : EvE X a σ H P1) (hb : EvE X b σ H P2)
    (hr : ∀ x y H1, Ex H H1 → P1 H1 x → P2 H1 y → ∀ Q : VK, (∀ v H2, Ex H1 H2 → P H2 v → Q v H2) → r x y H1 Q) : EvE X (.BinOp a op b pos) σ H P := fun H1 e1 Q q =>
  w_E (pe_op ho (pE a) (pE b)) (ha H1 e1 _ fun x H2 e2 p2 => hb H2 (e1.trans e2) _ fun y H3 e3 p3 => hr x y H3 ((e1.trans e2).trans e3) (s1.mono e3 p2) p3 Q fun v H4 e4 p4 => q v H4 ((e2.trans e3).trans e4) p4)
theorem ev_add (ha : EvE X a σ H (Is (.int i))) (hb : EvE X b σ H (Is (.int j))) : EvE X (.BinOp a .Add b pos) σ H (Is (.int (i + j))) :=
  ev_op op_add ha hb fun x y H1 _ p1 p2 Q q => ⟨i, j, is_int p1, is_int p2, q _ H1 (Ex.refl H1) (.int _)⟩
theorem ev_sub (ha : EvE X a σ H (Is (.int i))) (hb : EvE X b σ H (Is (.int j))) : EvE X (.BinOp a .Sub b pos) σ H (Is (.int (i - j))) :=
  ev_op op_sub ha hb fun x y H1 _ p1 p2 Q q => ⟨i, j, is_int p1, is_int p2, q _ H1 (Ex.refl H1) (.int _)⟩
theorem ev_mul (ha : EvE X a σ H (Is (.int i))) (hb : EvE X b σ H (Is (.int j))) (hm : CMul i j) : EvE X (.BinOp a .Mult b pos) σ H (Is (.int (i * j))) :=
  ev_op op_mul ha hb fun x y H1 _ p1 p2 Q q => ⟨i, j, is_int p1, is_int p2, hm, q _ H1 (Ex.refl H1) (.int _)⟩
theorem ev_mod (ha : EvE X a σ H (Is (.int i))) (hb : EvE X b σ H (Is (.int j))) (hm : 0 < j) : EvE X (.BinOp a .Mod b pos) σ H (Is (.int (i % j))) :=
  ev_op op_mod ha hb fun x y H1 _ p1 p2 Q q => ⟨i, j, is_int p1, is_int p2, hm, q _ H1 (Ex.refl H1) (.int _)⟩
/-- a comparison: as a value, as a test -/
theorem ev_cmp {op : CmpOp} {r : R2} {k : Bool} (ho : OpR X (compareOp op) r) [s1 : Sta P1] (ha : EvE X a σ H P1) (hb : EvE X b σ H P2)
    (hr : ∀ x y H1, Ex H H1 → P1 H1 x → P2 H1 y → ∀ Q : VK, (∀ H2, Ex H1 H2 → Q (.bl k) H2) → r x y H1 Q) (hm : behindInMarks op b = false) : EvE X (.Compare a [op] [b] pos) σ H (Is (.bool k)) := fun H1 e1 Q q =>
  w_E (pe_cmpR ho (pE a) (pE b) hm) (ha H1 e1 _ fun x H2 e2 p2 => hb H2 (e1.trans e2) _ fun y H3 e3 p3 => hr x y H3 ((e1.trans e2).trans e3) (s1.mono e3 p2) p3 Q fun H4 e4 => q _ H4 ((e2.trans e3).trans e4) (.bl k))
theorem et_cmp {op : CmpOp} {r : R2} {k : Bool} (ho : OpR X (compareOp op) r) [s1 : Sta P1] (ha : EvE X a σ H P1) (hb : EvE X b σ H P2)
    (hr : ∀ x y H1, Ex H H1 → P1 H1 x → P2 H1 y → ∀ Q : VK, (∀ H2, Ex H1 H2 → Q (.bl k) H2) → r x y H1 Q) (hm : behindInMarks op b = false) : EvT X (.Compare a [op] [b] pos) σ H k := fun H1 e1 Q q =>
  w_T (pt_cmpR ho (pE a) (pE b) hm) (ha H1 e1 _ fun x H2 e2 p2 => hb H2 (e1.trans e2) _ fun y H3 e3 p3 => hr x y H3 ((e1.trans e2).trans e3) (s1.mono e3 p2) p3 _ fun H4 e4 => ⟨k, rfl, q H4 ((e2.trans e3).trans e4)⟩)
end
end TG
set_option Elab.async false
set_option linter.all false
set_option maxRecDepth 100000
set_option maxHeartbeats 2000000
namespace TG
open PySem PySem.Spec PyProof.Rows L2
open Evl (Ex ex_l ex_t fresh_back)
section
variable {f g : Nat} {X : Cx} {σ : L2.St} {H H' : Hp} {a b c e : Expr} {es : List Expr} {P P' P1 P2 R : T} {pos : Pos} {i j : Int}
theorem vr (n : Nat) {x : Str} {v : V} {d : PyData} (p : IsD f H d v) (h : σ[n]? = some (some v) := by rfl) (hN : X.N[n]? = some x := by rfl) (hv : Vis X.env.scope x := by first | exact Or.inl rfl | exact Or.inr (Or.inl rfl) | exact Or.inr (Or.inr rfl)) (hd : (x == ("__debug__" : Str)) = false := by decide)
    (hcd : (x == ("__classdict__" : Str)) = false := by decide) : EvE X (.Name x pos) σ H (Isf f d) := ev_var h p hN hv hd hcd
theorem vrP (n : Nat) (P : T) [Sta P] {x : Str} {v : V} (p : P H v) (h : σ[n]? = some (some v) := by rfl) (hN : X.N[n]? = some x := by rfl) (hv : Vis X.env.scope x := by first | exact Or.inl rfl | exact Or.inr (Or.inl rfl) | exact Or.inr (Or.inr rfl)) (hd : (x == ("__debug__" : Str)) = false := by decide)
    (hcd : (x == ("__classdict__" : Str)) = false := by decide) : EvE X (.Name x pos) σ H P := ev_var h p hN hv hd hcd
/-! ### comparisons of ints -/
theorem ev_lt (ha : EvE X a σ H (Is (.int i))) (hb : EvE X b σ H (Is (.int j))) : EvE X (.Compare a [.Lt] [b] pos) σ H (Is (.bool (decide (i < j)))) :=
  ev_cmp op_lt ha hb (fun x y H1 _ p1 p2 Q q => ⟨i, j, is_int p1, is_int p2, q H1 (Ex.refl H1)⟩) (nomark _)
theorem ev_le (ha : EvE X a σ H (Is (.int i))) (hb : EvE X b σ H (Is (.int j))) : EvE X (.Compare a [.LtE] [b] pos) σ H (Is (.bool (decide (i ≤ j)))) :=
  ev_cmp op_le ha hb (fun x y H1 _ p1 p2 Q q => ⟨i, j, is_int p1, is_int p2, q H1 (Ex.refl H1)⟩) (nomark _)
theorem ev_gt (ha : EvE X a σ H (Is (.int i))) (hb : EvE X b σ H (Is (.int j))) : EvE X (.Compare a [.Gt] [b] pos) σ H (Is (.bool (decide (j < i)))) :=
  ev_cmp op_gt ha hb (fun x y H1 _ p1 p2 Q q => ⟨i, j, is_int p1, is_int p2, q H1 (Ex.refl H1)⟩) (nomark _)
theorem ev_ge (ha : EvE X a σ H (Is (.int i))) (hb : EvE X b σ H (Is (.int j))) : EvE X (.Compare a [.GtE] [b] pos) σ H (Is (.bool (decide (j ≤ i)))) :=
  ev_cmp op_ge ha hb (fun x y H1 _ p1 p2 Q q => ⟨i, j, is_int p1, is_int p2, q H1 (Ex.refl H1)⟩) (nomark _)
theorem dec_ints {i j : Int} : decide (V.int i = V.int j) = decide (i = j) := by
  by_cases h : i = j
  · subst h; simp
  · have : ¬ V.int i = V.int j := fun e => h (V.int.inj e)
    rw [decide_eq_false h, decide_eq_false this]
theorem ev_eq (ha : EvE X a σ H (Is (.int i))) (hb : EvE X b σ H (Is (.int j))) : EvE X (.Compare a [.Eq] [b] pos) σ H (Is (.bool (decide (i = j)))) :=
  ev_cmp op_eq ha hb (fun x y H1 _ p1 p2 Q q => by
    obtain rfl := is_int p1
    obtain rfl := is_int p2
    refine ⟨rfl, ?_⟩
    rw [dec_ints]
    exact q H1 (Ex.refl H1)) (nomark _)
theorem ev_ne (ha : EvE X a σ H (Is (.int i))) (hb : EvE X b σ H (Is (.int j))) : EvE X (.Compare a [.NotEq] [b] pos) σ H (Is (.bool (!decide (i = j)))) :=
  ev_cmp op_ne ha hb (fun x y H1 _ p1 p2 Q q => by
    obtain rfl := is_int p1
    obtain rfl := is_int p2
    refine ⟨rfl, ?_⟩
    rw [dec_ints]
    exact q H1 (Ex.refl H1)) (nomark _)
theorem et_lt (ha : EvE X a σ H (Is (.int i))) (hb : EvE X b σ H (Is (.int j))) : EvT X (.Compare a [.Lt] [b] pos) σ H (decide (i < j)) :=
  et_cmp op_lt ha hb (fun x y H1 _ p1 p2 Q q => ⟨i, j, is_int p1, is_int p2, q H1 (Ex.refl H1)⟩) (nomark _)
theorem et_le (ha : EvE X a σ H (Is (.int i))) (hb : EvE X b σ H (Is (.int j))) : EvT X (.Compare a [.LtE] [b] pos) σ H (decide (i ≤ j)) :=
  et_cmp op_le ha hb (fun x y H1 _ p1 p2 Q q => ⟨i, j, is_int p1, is_int p2, q H1 (Ex.refl H1)⟩) (nomark _)
theorem et_gt (ha : EvE X a σ H (Is (.int i))) (hb : EvE X b σ H (Is (.int j))) : EvT X (.Compare a [.Gt] [b] pos) σ H (decide (j < i)) :=
  et_cmp op_gt ha hb (fun x y H1 _ p1 p2 Q q => ⟨i, j, is_int p1, is_int p2, q H1 (Ex.refl H1)⟩) (nomark _)
theorem et_ge (ha : EvE X a σ H (Is (.int i))) (hb : EvE X b σ H (Is (.int j))) : EvT X (.Compare a [.GtE] [b] pos) σ H (decide (j ≤ i)) :=
  et_cmp op_ge ha hb (fun x y H1 _ p1 p2 Q q => ⟨i, j, is_int p1, is_int p2, q H1 (Ex.refl H1)⟩) (nomark _)
theorem et_eq (ha : EvE X a σ H (Is (.int i))) (hb : EvE X b σ H (Is (.int j))) : EvT X (.Compare a [.Eq] [b] pos) σ H (decide (i = j)) :=
  et_cmp op_eq ha hb (fun x y H1 _ p1 p2 Q q => by
    obtain rfl := is_int p1
    obtain rfl := is_int p2
    refine ⟨rfl, ?_⟩
    rw [dec_ints]
    exact q H1 (Ex.refl H1)) (nomark _)
theorem et_ne (ha : EvE X a σ H (Is (.int i))) (hb : EvE X b σ H (Is (.int j))) : EvT X (.Compare a [.NotEq] [b] pos) σ H (!decide (i = j)) :=
  et_cmp op_ne ha hb (fun x y H1 _ p1 p2 Q q => by
    obtain rfl := is_int p1
    obtain rfl := is_int p2
    refine ⟨rfl, ?_⟩
    rw [dec_ints]
    exact q H1 (Ex.refl H1)) (nomark _)
/-! ### is None -/
def nonP (d : PyData) : Bool := match d with
  | .none => true
  | _ => false
theorem dec_non {H : Hp} {d : PyData} {v : V} (h : IsD f H d v) : decide (v = .non) = nonP d := by
  cases h <;> rfl
theorem et_isN {d : PyData} {n : Nat} {p2 : Pos} (ha : EvE X a σ H (Isf f d)) : EvT X (.Compare a [.Is] [.Constant .none n p2] pos) σ H (nonP d) := fun H1 e1 Q q =>
  w_T (pt_cmp (pc_isN (pE a))) (ha H1 e1 _ fun v H2 e2 p => by
    show ∃ c, V.bl (decide (v = .non)) = .bl c ∧ Q c H2
    rw [dec_non p]
    exact ⟨_, rfl, q H2 e2⟩)
theorem ev_notN {d : PyData} {n : Nat} {p2 : Pos} (ha : EvE X a σ H (Isf f d)) : EvE X (.Compare a [.IsNot] [.Constant .none n p2] pos) σ H (Is (.bool (!nonP d))) := fun H1 e1 Q q =>
  w_E (pe_cmp (pc_notN (pE a))) (ha H1 e1 _ fun v H2 e2 p => by
    show Q (V.bl (!decide (v = .non))) H2
    rw [dec_non p]
    exact q _ H2 e2 (.bl _))
/-! ### == of data -/
theorem ev_eqD {d1 d2 : PyData} (hu : X.A.units + 64 < cLine) (ha : EvE X a σ H (Isf f d1)) (hb : EvE X b σ H (Isf g d2)) (h1 : SeqAt.shaped d1 = true) (h2 : SeqAt.shaped d2 = true) : EvE X (.Compare a [.Eq] [b] pos) σ H (Is (.bool (PyData.eqv d1 d2))) :=
  ev_cmp (op_eqD hu) ha hb (fun x y H1 _ p1 p2 Q q => ⟨d1, d2, IsD.dp _ _ p1, IsD.dp _ _ p2, h1, h2, q H1 (Ex.refl H1)⟩) (nomark _)
theorem et_neD {d1 d2 : PyData} (hu : X.A.units + 64 < cLine) (ha : EvE X a σ H (Isf f d1)) (hb : EvE X b σ H (Isf g d2)) (h1 : SeqAt.shaped d1 = true) (h2 : SeqAt.shaped d2 = true) : EvT X (.Compare a [.NotEq] [b] pos) σ H (!PyData.eqv d1 d2) :=
  et_cmp (op_neD hu) ha hb (fun x y H1 _ p1 p2 Q q => ⟨d1, d2, IsD.dp _ _ p1, IsD.dp _ _ p2, h1, h2, q H1 (Ex.refl H1)⟩) (nomark _)
/-! ### and, or, not -/
theorem et_val {k : Bool} (h : EvE X e σ H (Is (.bool k))) (he : ∀ whole, isTrue e X.env whole = (do let v ← whole; standAt e.pos; holding [v] (truthy v)) := by intro _; rfl) : EvT X e σ H k := fun H1 e1 Q q =>
  w_T (pt_val (pE e) he) (h H1 e1 _ fun v H2 e2 p => ⟨k, is_bool p, q H2 e2⟩)
theorem et_not {k : Bool} (h : EvT X a σ H k) : EvT X (.UnaryOp .Not a pos) σ H (!k) := fun H1 e1 Q q => w_T (pt_not (pT a)) (h H1 e1 _ fun H2 e2 => q H2 e2)
/-- a test whatever its whole -/
def EvW (X : Cx) (e : Expr) (σ : L2.St) (H : Hp) (k : Bool) : Prop := ∃ t, PW X e t ∧ ∀ H1, Ex H H1 → ∀ Q : Bool → Hp → Prop, (∀ H2, Ex H1 H2 → Q k H2) → t σ H1 Q
theorem EvW.et {k : Bool} (h : EvW X e σ H k) : EvT X e σ H k := by
  obtain ⟨t, h1, h2⟩ := h
  exact fun H1 e1 Q q => w_T h1.pt (h2 H1 e1 Q q)
theorem et_or1 {k : Bool} (h : EvT X a σ H k) : EvW X (.BoolOp .Or [a] pos) σ H k := ⟨_, pw_or1 (pT a), h⟩
theorem et_or {k l : Bool} {rest : List Expr} (h : EvT X a σ H k) (h2 : k = false → EvW X (.BoolOp .Or (b :: rest) pos) σ H l) (hl : k = true → ∃ t, PW X (.BoolOp .Or (b :: rest) pos) t := by exact fun _ => ⟨_, by first | exact pw_or1 (pT _) | exact pw_or (pT _) (pw_or1 (pT _)) | exact pw_or (pT _) (pw_or (pT _) (pw_or1 (pT _)))⟩) : EvW X (.BoolOp .Or (a :: b :: rest) pos) σ H (k || l) := by
  cases k with
  | true =>
    obtain ⟨t, ht⟩ := hl rfl
    exact ⟨_, pw_or (pT a) ht, fun H1 e1 Q q => h H1 e1 _ fun H2 e2 => by
      show (if true = true then Q true H2 else t σ H2 Q)
      rw [if_pos rfl]
      exact q H2 e2⟩
  | false =>
    obtain ⟨t, h1, h3⟩ := h2 rfl
    exact ⟨_, pw_or (pT a) h1, fun H1 e1 Q q => h H1 e1 _ fun H2 e2 => by
      show (if false = true then Q true H2 else t σ H2 Q)
      rw [if_neg Bool.false_ne_true]
      exact h3 H2 (e1.trans e2) Q fun H3 e3 => q H3 (e2.trans e3)⟩
/-- .. as values of bools -/
theorem ev_and2 {k l : Bool} (h1 : EvE X a σ H (Is (.bool k))) (h2 : k = true → EvE X b σ H (Is (.bool l))) : EvE X (.BoolOp .And [a, b] pos) σ H (Is (.bool (k && l))) := fun H1 e1 Q q =>
  w_E (pe_and (pE a) (pe_one (pE b))) (h1 H1 e1 _ fun v H2 e2 p => ⟨k, is_bool p, by
    cases k with
    | true =>
      rw [if_pos rfl]
      exact h2 rfl H2 (e1.trans e2) _ fun u H3 e3 p3 => q u H3 (e2.trans e3) p3
    | false =>
      rw [if_neg Bool.false_ne_true]
      exact q _ H2 e2 (.bl _)⟩)
theorem ev_or2 {k l : Bool} (h1 : EvE X a σ H (Is (.bool k))) (h2 : k = false → EvE X b σ H (Is (.bool l))) : EvE X (.BoolOp .Or [a, b] pos) σ H (Is (.bool (k || l))) := fun H1 e1 Q q =>
  w_E (pe_or (pE a) (pe_one (pE b))) (h1 H1 e1 _ fun v H2 e2 p => ⟨k, is_bool p, by
    cases k with
    | false =>
      rw [if_neg Bool.false_ne_true]
      exact h2 rfl H2 (e1.trans e2) _ fun u H3 e3 p3 => q u H3 (e2.trans e3) p3
    | true =>
      rw [if_pos rfl]
      exact q _ H2 e2 (.bl _)⟩)
/-! ### chains -/
theorem tchain_le {i j k : Int} {r' : R2} {m : Int → Bool} (ha : EvE X a σ H (Is (.int i))) (hb : EvE X b σ H (Is (.int j))) (hc : i ≤ j → EvE X c σ H (Is (.int k))) (hr' : ∀ H1 (Q : VK), Q (.bl (m k)) H1 → r' (.int j) (.int k) H1 Q) :
    ∀ H1, Ex H H1 → ∀ Q : VK, (∀ H2, Ex H1 H2 → Q (.bl (decide (i ≤ j) && m k)) H2) → tChain (rI0 fun i j => .bl (decide (i ≤ j))) r' (tE X a) (tE X b) (tE X c) σ H1 Q := fun H1 e1 Q q =>
  ha H1 e1 _ fun x H2 e2 p2 => hb H2 (e1.trans e2) _ fun y H3 e3 p3 => by
    obtain rfl := is_int p2
    obtain rfl := is_int p3
    refine ⟨i, j, rfl, rfl, _, rfl, ?_⟩
    by_cases h : i ≤ j
    · rw [decide_eq_true h] at q ⊢
      rw [if_pos rfl]
      refine hc h H3 ((e1.trans e2).trans e3) _ fun z H4 e4 p4 => ?_
      obtain rfl := is_int p4
      exact hr' H4 Q (q H4 ((e2.trans e3).trans e4))
    · rw [decide_eq_false h] at q ⊢
      rw [if_neg Bool.false_ne_true]
      exact q H3 (e2.trans e3)
theorem ev_chain_lelt {i j k : Int} (ha : EvE X a σ H (Is (.int i))) (hb : EvE X b σ H (Is (.int j))) (hc : i ≤ j → EvE X c σ H (Is (.int k))) (hm : lastMarks [CmpOp.LtE, CmpOp.Lt] [b, c] = false := by with_unfolding_all rfl) : EvE X (.Compare a [.LtE, .Lt] [b, c] pos) σ H (Is (.bool (decide (i ≤ j) && decide (j < k)))) := fun H1 e1 Q q =>
  w_E (pe_chain op_le op_lt (pE a) (pE b) (pE c) hm) (tchain_le (m := fun k => decide (j < k)) ha hb hc (fun H1 Q q => ⟨j, k, rfl, rfl, q⟩) H1 e1 Q fun H2 e2 => q _ H2 e2 (.bl _))
theorem ev_chain_lele {i j k : Int} (ha : EvE X a σ H (Is (.int i))) (hb : EvE X b σ H (Is (.int j))) (hc : i ≤ j → EvE X c σ H (Is (.int k))) (hm : lastMarks [CmpOp.LtE, CmpOp.LtE] [b, c] = false := by with_unfolding_all rfl) : EvE X (.Compare a [.LtE, .LtE] [b, c] pos) σ H (Is (.bool (decide (i ≤ j) && decide (j ≤ k)))) := fun H1 e1 Q q =>
  w_E (pe_chain op_le op_le (pE a) (pE b) (pE c) hm) (tchain_le (m := fun k => decide (j ≤ k)) ha hb hc (fun H1 Q q => ⟨j, k, rfl, rfl, q⟩) H1 e1 Q fun H2 e2 => q _ H2 e2 (.bl _))
theorem tT_chain {t : TE} {k : Bool} (h : ∀ H1, Ex H H1 → ∀ Q : VK, (∀ H2, Ex H1 H2 → Q (.bl k) H2) → t σ H1 Q) (hp : PT X e (tTest t)) : EvT X e σ H k := fun H1 e1 Q q => w_T hp (h H1 e1 _ fun H2 e2 => ⟨k, rfl, q H2 e2⟩)
theorem et_chain_lele {i j k : Int} (ha : EvE X a σ H (Is (.int i))) (hb : EvE X b σ H (Is (.int j))) (hc : i ≤ j → EvE X c σ H (Is (.int k))) (hm : lastMarks [CmpOp.LtE, CmpOp.LtE] [b, c] = false := by with_unfolding_all rfl) : EvT X (.Compare a [.LtE, .LtE] [b, c] pos) σ H (decide (i ≤ j) && decide (j ≤ k)) :=
  tT_chain (tchain_le (m := fun k => decide (j ≤ k)) ha hb hc (fun H1 Q q => ⟨j, k, rfl, rfl, q⟩)) (pt_chain op_le op_le (pE a) (pE b) (pE c) hm)
/-! ### places -/
theorem ev_ixT {ds : List PyData} {d : PyData} (ha : EvE X a σ H (Isf f (.tuple ds))) (hb : EvE X b σ H (Is (.int i))) (hd : atI ds i = some d) (hs : PlainIx b := by exact fun _ _ => rfl) : EvE X (.Subscript a b pos) σ H (Isf f d) := fun H1 e1 Q q =>
  w_E (pe_ix ix_tup (pE a) (pE b) hs) (ha H1 e1 _ fun x H2 e2 p2 => hb H2 (e1.trans e2) _ fun y H3 e3 p3 => by
    obtain rfl := is_int p3
    obtain ⟨p, xs, rfl, h, r⟩ := is_tuple (IsD.ex e3 _ _ p2)
    obtain ⟨jj, hj, hd'⟩ := Option.bind_eq_some_iff.mp hd
    obtain ⟨v, hv, pv⟩ := r.get hd'
    refine ⟨p, xs, i, v, rfl, rfl, h.sq, ?_, q v H3 (e2.trans e3) pv⟩
    show (ixN xs.length i).bind (fun j => xs[j]?) = some v
    rw [r.length, hj]
    exact hv)
theorem ev_ixL {ds : List PyData} {d : PyData} (ha : EvE X a σ H (Isf f (.list ds))) (hb : EvE X b σ H (Is (.int i))) (hd : atI ds i = some d) (hs : PlainIx b := by exact fun _ _ => rfl) : EvE X (.Subscript a b pos) σ H (Isf f d) := fun H1 e1 Q q =>
  w_E (pe_ix ix_list (pE a) (pE b) hs) (ha H1 e1 _ fun x H2 e2 p2 => hb H2 (e1.trans e2) _ fun y H3 e3 p3 => by
    obtain rfl := is_int p3
    obtain ⟨p, xs, rfl, h, r⟩ := is_list (IsD.ex e3 _ _ p2)
    obtain ⟨jj, hj, hd'⟩ := Option.bind_eq_some_iff.mp hd
    obtain ⟨v, hv, pv⟩ := r.get hd'
    refine ⟨p, xs, i, v, rfl, rfl, SqL.of h, ?_, q v H3 (e2.trans e3) pv⟩
    show (ixN xs.length i).bind (fun j => xs[j]?) = some v
    rw [r.length, hj]
    exact hv)
/-! ### argument lists, displays -/
theorem ea_nil : EvA X [] σ H [] := fun H1 _ Q q => w_A pa_nil (q [] H1 (Ex.refl H1) .nil)
theorem AllP.mono1 {P : T} {v : V} {H1 H2 : Hp} [s : Sta P] (e : Ex H1 H2) (h : P H1 v) : P H2 v := s.mono e h
theorem ea_cons {Ps : List T} [s : Sta P] (h : EvE X e σ H P) (hr : EvA X es σ H Ps) (hs : starEach (e :: es) X.env = (false, eval e X.env) :: starEach es X.env := by rfl) : EvA X (e :: es) σ H (P :: Ps) := fun H1 e1 Q q =>
  w_A (pa_cons (pE e) (pA es) hs) (h H1 e1 _ fun v H2 e2 p => hr H2 (e1.trans e2) _ fun vs H3 e3 ps => q _ H3 (e2.trans e3) (.cons (s.mono e3 p) ps))
theorem allP_is {H : Hp} : ∀ {ds : List PyData} {vs : List V}, AllP H (ds.map (Isf f)) vs → IsAll f H ds vs
  | [], _, .nil => .nil
  | d :: ds, _, .cons h r => .cons h (allP_is r)
theorem ex_newT {H : Hp} {p : Addr} {o : HO} (h : H p = none) : Ex H (upd H p o) := Ex.new h
theorem ev_tup {ds : List PyData} {n : Nat} (h : EvA X es σ H (ds.map (Isf f))) (hl : ds.length ≤ 1000) (hf : f ≠ 2 := by decide) : EvE X (.Tuple es n pos) σ H (Isf f (.tuple ds)) := fun H1 e1 Q q =>
  w_E (pe_tup (pA es)) (h H1 e1 _ fun vs H2 e2 ps => by
    have r := allP_is ps
    refine ⟨Nat.le_of_lt (small1000 (by rw [r.length]; exact hl)), fun p hp => q _ _ (e2.trans (Ex.new hp)) (.tup (.of upd_same hf) (IsAll.ex (Ex.new hp) _ _ r))⟩)
theorem ev_lst {ds : List PyData} (h : EvA X es σ H (ds.map (Isf f))) (hl : ds.length ≤ 1000) : EvE X (.List es pos) σ H (Isf f (.list ds)) := fun H1 e1 Q q =>
  w_E (pe_lst (pA es)) (h H1 e1 _ fun vs H2 e2 ps => by
    have r := allP_is ps
    refine ⟨Nat.le_of_lt (small1000 (by rw [r.length]; exact hl)), fun p hp => q _ _ (e2.trans (Ex.new hp)) (.lst upd_same (IsAll.ex (Ex.new hp) _ _ r))⟩)
/-! ### calls -/
def Def (P : Program) (w : World) (K : PySem.W.Frag) (mg : Str → Option Value) (base : Heap) (k : Nat) (name : Str) (ps : List Str) (sp : Sp) : Prop :=
  ∃ f fd, mg name = some (.ref f) ∧ PySem.W.keepIn K (.ref f) = true ∧ Binds K fd ps [] ∧ FnOk P w K mg base CX0 k f fd ps sp
def Prom (A : List T → T → Prop) : Sp := fun vs H Q _ => ∃ Ps R, A Ps R ∧ AllP H Ps vs ∧ ∀ v H', Ex H H' → R H' v → Q v H'
theorem ev_call {k : Nat} {x : Str} {ps : List Str} {A : List T → T → Prop} {Ps : List T} {p : Pos} (d : Def X.prog X.w X.K X.mg X.base k x ps (Prom A)) (hr : Room k X.A) (ha : EvA X (e :: es) σ H Ps) (hA : A Ps R)
    (hg : Gl X x := by rfl) (hdb : (x == ("__debug__" : Str)) = false := by decide) (he : starEach (e :: es) X.env = (false, eval e X.env) :: starEach es X.env := by rfl) (hpl : (backTo pos (starEach es X.env)).any (·.1) = false := by rfl) :
    EvE X (.Call (.Name x p) (e :: es) [] pos) σ H R := fun H1 e1 Q q => by
  obtain ⟨f, fd, hm, hk, hb, F⟩ := d
  exact w_E (pe_call F hr hg hm hk hb .nil pass0 (pA (e :: es)) hdb he hpl) (ha H1 e1 _ fun vs H2 e2 ap => by
    show Prom A (vs ++ []) H2 Q _
    rw [List.append_nil]
    exact ⟨Ps, R, hA, ap, fun v H3 e3 r => q v H3 (e2.trans e3) r⟩)
/-- a built-in called by its name -/
theorem ev_callB {x : Str} {id : String} {r : List V → Hp → VK → Prop} {Ps : List T} {p : Pos} (hc : CallR X (.builtin id) r) (hm : X.mg x = none) (hv : bootBuiltins x = some (.builtin id)) (ha : EvA X (e :: es) σ H Ps)
    (hr : ∀ vs H1, Ex H H1 → AllP H1 Ps vs → ∀ Q : VK, (∀ v H2, Ex H1 H2 → R H2 v → Q v H2) → r vs H1 Q) (hg : Gl X x := by rfl) (hn : x ≠ "__name__" := by decide) (hdb : (x == ("__debug__" : Str)) = false := by decide)
    (he : starEach (e :: es) X.env = (false, eval e X.env) :: starEach es X.env := by rfl) (hpl : (backTo pos (starEach es X.env)).any (·.1) = false := by rfl) : EvE X (.Call (.Name x p) (e :: es) [] pos) σ H R := fun H1 e1 Q q =>
  w_E (pe_callB hc hg hm hv (pA (e :: es)) hn hdb he hpl) (ha H1 e1 _ fun vs H2 e2 ap => hr vs H2 (e1.trans e2) ap Q fun v H3 e3 p => q v H3 (e2.trans e3) p)
theorem ev_callTy {x : Str} {Ty : String} {r : List V → Hp → VK → Prop} {Ps : List T} {p : Pos} (hc : CallR X (.type Ty) r) (hm : X.mg x = none) (hv : bootBuiltins x = some (.type Ty)) (ha : EvA X (e :: es) σ H Ps)
    (hr : ∀ vs H1, Ex H H1 → AllP H1 Ps vs → ∀ Q : VK, (∀ v H2, Ex H1 H2 → R H2 v → Q v H2) → r vs H1 Q) (hg : Gl X x := by rfl) (hn : x ≠ "__name__" := by decide) (hdb : (x == ("__debug__" : Str)) = false := by decide)
    (he : starEach (e :: es) X.env = (false, eval e X.env) :: starEach es X.env := by rfl) (hpl : (backTo pos (starEach es X.env)).any (·.1) = false := by rfl) : EvE X (.Call (.Name x p) (e :: es) [] pos) σ H R := fun H1 e1 Q q =>
  w_E (pe_callTy hc hg hm hv (pA (e :: es)) hn hdb he hpl) (ha H1 e1 _ fun vs H2 e2 ap => hr vs H2 (e1.trans e2) ap Q fun v H3 e3 p => q v H3 (e2.trans e3) p)
theorem allP1 {P : T} {H : Hp} {vs : List V} (h : AllP H [P] vs) : ∃ v, vs = [v] ∧ P H v := by
  cases h with
  | cons h r => cases r; exact ⟨_, rfl, h⟩
theorem allP2 {P P2 : T} {H : Hp} {vs : List V} (h : AllP H [P, P2] vs) : ∃ v u, vs = [v, u] ∧ P H v ∧ P2 H u := by
  cases h with
  | cons h r =>
    obtain ⟨u, rfl, h2⟩ := allP1 r
    exact ⟨_, u, rfl, h, h2⟩
theorem allP3 {P P2 P3 : T} {H : Hp} {vs : List V} (h : AllP H [P, P2, P3] vs) : ∃ v u w, vs = [v, u, w] ∧ P H v ∧ P2 H u ∧ P3 H w := by
  cases h with
  | cons h r =>
    obtain ⟨u, w, rfl, h2, h3⟩ := allP2 r
    exact ⟨_, u, w, rfl, h, h2, h3⟩
theorem allP4 {P P2 P3 P4 : T} {H : Hp} {vs : List V} (h : AllP H [P, P2, P3, P4] vs) : ∃ v u w z, vs = [v, u, w, z] ∧ P H v ∧ P2 H u ∧ P3 H w ∧ P4 H z := by
  cases h with
  | cons h r =>
    obtain ⟨u, w, z, rfl, h2, h3, h4⟩ := allP3 r
    exact ⟨_, u, w, z, rfl, h, h2, h3, h4⟩
theorem allP5 {P P2 P3 P4 P5 : T} {H : Hp} {vs : List V} (h : AllP H [P, P2, P3, P4, P5] vs) : ∃ v u w z y, vs = [v, u, w, z, y] ∧ P H v ∧ P2 H u ∧ P3 H w ∧ P4 H z ∧ P5 H y := by
  cases h with
  | cons h r =>
    obtain ⟨u, w, z, y, rfl, h2, h3, h4, h5⟩ := allP4 r
    exact ⟨_, u, w, z, y, rfl, h, h2, h3, h4, h5⟩
theorem ev_lenT {ds : List PyData} {x : Str} {p : Pos} (hx : x = "len") (hm : X.mg x = none) (ha : EvE X a σ H (Isf f (.tuple ds))) (hg : Gl X x := by rfl) (hs : starEach [a] X.env = (false, eval a X.env) :: starEach [] X.env := by rfl) : EvE X (.Call (.Name x p) [a] [] pos) σ H (Is (.int ds.length)) := by
  subst hx
  exact ev_callB call_len_seq hm PySem.boot_len (ea_cons ha ea_nil hs) (fun vs H1 _ ap Q q => by
    obtain ⟨v, rfl, p⟩ := allP1 ap
    obtain ⟨p', xs, rfl, h, r⟩ := is_tuple p
    exact ⟨p', xs, rfl, Or.inr h.sq, by rw [r.length]; exact q _ H1 (Ex.refl H1) (.int _)⟩) hg (he := hs)
theorem ev_lenL {ds : List PyData} {x : Str} {p : Pos} (hx : x = "len") (hm : X.mg x = none) (ha : EvE X a σ H (Isf f (.list ds))) (hg : Gl X x := by rfl) (hs : starEach [a] X.env = (false, eval a X.env) :: starEach [] X.env := by rfl) : EvE X (.Call (.Name x p) [a] [] pos) σ H (Is (.int ds.length)) := by
  subst hx
  exact ev_callB call_len_seq hm PySem.boot_len (ea_cons ha ea_nil hs) (fun vs H1 _ ap Q q => by
    obtain ⟨v, rfl, p⟩ := allP1 ap
    obtain ⟨p', xs, rfl, h, r⟩ := is_list p
    exact ⟨p', xs, rfl, Or.inl (SqL.of h), by rw [r.length]; exact q _ H1 (Ex.refl H1) (.int _)⟩) hg (he := hs)
end
end TG
set_option Elab.async false
set_option linter.all false
set_option maxRecDepth 100000
set_option maxHeartbeats 2000000
namespace TG
open PySem PySem.Spec PyProof.Rows L2
open Evl (Ex ex_l ex_t fresh_back)
section
variable {f g : Nat} {X : Cx} {σ : L2.St} {H H' : Hp} {a b c e tg iter : Expr} {es : List Expr} {P P' P1 P2 R : T} {pos : Pos} {i j : Int} {D : Ends} {rest body as bs : List Stmt}
/-! ### statements -/
theorem go_nil (h : D.nx σ H) : tSs X [] D σ H := w_Ss pss_nil h
theorem go_set {n : Nat} {x : Str} {px : Pos} (h : EvE X e σ H P) (k : ∀ v H1, Ex H H1 → P H1 v → tSs X rest D (σ.set n (some v)) H1) (hN : X.N.Nodup) (hi : X.N[n]? = some x := by rfl) (hx : Loc X.env.scope x := by first | exact Or.inl rfl | exact Or.inr rfl)
    (hs : swapsWith e (some (.Name x px)) pos.line X.env = pure false := by rfl) (hf : X.fn x = true ∨ X.env.scope.names.lookup x = some .local := by first | exact .inl rfl | exact .inr rfl) : tSs X (.Assign [.Name x px] e pos :: rest) D σ H :=
  w_Ss (pss_cons (ps_set hN hi hx (pE e) hs hf) (pSs rest)) (h H (Ex.refl H) _ fun v H1 e1 p => k v H1 e1 p)
theorem go_ret (h : EvE X e σ H P) (k : ∀ v H1, Ex H H1 → P H1 v → D.rt v H1) : tSs X (.Return (some e) pos :: rest) D σ H :=
  w_Ss (pss_cons (ps_ret (pE e)) (pSs rest)) (h H (Ex.refl H) _ fun v H1 e1 p => k v H1 e1 p)
theorem go_expr (h : EvE X e σ H P) (k : ∀ H1, Ex H H1 → tSs X rest D σ H1) (hs : swapsWith e none pos.line X.env = pure false := by rfl) : tSs X (.Expr e pos :: rest) D σ H :=
  w_Ss (pss_cons (ps_expr (pE e) hs) (pSs rest)) (h H (Ex.refl H) _ fun v H1 e1 _ => k H1 e1)
theorem go_if {k : Bool} (h : EvT X c σ H k) (h1 : k = true → ∀ H1, Ex H H1 → tSs X as { D with nx := tSs X rest D } σ H1) (h2 : k = false → ∀ H1, Ex H H1 → tSs X bs { D with nx := tSs X rest D } σ H1) : tSs X (.If c as bs pos :: rest) D σ H :=
  w_Ss (pss_cons (ps_if (pT c) (pSs as) (pSs bs)) (pSs rest)) (h H (Ex.refl H) _ fun H1 e1 => by
    cases k with
    | true =>
      show tSs X as { D with nx := tSs X rest D } σ H1
      exact h1 rfl H1 e1
    | false =>
      show tSs X bs { D with nx := tSs X rest D } σ H1
      exact h2 rfl H1 e1)
/-- if c: return .. (no else) -/
theorem go_ifr {k : Bool} (h : EvT X c σ H k) (h1 : k = true → ∀ H1, Ex H H1 → tSs X as { D with nx := tSs X rest D } σ H1) (h2 : k = false → ∀ H1, Ex H H1 → tSs X rest D σ H1) : tSs X (.If c as [] pos :: rest) D σ H :=
  go_if h h1 fun z H1 e1 => go_nil (h2 z H1 e1)
theorem pg2 {n m kk : Nat} {x y : Str} {px py tp : Pos} (hc : X.calm = true) (hN : X.N.Nodup) (hi : X.N[n]? = some x := by rfl) (hx : Loc X.env.scope x := by first | exact Or.inl rfl | exact Or.inr rfl) (hf : X.fn x = true ∨ X.env.scope.names.lookup x = some .local := by first | exact .inl rfl | exact .inr rfl)
    (hj : X.N[m]? = some y := by rfl) (hy : Loc X.env.scope y := by first | exact Or.inl rfl | exact Or.inr rfl) (hg : X.fn y = true ∨ X.env.scope.names.lookup y = some .local := by first | exact .inl rfl | exact .inr rfl)
    (h1 : (assignEach [.Name x px, .Name y py] X.env).map (·.2) = assign (.Name x px) X.env :: (assignEach [.Name y py] X.env).map (·.2) := by rfl) (h2 : (assignEach [.Name y py] X.env).map (·.2) = assign (.Name y py) X.env :: (assignEach [] X.env).map (·.2) := by rfl)
    (h3 : (assignEach [.Name x px, .Name y py] X.env).length = 2 := by rfl) (h4 : (assignEach [.Name x px, .Name y py] X.env).findIdx? (·.1) = none := by rfl) :
    PG X (.Tuple [.Name x px, .Name y py] kk tp) (gTup X.K 2 (gCons (gName n) (gCons (gName m) gNil))) := pg_tup hc (pgs_cons (pg_name hN hi hx hf) (pgs_cons (pg_name hN hj hy hg) pgs_nil h2) h1) h3 h4
/-- x, y = e -/
theorem go_un2 {n m kk : Nat} {x y : Str} {px py tp : Pos} {d1 d2 : PyData} (h : EvE X e σ H (Isf f (.tuple [d1, d2]))) (k : ∀ u v H1, Ex H H1 → IsD f H1 d1 u → IsD f H1 d2 v → tSs X rest D ((σ.set n (some u)).set m (some v)) H1) (hg : PG X (.Tuple [.Name x px, .Name y py] kk tp) (gTup X.K 2 (gCons (gName n) (gCons (gName m) gNil))))
    (hs : swapsWithSole [.Tuple [.Name x px, .Name y py] kk tp] e pos.line X.env = pure false := by rfl) (hw : swappedStores [.Tuple [.Name x px, .Name y py] kk tp] e X.env = pure none := by rfl)
    (h1 : (assignEach [.Tuple [.Name x px, .Name y py] kk tp] X.env).map (·.2) = [assign (.Tuple [.Name x px, .Name y py] kk tp) X.env] := by rfl) : tSs X (.Assign [.Tuple [.Name x px, .Name y py] kk tp] e pos :: rest) D σ H :=
  w_Ss (pss_cons (ps_asg (pE e) hg hs hw h1) (pSs rest)) (h H (Ex.refl H) _ fun v H1 e1 p => by
    obtain ⟨a, xs, rfl, ha, r⟩ := is_tuple p
    cases r with
    | cons r1 r2 =>
      cases r2 with
      | cons r2 r3 =>
        cases r3
        exact ⟨a, _, rfl, ha.sq, rfl, _, _, rfl, _, _, rfl, rfl, k _ _ H1 e1 r1 r2⟩)
/-! ### loops -/
theorem go_for {wi : TI} {gt : TG} (hp : PassesOwn (model X.prog X.w) X.A X.env X.xe) (hc : X.calm = true) (hi : PI X tg iter wi) (hg : PG X tg gt) (h : tFor wi gt (tSs X body) { D with nx := tSs X rest D } σ H) (hs : ∀ x, foldedSetIterable iter X.env x = pure x := by intro _; rfl) :
    tSs X (.For tg iter body [] pos :: rest) D σ H := w_Ss (pss_cons (ps_for hp hc hi hg (pSs body) hs) (pSs rest)) h
theorem go_forL {α : Type} {l : List α} {enc : α → PyData} {gt : TG} (hp : PassesOwn (model X.prog X.w) X.A X.env X.xe) (hc : X.calm = true) (h : EvE X iter σ H (Isf f (.list (l.map enc)))) (hg : PG X tg gt)
    (k : ∀ a xs H1, Ex H H1 → H1 a = some (.lst xs) → IsAll f H1 (l.map enc) xs → ∃ Pv : Nat → L2.St → Hp → Prop, Pv 0 σ H1 ∧ (∀ i σ' H', i ≤ l.length → Pv i σ' H' → H' a = some (.lst xs)) ∧
      (∀ (i : Nat) (x : α) (v : V) (σ' : L2.St) (H' : Hp), l[i]? = some x → xs[i]? = some v → IsD f H1 (enc x) v → Pv i σ' H' → gt v σ' H' fun σ2 H2 => tSs X body { D with nx := Pv (i + 1), ct := Pv (i + 1), bk := tSs X rest D } σ2 H2) ∧
      ∀ σ' H', Pv l.length σ' H' → tSs X rest D σ' H')
    (hs : ∀ x, foldedSetIterable iter X.env x = pure x := by intro _; rfl) : tSs X (.For tg iter body [] pos :: rest) D σ H :=
  go_for hp hc (pi_list (pE iter)) hg (h H (Ex.refl H) _ fun v H1 e1 p => by
    obtain ⟨a, xs, rfl, ha, r⟩ := is_list p
    obtain ⟨Pv, h0, hl, ht, hd⟩ := k a xs H1 e1 ha r
    have hlen : xs.length = l.length := by rw [r.length, List.length_map]
    refine ⟨a, rfl, ⟨xs, SqL.of ha⟩, for_list (K := X.K) (a := a) (xs := xs) Pv h0 (fun i σ' H' hi p => SqL.of (hl i σ' H' (by omega) p)) (fun i v σ' H' hv p => ?_) (fun σ' H' p => hd σ' H' (by rw [← hlen]; exact p))⟩
    have hi : i < l.length := by rw [← hlen]; exact (List.getElem?_eq_some_iff.mp hv).1
    have hx : l[i]? = some l[i] := List.getElem?_eq_getElem hi
    obtain ⟨v', hv', pv⟩ := r.get (i := i) (d := enc l[i]) (by rw [List.getElem?_map, hx]; rfl)
    rw [hv] at hv'
    cases hv'
    exact ht i l[i] v σ' H' hx hv pv p) hs
theorem go_forT {α : Type} {l : List α} {enc : α → PyData} {gt : TG} (hp : PassesOwn (model X.prog X.w) X.A X.env X.xe) (hc : X.calm = true) (h : EvE X iter σ H (Is (.tuple (l.map enc)))) (hg : PG X tg gt)
    (k : ∀ a xs H1, Ex H H1 → H1 a = some (.tup xs) → IsAll 0 H1 (l.map enc) xs → ∃ Pv : Nat → L2.St → Hp → Prop, Pv 0 σ H1 ∧ (∀ i σ' H', i ≤ l.length → Pv i σ' H' → H' a = some (.tup xs)) ∧
      (∀ (i : Nat) (x : α) (v : V) (σ' : L2.St) (H' : Hp), l[i]? = some x → xs[i]? = some v → IsD 0 H1 (enc x) v → Pv i σ' H' → gt v σ' H' fun σ2 H2 => tSs X body { D with nx := Pv (i + 1), ct := Pv (i + 1), bk := tSs X rest D } σ2 H2) ∧
      ∀ σ' H', Pv l.length σ' H' → tSs X rest D σ' H')
    (hs : ∀ x, foldedSetIterable iter X.env x = pure x := by intro _; rfl) : tSs X (.For tg iter body [] pos :: rest) D σ H :=
  go_for hp hc (pi_tup (pE iter)) hg (h H (Ex.refl H) _ fun v H1 e1 p => by
    obtain ⟨a, xs, rfl, ha', r⟩ := is_tuple p
    have ha := ha'.strict
    obtain ⟨Pv, h0, hl, ht, hd⟩ := k a xs H1 e1 ha r
    have hlen : xs.length = l.length := by rw [r.length, List.length_map]
    refine ⟨a, rfl, ⟨xs, SqT.of ha⟩, for_tup (K := X.K) (a := a) (xs := xs) Pv h0 (fun i σ' H' hi p => SqT.of (hl i σ' H' (by omega) p)) (fun i v σ' H' hv p => ?_) (fun σ' H' p => hd σ' H' (by rw [← hlen]; exact p))⟩
    have hi : i < l.length := by rw [← hlen]; exact (List.getElem?_eq_some_iff.mp hv).1
    have hx : l[i]? = some l[i] := List.getElem?_eq_getElem hi
    obtain ⟨v', hv', pv⟩ := r.get (i := i) (d := enc l[i]) (by rw [List.getElem?_map, hx]; rfl)
    rw [hv] at hv'
    cases hv'
    exact ht i l[i] v σ' H' hx hv pv p) hs
/-- for x in range(n) -/
theorem go_forR {gt : TG} {n : Int} {p : Pos} (hp : PassesOwn (model X.prog X.w) X.A X.env X.xe) (hc : X.calm = true) (hm : X.mg "range" = none) (h : EvE X e σ H (Is (.int n))) (hn : n ≤ 100000 ∧ -100000 ≤ n) (hg : PG X tg gt)
    (k : ∀ H1, Ex H H1 → ∃ Pv : Nat → L2.St → Hp → Prop, Pv 0 σ H1 ∧ (∀ (i : Nat) (σ' : L2.St) (H' : Hp), i < n.toNat → Pv i σ' H' → gt (.int i) σ' H' fun σ2 H2 => tSs X body { D with nx := Pv (i + 1), ct := Pv (i + 1), bk := tSs X rest D } σ2 H2) ∧
      ∀ σ' H', Pv n.toNat σ' H' → tSs X rest D σ' H')
    (hgl : Gl X "range" := by rfl) (hs : starEach [e] X.env = [(false, eval e X.env)] := by rfl) (hf : ∀ x, foldedSetIterable (.Call (.Name "range" p) [e] [] pos) X.env x = pure x := by intro _; rfl) {fpos : Pos} : tSs X (.For tg (.Call (.Name "range" p) [e] [] pos) body [] fpos :: rest) D σ H :=
  go_for hp hc (pi_range1 hgl hm (pa_cons (pE e) pa_nil (by rw [hs]; rfl)) hs) hg (h H (Ex.refl H) _ fun v H1 e1 p => by
    obtain rfl := is_int p
    obtain ⟨Pv, h0, ht, hd⟩ := k H1 e1
    refine ⟨n, rfl, by omega, by omega, for_range (lo := 0) (n := n.toNat) Pv h0 (fun i σ' H' hi p => ?_) hd⟩
    rw [Int.zero_add]
    exact ht i σ' H' hi p) hf
/-! ### comprehensions -/
def EvEb (X : Cx) (scope : Scope) (e : Expr) (σ : L2.St) (H : Hp) (P : T) : Prop := ∀ (s : Shared) (H0 : Hp) (C : Addr) (cl : List (Str × Addr)) (fp : List Addr), EvE (X.blk s H0 scope (compEnvC scope cl C X.env) fp) e σ H P
def EvTb (X : Cx) (scope : Scope) (e : Expr) (σ : L2.St) (H : Hp) (k : Bool) : Prop := ∀ (s : Shared) (H0 : Hp) (C : Addr) (cl : List (Str × Addr)) (fp : List Addr), EvT (X.blk s H0 scope (compEnvC scope cl C X.env) fp) e σ H k
def tEb (X : Cx) (scope : Scope) (e : Expr) : TE := fun σ H Q => ∀ (s : Shared) (H0 : Hp) (C : Addr) (cl : List (Str × Addr)) (fp : List Addr), tE (X.blk s H0 scope (compEnvC scope cl C X.env) fp) e σ H Q
def tTb (X : Cx) (scope : Scope) (e : Expr) : TT := fun σ H Q => ∀ (s : Shared) (H0 : Hp) (C : Addr) (cl : List (Str × Addr)) (fp : List Addr), tT (X.blk s H0 scope (compEnvC scope cl C X.env) fp) e σ H Q
theorem EvEb.use {scope : Scope} (h : EvEb X scope e σ H P) {H1 : Hp} (e1 : Ex H H1) {Q : VK} (q : ∀ v H2, Ex H1 H2 → P H2 v → Q v H2) : tEb X scope e σ H1 Q := fun s H0 C cl fp => h s H0 C cl fp H1 e1 Q q
theorem EvTb.use {scope : Scope} {k : Bool} (h : EvTb X scope e σ H k) {H1 : Hp} (e1 : Ex H H1) {Q : Bool → Hp → Prop} (q : ∀ H2, Ex H1 H2 → Q k H2) : tTb X scope e σ H1 Q := fun s H0 C cl fp => h s H0 C cl fp H1 e1 Q q
theorem wipe1 (σ : L2.St) (j : Nat) (v : Option V) : wipe ((wipe σ [j]).set j v) [j] = wipe σ [j] := by
  show ((σ.set j none).set j v).set j none = σ.set j none
  rw [List.set_set, List.set_set]
theorem wipe2 (σ : L2.St) {j k : Nat} (h : j ≠ k) (v u : Option V) : wipe (((wipe σ [j, k]).set j v).set k u) [j, k] = wipe σ [j, k] := by
  show (((((σ.set k none).set j none).set j v).set k u).set k none).set j none = (σ.set k none).set j none
  rw [List.set_set (a := u), List.set_set, List.set_comm v none h, List.set_set, List.set_set]
/-- the core: J walks n turns; at turn i the test says p i, the item is f i -/
theorem lc_go {J : It} {n : Nat} {G : Hp → Prop} {Y : Nat → Hp → V → Hp → Prop} (w : Walk J n G Y) {gt : TG} {tt : TT} {te : TE} {vs : List Nat} {H1 : Hp} {Q : VK} (p : Nat → Bool) (F : Nat → PyData) (hn : n ≤ 100000) (him : ∀ i, i < n → imm (F i) = true)
    (hG : ∀ H', Ex H1 H' → G H')
    (hs : ∀ i x H H', i < n → Ex H1 H → Y i H x H' → Ex H H' ∧ ∀ (Q1 : VK) (Q2 : Hp → Prop), (p i = true → ∀ y H4, Ex H' H4 → IsD g H4 (F i) y → Q1 y H4) → (p i = false → ∀ H3, Ex H' H3 → Q2 H3) →
      gt x (wipe σ vs) H' fun σ2 H2 => wipe σ2 vs = wipe σ vs ∧ tt σ2 H2 fun b H3 => if b = true then te σ2 H3 Q1 else Q2 H3)
    (hQ : ∀ D H', Ex H1 H' → H1 D = none → IsD g H' (.list (((List.range n).filter p).map F)) (.ref D) → Q (.ref D) H') :
    ∀ D, H1 D = none → ∃ W : Nat → Nat → Hp → Prop, (∃ m, W 0 m (upd H1 D (.lst []))) ∧ ∀ i m H, W i m H →
      (J.stop i H ∧ Q (.ref D) H) ∨ (J.go i H ∧ ∃ Nx : Hp → Prop, (∀ H', Nx H' → ∃ m', m' < m ∧ W (i + 1) m' H') ∧ ∀ x H', J.yld i H x H' → gt x (wipe σ vs) H' fun σ2 H2 => wipe σ2 vs = wipe σ vs ∧ tt σ2 H2 fun b H3 =>
        if b = true then te σ2 H3 fun y H4 => ∃ acc, H4 D = some (.lst acc) ∧ acc.length < sizeLine ∧ Nx (upd H4 D (.lst (acc ++ [y]))) else Nx H3) := fun D hD => by
  refine lc_it w (Qd := Q (.ref D)) (fun i H => Ex H1 H ∧ i ≤ n ∧ ∃ acc, H D = some (.lst acc) ∧ IsAll g H (((List.range i).filter p).map F) acc) ⟨Ex.new hD, Nat.zero_le _, [], upd_same, .nil⟩ (fun i H _ q => hG H q.1) ?_ ?_
  · rintro i x H H' hi ⟨e1, _, acc, hacc, r⟩ y
    obtain ⟨e2, k⟩ := hs i x H H' hi e1 y
    have hlen : acc.length ≤ i := by
      rw [r.length, List.length_map]
      exact Nat.le_trans (List.length_filter_le _ _) (by simp)
    have hrange : List.range (i + 1) = List.range i ++ [i] := List.range_succ
    refine k _ _ (fun hp y H4 e4 py => ⟨acc, e4 _ _ (e2 _ _ hacc), Nat.lt_of_le_of_lt hlen (Nat.lt_of_lt_of_le hi (Nat.le_trans hn (by decide))), ?_, hi, acc ++ [y], upd_same, ?_⟩) (fun hp H3 e3 => ⟨(e1.trans e2).trans e3, hi, acc, e3 _ _ (e2 _ _ hacc), ?_⟩)
    · exact ((e1.trans e2).trans e4).mut hD
    · rw [hrange, List.filter_append, List.map_append]
      have tx : Tx H4 (upd H4 D (.lst (acc ++ [y]))) := tx_upd fun u h s => by rw [e4 _ _ (e2 _ _ hacc)] at h; cases h; exact s
      refine IsAll.app (IsAll.tx tx _ _ ?_ (IsAll.ex (e2.trans e4) _ _ r)) ?_
      · have : ∀ l : List Nat, (∀ j ∈ l, j < n) → imms (l.map F) = true := by
          intro l
          induction l with
          | nil => intro _; rfl
          | cons a l ih =>
            intro h
            show (imm (F a) && imms (l.map F)) = true
            rw [him a (h a List.mem_cons_self), ih fun j hj => h j (List.mem_cons_of_mem _ hj)]
            rfl
        refine this _ fun j hj => ?_
        have := (List.mem_filter.mp hj).1
        rw [List.mem_range] at this
        omega
      · have : [i].filter p = [i] := by rw [List.filter_cons, if_pos hp]; rfl
        rw [this]
        exact .cons (IsD.tx tx _ _ (him i hi) py) .nil
    · rw [hrange, List.filter_append, List.map_append]
      have : [i].filter p = [] := by rw [List.filter_cons, if_neg (by rw [hp]; exact Bool.false_ne_true)]; rfl
      rw [this, List.map_nil, List.append_nil]
      exact IsAll.ex (e2.trans e3) _ _ r
  · rintro H ⟨e1, _, acc, hacc, r⟩
    exact hQ D H e1 hD (.lst hacc r)
theorem filter_get {α : Type} (l : List α) (p : α → Bool) (F : α → PyData) (p' : Nat → Bool) (f : Nat → PyData) (h : ∀ i x, l[i]? = some x → p' i = p x ∧ f i = F x) : ((List.range l.length).filter p').map f = (l.filter p).map F := by
  induction l generalizing p' f with
  | nil => rfl
  | cons a l ih =>
    have h0 := h 0 a rfl
    have e1 : ((List.range l.length).filter fun i => p' (i + 1)).map (fun i => f (i + 1)) = (l.filter p).map F := ih _ _ fun i x hx => h (i + 1) x (by simpa using hx)
    have e2 : List.range (a :: l).length = 0 :: (List.range l.length).map (· + 1) := by
      rw [List.length_cons, List.range_succ_eq_map]
    rw [e2, List.filter_cons, List.filter_cons, h0.1, List.filter_map]
    have e3 : ((List.range l.length).filter (p' ∘ fun x => x + 1)).map (fun x => x + 1) = ((List.range l.length).filter fun i => p' (i + 1)).map (fun x => x + 1) := rfl
    cases hp : p a with
    | true =>
      rw [if_pos rfl, if_pos rfl, List.map_cons, List.map_cons, h0.2, List.map_map]
      exact congrArg _ e1
    | false =>
      rw [if_neg Bool.false_ne_true, if_neg Bool.false_ne_true, List.map_map]
      exact e1
theorem filter_all {α : Type} (l : List α) : l.filter (fun _ => true) = l := by
  induction l with
  | nil => rfl
  | cons a l ih => rw [List.filter_cons, if_pos rfl, ih]
/-- what a comprehension walks: the items ds, one by one -/
def Src (f : Nat) (X : Cx) (tg iter : Expr) (σ : L2.St) (H : Hp) (ds : List PyData) : Prop := ∃ wi, PI X tg iter wi ∧ ∀ H1, Ex H H1 → ∀ R : It → Hp → Prop,
  (∀ J H2 xs G, Ex H1 H2 → IsAll f H2 ds xs → Walk J xs.length G (YAt xs) → (∀ H', Ex H2 H' → G H') → R J H2) → wi σ H1 R
theorem src_list {ds : List PyData} (h : EvE X iter σ H (Isf f (.list ds))) : Src f X tg iter σ H ds := ⟨_, pi_list (pE iter), fun H1 e1 R hR => h H1 e1 _ fun v H2 e2 p => by
  obtain ⟨a, xs, rfl, ha, r⟩ := is_list p
  exact ⟨a, rfl, ⟨xs, SqL.of ha⟩, hR _ H2 xs _ e2 r walk_list fun H' e' => SqL.of (e' _ _ ha)⟩⟩
theorem src_tup {ds : List PyData} (h : EvE X iter σ H (Isf f (.tuple ds))) : Src f X tg iter σ H ds := ⟨_, pi_tup (pE iter), fun H1 e1 R hR => h H1 e1 _ fun v H2 e2 p => by
  obtain ⟨a, xs, rfl, ha, r⟩ := is_tuple p
  exact ⟨a, rfl, ⟨xs, ha.sq⟩, hR _ H2 xs _ e2 r walk_tup fun H' e' => (ha.ex e').sq⟩⟩
/-- i, i + 1, .. (n of them) -/
def rgI (i : Int) (n : Nat) : List Int := (List.range n).map fun (k : Nat) => i + (k : Int)
theorem rgI_len (i : Int) (n : Nat) : (rgI i n).length = n := by unfold rgI; simp
theorem walk_rgI {lo : Int} {n : Nat} : Walk (Itr lo n) ((rgI lo n).map V.int).length (fun _ => True) (YAt ((rgI lo n).map V.int)) := by
  have e : ((rgI lo n).map V.int).length = n := by rw [List.length_map, rgI_len]
  rw [e]
  refine walk_range.mono (fun _ _ => trivial) fun i H x H' hi _ y => ⟨y.1, ?_⟩
  rw [y.2]
  unfold rgI
  rw [List.getElem?_map, List.getElem?_map, List.getElem?_range hi]
  rfl
theorem src_range1 {n : Int} {p : Pos} (hm : X.mg "range" = none) (h : EvE X e σ H (Is (.int n))) (hn : n ≤ 100000 ∧ -100000 ≤ n) (hgl : Gl X "range" := by rfl) (hs : starEach [e] X.env = [(false, eval e X.env)] := by rfl) :
    Src f X tg (.Call (.Name "range" p) [e] [] pos) σ H ((rgI 0 n.toNat).map .int) := ⟨_, pi_range1 hgl hm (pa_cons (pE e) pa_nil (by rw [hs]; rfl)) hs, fun H1 e1 R hR => h H1 e1 _ fun v H2 e2 p => by
  obtain rfl := is_int p
  exact ⟨n, rfl, by omega, by omega, hR _ H2 _ _ e2 (isAll_ints _) walk_rgI fun _ _ => trivial⟩⟩
theorem src_range2 {i n : Int} {p : Pos} (hm : X.mg "range" = none) (h : EvE X a σ H (Is (.int i))) (h2 : EvE X b σ H (Is (.int n))) (hn : n ≤ 100000 ∧ -100000 ≤ n ∧ i ≤ 100000 ∧ -100000 ≤ i) (hgl : Gl X "range" := by rfl) (hs : starEach [a, b] X.env = [(false, eval a X.env), (false, eval b X.env)] := by rfl) (hs2 : starEach [b] X.env = [(false, eval b X.env)] := by rfl) :
    Src f X tg (.Call (.Name "range" p) [a, b] [] pos) σ H ((rgI i (n - i).toNat).map .int) := ⟨_, pi_range2 hgl hm (pa_cons (pE a) (pa_cons (pE b) pa_nil (by rw [hs2]; rfl)) (by rw [hs, hs2])) hs hs2, fun H1 e1 R hR => h H1 e1 _ fun v H2 e2 p => h2 H2 (e1.trans e2) _ fun u H3 e3 p3 => by
  obtain rfl := is_int p
  obtain rfl := is_int p3
  exact ⟨i, n, rfl, ⟨by omega, by omega, by omega, by omega⟩, hR _ H3 _ _ (e2.trans e3) (isAll_ints _) walk_rgI fun _ _ => trivial⟩⟩
/-- [elt for x in .. if ..], x the j-th name -/
theorem ev_lc {α : Type} {l : List α} {enc F : α → PyData} {p : α → Bool} {x : Str} {px : Pos} {j : Nat} {scope : Scope} {elt : Expr} {ifs : List Expr} {tt : TT} (hc : X.calm = true) (hN : X.N.Nodup) (h : Src f X (.Name x px) iter σ H (l.map enc)) (ok : BlkOk X.N X.env.scope scope [(x, j)])
    (hl : l.length ≤ 100000) (him : ∀ z ∈ l, imm (F z) = true)
    (hg : ∀ (s : Shared) (H : Hp) (C : Addr) (cl : List (Str × Addr)) (fp : List Addr), PG (X.blk s H scope (compEnvC scope cl C X.env) fp) (.Name x px) (gName j))
    (ht : ∀ (s : Shared) (H : Hp) (C : Addr) (cl : List (Str × Addr)) (fp : List Addr), PTs (X.blk s H scope (compEnvC scope cl C X.env) fp) ifs tt)
    (hs : ∀ z ∈ l, ∀ H1 v, Ex H H1 → IsD f H1 (enc z) v → (∀ (Q : Bool → Hp → Prop), (∀ H2, Ex H1 H2 → Q (p z) H2) → tt ((wipe σ [j]).set j (some v)) H1 Q) ∧ (p z = true → EvEb X scope elt ((wipe σ [j]).set j (some v)) H1 (Isf g (F z))))
    (hf : ∀ x, foldedSetIterable iter X.env x = pure x := by intro _; rfl) :
    EvE X (.ListComp elt [⟨.Name x px, iter, ifs, 0⟩] scope pos) σ H (Isf g (.list ((l.filter p).map F))) := fun H1 e1 Q q => by
  obtain ⟨wi, hi, h⟩ := h
  refine w_E (pe_lc (te := tEb X scope elt) hc hN hi ok hg ht (fun s H0 C cl fp => ⟨fun pins s' σ' H' Q' I hh => hh s H0 C cl fp pins s' I⟩) hf) (h H1 e1 _ fun J H2 xs G e2 r W hG => ?_)
  have hlen : xs.length = l.length := by rw [r.length, List.length_map]
  refine lc_go (g := g) W (fun i => match l[i]? with | some z => p z | none => false) (fun i => match l[i]? with | some z => F z | none => .none) (by omega) (fun i hi => ?_) hG (fun i y H3 H4 hi e3 Y => ?_) (fun D H' e' _ d => ?_)
  · have hi' : i < l.length := by omega
    rw [List.getElem?_eq_getElem hi']
    exact him _ (List.getElem_mem hi')
  · obtain ⟨e, hy⟩ := Y
    subst e
    have hi' : i < l.length := by omega
    have hz := List.getElem?_eq_getElem hi'
    obtain ⟨v', hv', pv'⟩ := r.get (i := i) (d := enc l[i]) (by rw [List.getElem?_map, hz]; rfl)
    rw [hy] at hv'
    cases hv'
    obtain ⟨k1, k2⟩ := hs l[i] (List.getElem_mem hi') H4 y ((e1.trans e2).trans e3) (IsD.ex e3 _ _ pv')
    rw [hz]
    refine ⟨Ex.refl _, fun Q1 Q2 q1 q2 => ⟨wipe1 σ j (some y), k1 _ fun H5 e5 => ?_⟩⟩
    cases hp : p l[i] with
    | true =>
      rw [if_pos rfl]
      exact (k2 hp).use e5 fun y' H6 e6 py => q1 hp y' H6 (e5.trans e6) py
    | false =>
      rw [if_neg Bool.false_ne_true]
      exact q2 hp H5 e5
  · rw [hlen, filter_get l p F _ _ (fun i z hz => by rw [hz]; exact ⟨rfl, rfl⟩)] at d
    exact q _ H' (e2.trans e') d
/-- .. without a test -/
theorem ev_lc0 {α : Type} {l : List α} {enc F : α → PyData} {x : Str} {px : Pos} {j : Nat} {scope : Scope} {elt : Expr} (hc : X.calm = true) (hN : X.N.Nodup) (h : Src f X (.Name x px) iter σ H (l.map enc)) (ok : BlkOk X.N X.env.scope scope [(x, j)])
    (hl : l.length ≤ 100000) (him : ∀ z ∈ l, imm (F z) = true)
    (hg : ∀ (s : Shared) (H : Hp) (C : Addr) (cl : List (Str × Addr)) (fp : List Addr), PG (X.blk s H scope (compEnvC scope cl C X.env) fp) (.Name x px) (gName j))
    (hs : ∀ z ∈ l, ∀ H1 v, Ex H H1 → IsD f H1 (enc z) v → EvEb X scope elt ((wipe σ [j]).set j (some v)) H1 (Isf g (F z)))
    (hf : ∀ x, foldedSetIterable iter X.env x = pure x := by intro _; rfl) :
    EvE X (.ListComp elt [⟨.Name x px, iter, [], 0⟩] scope pos) σ H (Isf g (.list (l.map F))) := by
  have := ev_lc (pos := pos) (p := fun _ => true) (tt := tYes) hc hN h ok hl him hg (fun _ _ _ _ _ => pts_nil) (fun z hz H1 v e1 pv => ⟨fun Q q => q H1 (Ex.refl H1), fun _ => hs z hz H1 v e1 pv⟩) hf
  rw [filter_all] at this
  exact this
/-- .. with one test -/
theorem ev_lc1 {α : Type} {l : List α} {enc F : α → PyData} {p : α → Bool} {x : Str} {px : Pos} {j : Nat} {scope : Scope} {elt test : Expr} (hc : X.calm = true) (hN : X.N.Nodup) (h : Src f X (.Name x px) iter σ H (l.map enc)) (ok : BlkOk X.N X.env.scope scope [(x, j)])
    (hl : l.length ≤ 100000) (him : ∀ z ∈ l, imm (F z) = true)
    (hg : ∀ (s : Shared) (H : Hp) (C : Addr) (cl : List (Str × Addr)) (fp : List Addr), PG (X.blk s H scope (compEnvC scope cl C X.env) fp) (.Name x px) (gName j))
    (hs : ∀ z ∈ l, ∀ H1 v, Ex H H1 → IsD f H1 (enc z) v → EvTb X scope test ((wipe σ [j]).set j (some v)) H1 (p z) ∧ (p z = true → EvEb X scope elt ((wipe σ [j]).set j (some v)) H1 (Isf g (F z))))
    (hf : ∀ x, foldedSetIterable iter X.env x = pure x := by intro _; rfl) :
    EvE X (.ListComp elt [⟨.Name x px, iter, [test], 0⟩] scope pos) σ H (Isf g (.list ((l.filter p).map F))) :=
  ev_lc (pos := pos) (p := p) (tt := tTb X scope test) hc hN h ok hl him hg (fun s H0 C cl fp => pts_one ⟨fun pins s' σ' H' Q' I hh => hh s H0 C cl fp pins s' I⟩) (fun z hz H1 v e1 pv => ⟨fun Q q => (hs z hz H1 v e1 pv).1.use (Ex.refl H1) q, (hs z hz H1 v e1 pv).2⟩) hf
/-- what a comprehension with a pair for a target walks -/
def SrcP (f : Nat) (X : Cx) (tg iter : Expr) (σ : L2.St) (H : Hp) (ds es : List PyData) : Prop := ∃ wi, PI X tg iter wi ∧ ∀ H1, Ex H H1 → ∀ R : It → Hp → Prop,
  (∀ J H2 xs ys n G, Ex H1 H2 → IsAll f H2 ds xs → IsAll f H2 es ys → n = min xs.length ys.length → Walk J n G (YPair (fun i => xs[i]?) (fun i => ys[i]?)) → (∀ H', Ex H2 H' → G H') → R J H2) → wi σ H1 R
theorem walk_zipT {K : PySem.W.Frag} {a b : Addr} {xs ys : List V} {n : Nat} (hn : n = min xs.length ys.length) : Walk (RZ.ItzT K a b) n (fun H => Tu f H a xs ∧ Tu f H b ys) (YPair (fun i => xs[i]?) (fun i => ys[i]?)) where
  goes := fun i H hi hq => ⟨xs, ys, xs[i]'(by omega), ys[i]'(by omega), hq.1.sq, hq.2.sq, List.getElem?_eq_getElem _, List.getElem?_eq_getElem _⟩
  stops := fun H hq => ⟨xs, ys, hq.1.sq, hq.2.sq, by omega⟩
  yields := fun i H x H' hi hq y => by
    obtain ⟨T, u, v, e1, e2, e3, h1, h2⟩ := y
    exact ⟨T, u, v, e1, e2, e3, h1 xs (hq.1.sq), h2 ys (hq.2.sq)⟩
theorem src_zip {ds es' : List PyData} {p tpos : Pos} {elts : List Expr} {kk : Nat} (hm : X.mg "zip" = none) (h1 : EvE X a σ H (Isf f (.tuple ds))) (h2 : EvE X b σ H (Isf f (.tuple es'))) (hg : Gl X "zip" := by rfl) (hs : starEach [a, b] X.env = (false, eval a X.env) :: starEach [b] X.env := by rfl) (hs2 : starEach [b] X.env = (false, eval b X.env) :: starEach [] X.env := by rfl) (hpl : (backTo pos (starEach [b] X.env)).any (·.1) = false := by rfl) :
    SrcP f X (.Tuple elts kk tpos) (.Call (.Name "zip" p) [a, b] [] pos) σ H ds es' := ⟨_, RZ.pi_zipA hg hm (pa_cons (pE a) (pa_cons (pE b) pa_nil hs2) hs) hs hpl, fun H1 e1 R hR => h1 H1 e1 _ fun v H2 e2 p2 => h2 H2 (e1.trans e2) _ fun u H3 e3 p3 => by
  obtain ⟨a, xs, rfl, ha, r⟩ := is_tuple (IsD.ex e3 _ _ p2)
  obtain ⟨b, ys, rfl, hb, r'⟩ := is_tuple p3
  exact ⟨a, b, xs, ys, rfl, Or.inr ⟨ha.sq, hb.sq, hR _ H3 xs ys _ _ (e2.trans e3) r r' rfl (walk_zipT rfl) fun H' e' => ⟨ha.ex e', hb.ex e'⟩⟩⟩⟩
/-- [elt for x, y in ..] -/
theorem ev_lcP {α β : Type} {l : List α} {m : List β} {enc : α → PyData} {enc2 : β → PyData} {F : α × β → PyData} {x y : Str} {px py tp : Pos} {kk j k : Nat} {scope : Scope} {elt : Expr} (hc : X.calm = true) (hN : X.N.Nodup) (h : SrcP f X (.Tuple [.Name x px, .Name y py] kk tp) iter σ H (l.map enc) (m.map enc2)) (ok : BlkOk X.N X.env.scope scope [(x, j), (y, k)])
    (hjk : j ≠ k) (hl : l.length ≤ 100000) (him : ∀ z ∈ l.zip m, imm (F z) = true)
    (hg : ∀ (s : Shared) (H : Hp) (C : Addr) (cl : List (Str × Addr)) (fp : List Addr), PG (X.blk s H scope (compEnvC scope cl C X.env) fp) (.Tuple [.Name x px, .Name y py] kk tp) (gTup X.K 2 (gCons (gName j) (gCons (gName k) gNil))))
    (hs : ∀ z ∈ l.zip m, ∀ H1 v u, Ex H H1 → IsD f H1 (enc z.1) v → IsD f H1 (enc2 z.2) u → EvEb X scope elt (((wipe σ [j, k]).set j (some v)).set k (some u)) H1 (Isf g (F z)))
    (hf : ∀ x, foldedSetIterable iter X.env x = pure x := by intro _; rfl) :
    EvE X (.ListComp elt [⟨.Tuple [.Name x px, .Name y py] kk tp, iter, [], 0⟩] scope pos) σ H (Isf g (.list ((l.zip m).map F))) := fun H1 e1 Q q => by
  obtain ⟨wi, hi, h⟩ := h
  refine w_E (pe_lc (te := tEb X scope elt) (tt := tYes) (own := [(x, j), (y, k)]) hc hN hi ok hg (fun _ _ _ _ _ => pts_nil) (fun s H0 C cl fp => ⟨fun pins s' σ' H' Q' I hh => hh s H0 C cl fp pins s' I⟩) hf) (h H1 e1 _ fun J H2 xs ys n G e2 r r' hn W hG => ?_)
  have hlen : xs.length = l.length := by rw [r.length, List.length_map]
  have hlen' : ys.length = m.length := by rw [r'.length, List.length_map]
  have hz : (l.zip m).length = n := by rw [List.length_zip, hn, hlen, hlen']
  refine lc_go (g := g) W (fun _ => true) (fun i => match (l.zip m)[i]? with | some z => F z | none => .none) (by omega) (fun i hi => ?_) hG (fun i y' H3 H4 hi e3 Y => ?_) (fun D H' e' _ d => ?_)
  · have hi' : i < (l.zip m).length := by omega
    rw [List.getElem?_eq_getElem hi']
    exact him _ (List.getElem_mem hi')
  · obtain ⟨t, v, u, rfl, ht, rfl, hv, hu⟩ := Y
    have hi' : i < (l.zip m).length := by omega
    have hi1 : i < l.length := by rw [List.length_zip] at hi'; omega
    have hi2 : i < m.length := by rw [List.length_zip] at hi'; omega
    have hzz : (l.zip m)[i]? = some (l[i], m[i]) := by rw [List.getElem?_eq_getElem hi', List.getElem_zip]
    obtain ⟨v', hv', pv'⟩ := r.get (i := i) (d := enc l[i]) (by rw [List.getElem?_map, List.getElem?_eq_getElem hi1]; rfl)
    obtain ⟨u', hu', pu'⟩ := r'.get (i := i) (d := enc2 m[i]) (by rw [List.getElem?_map, List.getElem?_eq_getElem hi2]; rfl)
    obtain rfl : v' = v := Option.some.inj (hv'.symm.trans hv)
    obtain rfl : u' = u := Option.some.inj (hu'.symm.trans hu)
    rw [hzz]
    have en : Ex H3 (upd H3 t (.tup [v', u'])) := Ex.new ht
    refine ⟨en, fun Q1 Q2 q1 q2 => ?_⟩
    refine ⟨t, [v', u'], rfl, SqT.of upd_same, rfl, v', [u'], rfl, u', [], rfl, rfl, ?_, ?_⟩
    · exact wipe2 σ hjk (some v') (some u')
    · show (if true = true then tEb X scope elt (((wipe σ [j, k]).set j (some v')).set k (some u')) (upd H3 t (.tup [v', u'])) Q1 else Q2 (upd H3 t (.tup [v', u'])))
      rw [if_pos rfl]
      exact (hs _ (List.mem_of_getElem? hzz) _ v' u' (((e1.trans e2).trans e3).trans en) (IsD.ex (e3.trans en) _ _ pv') (IsD.ex (e3.trans en) _ _ pu')).use (Ex.refl _) fun y' H6 e6 py => q1 rfl y' H6 e6 py
  · have ee := filter_get (l.zip m) (fun _ => true) F (fun _ => true) (fun i => match (l.zip m)[i]? with | some z => F z | none => .none) (fun i z hz => by rw [hz]; exact ⟨rfl, rfl⟩)
    rw [hz, filter_all (l.zip m)] at ee
    rw [ee] at d
    exact q _ H' (e2.trans e') d
/-! ### tuple(..), list(..) -/
theorem ev_tupleL {ds : List PyData} {p : Pos} (hm : X.mg "tuple" = none) (ha : EvE X a σ H (Isf f (.list ds))) (him : imms ds = true) (hg : Gl X "tuple" := by rfl) (na : starEach [a] X.env = (false, eval a X.env) :: starEach [] X.env := by rfl) (hf : f ≠ 2 := by decide) : EvE X (.Call (.Name "tuple" p) [a] [] pos) σ H (Isf f (.tuple ds)) := fun H1 e1 Q q =>
  w_E (pe_tupleOf hg hm (pE a) na) (ha H1 e1 _ fun v H2 e2 pv => by
    obtain ⟨p', xs, rfl, h, r⟩ := is_list pv
    exact Or.inl ⟨p', xs, rfl, SqL.of h, fun l hl => q _ _ (e2.trans (Ex.new hl)) (.tup (.of upd_same hf) (IsAll.ex (Ex.new hl) _ _ r))⟩)
theorem ev_listT {ds : List PyData} {p : Pos} (hm : X.mg "list" = none) (ha : EvE X a σ H (Isf f (.tuple ds))) (hg : Gl X "list" := by rfl) (na : starEach [a] X.env = (false, eval a X.env) :: starEach [] X.env := by rfl) : EvE X (.Call (.Name "list" p) [a] [] pos) σ H (Isf f (.list ds)) :=
  ev_callTy call_list_of hm (by decide +kernel) (ea_cons ha ea_nil na) (fun vs H1 _ ap Q q => by
    obtain ⟨v, rfl, p⟩ := allP1 ap
    obtain ⟨p', xs, rfl, h, r⟩ := is_tuple p
    exact ⟨p', xs, rfl, Or.inr h.sq, fun l hl => q _ _ (Ex.new hl) (.lst upd_same (IsAll.ex (Ex.new hl) _ _ r))⟩) hg (he := na)
/-! ### fields and methods -/
theorem ev_fld {f : Str} (ha : EvE X a σ H P) (hr : ∀ H1 v, Ex H H1 → P H1 v → ∃ p C dx fs u, v = .ref p ∧ H1 p = some (.ins C dx fs) ∧ Cls X.K C ∧ NoAttr X.K C f ∧ fs.lookup f = some u ∧ R H1 u)
    (hb : attributeBase a f X.env (eval a X.env) = eval a X.env := by rfl) : EvE X (.Attribute a f pos) σ H R := fun H1 e1 Q q =>
  w_E (pe_fld (pE a) hb) (ha H1 e1 _ fun v H2 e2 pv => by
    obtain ⟨p, C, dx, fs, u, e, h, c, n, l, r⟩ := hr H2 v (e1.trans e2) pv
    exact ⟨p, C, dx, fs, u, e, h, c, n, l, q u H2 e2 r⟩)
/-- a class's method by its promise -/
def DefM (P : Program) (w : World) (K : PySem.W.Frag) (mg : Str → Option Value) (base : Heap) (C : Addr) (k : Nat) (m : Str) (ps : List Str) (sp : Sp) : Prop :=
  Cls K C ∧ ∃ f fd, Meth K C m f ∧ Binds K fd ps [] ∧ FnOk P w K mg base CX0 k f fd ps sp
theorem ev_meth {k : Nat} {m : Str} {ps : List Str} {A : List T → T → Prop} {Ps : List T} {apos : Pos} {C : Addr} {pl : Sem Bool} (d : DefM X.prog X.w X.K X.mg X.base C k m ps (Prom A)) (hr : Room k X.A) [s1 : Sta P] (ho : EvE X a σ H P)
    (hi : ∀ H1 v, P H1 v → ∃ p dx fs, v = .ref p ∧ H1 p = some (.ins C dx fs) ∧ fs.lookup m = none) (ha : EvA X (e :: es) σ H Ps) (hA : A (P :: Ps) R)
    (hst : starEach (e :: es) X.env = (false, eval e X.env) :: starEach es X.env := by rfl) (hpl : (backTo pos (starEach es X.env)).any (·.1) = false := by rfl)
    (ht : eval (.Call (.Attribute a m apos) (e :: es) [] pos) X.env = (do
      let ov ← eval a X.env
      standAt apos.atName
      let (f, first) ← holding [ov] (getMethod ov m pl)
      callWith pos f first (backTo pos (starEach (e :: es) X.env)) (backToKw pos (keywordEach [] X.env))) := by rfl) : EvE X (.Call (.Attribute a m apos) (e :: es) [] pos) σ H R := fun H1 e1 Q q => by
  obtain ⟨c, f, fd, hm, hb, F⟩ := d
  exact w_E (pe_meth (pE a) c hm F hr hb .nil pass0 (pA (e :: es)) hst hpl ht) (ho H1 e1 _ fun v H2 e2 pv => by
    obtain ⟨p, dx, fs, rfl, h, l⟩ := hi H2 v pv
    refine ⟨p, dx, fs, rfl, h, l, ha H2 (e1.trans e2) _ fun vs H3 e3 ap => ?_⟩
    show Prom A (.ref p :: (vs ++ [])) H3 Q _
    rw [List.append_nil]
    exact ⟨P :: Ps, R, hA, .cons (s1.mono e3 pv) ap, fun v H4 e4 r => q v H4 ((e2.trans e3).trans e4) r⟩)
theorem ev_meth0 {k : Nat} {m : Str} {ps : List Str} {A : List T → T → Prop} {apos : Pos} {C : Addr} {pl : Sem Bool} (d : DefM X.prog X.w X.K X.mg X.base C k m ps (Prom A)) (hr : Room k X.A) (ho : EvE X a σ H P)
    (hi : ∀ H1 v, P H1 v → ∃ p dx fs, v = .ref p ∧ H1 p = some (.ins C dx fs) ∧ fs.lookup m = none) (hA : A [P] R)
    (ht : eval (.Call (.Attribute a m apos) [] [] pos) X.env = (do
      let ov ← eval a X.env
      standAt apos.atName
      let (f, first) ← holding [ov] (getMethod ov m pl)
      callWith pos f first (backTo pos (starEach [] X.env)) (backToKw pos (keywordEach [] X.env))) := by rfl) : EvE X (.Call (.Attribute a m apos) [] [] pos) σ H R := fun H1 e1 Q q => by
  obtain ⟨c, f, fd, hm, hb, F⟩ := d
  exact w_E (pe_meth0 (pE a) c hm F hr hb .nil pass0 ht) (ho H1 e1 _ fun v H2 e2 pv => by
    obtain ⟨p, dx, fs, rfl, h, l⟩ := hi H2 v pv
    refine ⟨p, dx, fs, rfl, h, l, ?_⟩
    show Prom A [.ref p] H2 Q E0
    exact ⟨[P], R, hA, .cons pv .nil, fun v H4 e4 r => q v H4 (e2.trans e4) r⟩)
end
end TG
set_option Elab.async false
set_option linter.all false
set_option maxRecDepth 100000
set_option maxHeartbeats 2000000
namespace TG
open PySem PySem.Spec PyProof.Rows L2
open Evl (Ex)
def topS (i : Nat) : Stmt := PySem.Challenge.pw_turngroups_s01_answers.main.body.getD i (.Pass ⟨0, 0, 0, 0⟩)
abbrev s_is_beyond : Stmt := topS 21
abbrev s_once : Stmt := topS 22
abbrev s_sums : Stmt := topS 23
abbrev s_each : Stmt := topS 24
abbrev s_placed : Stmt := topS 25
abbrev s_told : Stmt := topS 26
abbrev s_done : Stmt := topS 27
abbrev s_run : Stmt := topS 28
abbrev s_Relation_init : Stmt := inClass (topS 46) 0
abbrev s_Relation_holds : Stmt := inClass (topS 46) 1
abbrev s_do_stand : Stmt := topS 47
abbrev s_how : Stmt := topS 48
abbrev s_chained : Stmt := topS 49
abbrev s_number_at : Stmt := topS 56
abbrev s_is_within : Stmt := topS 57
abbrev s_has_own : Stmt := topS 58
abbrev s_is_own : Stmt := topS 59
abbrev s_step_at : Stmt := topS 60
abbrev s_program_at : Stmt := topS 61
abbrev s_program_of : Stmt := topS 62
abbrev s_condition_at : Stmt := topS 63
abbrev s_relation_of : Stmt := topS 64
abbrev s_row_of : Stmt := topS 65
abbrev s_program_numbers : Stmt := topS 66
abbrev s_relation_numbers : Stmt := topS 67
abbrev s_orders : Stmt := topS 69
abbrev s_all_signs : Stmt := topS 70
abbrev s_all_turns : Stmt := topS 71
abbrev s_signed : Stmt := topS 72
abbrev s_turned : Stmt := topS 73
abbrev s_behind : Stmt := topS 74
abbrev s_undone : Stmt := topS 75
abbrev s_unchanging : Stmt := topS 76
abbrev s_generated : Stmt := topS 77
abbrev s_orbit : Stmt := topS 78
abbrev s_rows_of : Stmt := topS 79
abbrev s_many_orbits : Stmt := topS 80
abbrev s_Desk_init : Stmt := inClass (topS 87) 0
abbrev s_Desk_put_size : Stmt := inClass (topS 87) 1
abbrev s_Desk_put_program : Stmt := inClass (topS 87) 2
abbrev s_Desk_is_turn : Stmt := inClass (topS 87) 3
abbrev s_Desk_are_turns : Stmt := inClass (topS 87) 4
abbrev s_Desk_group : Stmt := inClass (topS 87) 5
abbrev s_Desk_outcomes : Stmt := inClass (topS 87) 6
abbrev s_many_rows : Stmt := topS 88
abbrev s_size : Stmt := topS 89
abbrev s_program : Stmt := topS 90
abbrev s_compose : Stmt := topS 91
abbrev s_told_group : Stmt := topS 92
abbrev s_told_orbit : Stmt := topS 93
abbrev s_told_orbits : Stmt := topS 94
abbrev s_first_unlike : Stmt := topS 95
abbrev s_alike : Stmt := topS 96
abbrev s_group : Stmt := topS 97
abbrev s_goes_with : Stmt := topS 98
abbrev s_partner : Stmt := topS 99
abbrev s_chain : Stmt := topS 100
abbrev s_kept : Stmt := topS 101
abbrev s_of_turn : Stmt := topS 102
abbrev s_answer : Stmt := topS 103
abbrev s_answers : Stmt := topS 104
structure Txt (K : PySem.W.Frag) (mg : Str → Option Value) (CR CD : Addr) : Prop where
  b_abs : mg "abs" = none
  b_all : mg "all" = none
  b_any : mg "any" = none
  b_enumerate : mg "enumerate" = none
  b_int : mg "int" = none
  b_len : mg "len" = none
  b_list : mg "list" = none
  b_max : mg "max" = none
  b_range : mg "range" = none
  b_set : mg "set" = none
  b_sorted : mg "sorted" = none
  b_sum : mg "sum" = none
  b_tuple : mg "tuple" = none
  b_zip : mg "zip" = none
  c_ADD : ∃ t, mg "ADD" = some (.int 0 t)
  c_TIMES : ∃ t, mg "TIMES" = some (.int 1 t)
  c_REST : ∃ t, mg "REST" = some (.int 2 t)
  c_ABS : ∃ t, mg "ABS" = some (.int 3 t)
  c_SORT : ∃ t, mg "SORT" = some (.int 4 t)
  c_REVERSE : ∃ t, mg "REVERSE" = some (.int 5 t)
  c_ROTATE : ∃ t, mg "ROTATE" = some (.int 6 t)
  c_TAKE : ∃ t, mg "TAKE" = some (.int 7 t)
  c_DROP : ∃ t, mg "DROP" = some (.int 8 t)
  c_ABOVE : ∃ t, mg "ABOVE" = some (.int 9 t)
  c_ONCE : ∃ t, mg "ONCE" = some (.int 10 t)
  c_SUM : ∃ t, mg "SUM" = some (.int 11 t)
  c_GREATEST : ∃ t, mg "GREATEST" = some (.int 12 t)
  c_LEAST_steps : ∃ t, mg "LEAST_steps" = some (.int 13 t)
  c_COUNT : ∃ t, mg "COUNT" = some (.int 14 t)
  c_STEPS : ∃ t, mg "STEPS" = some (.int 15 t)
  c_SUMS : ∃ t, mg "SUMS" = some (.int 16 t)
  c_TWICE : ∃ t, mg "TWICE" = some (.int 17 t)
  c_MOST_NUMBERS : ∃ t, mg "MOST_NUMBERS" = some (.int 40 t)
  c_MOST_SIZE : ∃ t, mg "MOST_SIZE" = some (.int 1000000 t)
  c_EQUAL : ∃ t, mg "EQUAL" = some (.int 0 t)
  c_BAG : ∃ t, mg "BAG" = some (.int 1 t)
  c_NUMBERS_relations : ∃ t, mg "NUMBERS_relations" = some (.int 2 t)
  c_MOST : ∃ t, mg "MOST" = some (.int 3 t)
  c_LEAST_relations : ∃ t, mg "LEAST_relations" = some (.int 4 t)
  c_BEGINS : ∃ t, mg "BEGINS" = some (.int 5 t)
  c_LONG : ∃ t, mg "LONG" = some (.int 6 t)
  c_ANY : ∃ t, mg "ANY" = some (.int 0 t)
  c_HAS_NUMBERS : ∃ t, mg "HAS_NUMBERS" = some (.int 1 t)
  c_RISING : ∃ t, mg "RISING" = some (.int 2 t)
  c_NOT_BELOW : ∃ t, mg "NOT_BELOW" = some (.int 3 t)
  c_UNLIKE : ∃ t, mg "UNLIKE" = some (.int 4 t)
  c_AS_MANY : ∃ t, mg "AS_MANY" = some (.int 5 t)
  c_KEPT : ∃ t, mg "KEPT" = some (.int 0 t)
  c_BROKEN : ∃ t, mg "BROKEN" = some (.int 1 t)
  c_OFF : ∃ t, mg "OFF" = some (.int 2 t)
  c_MOST_STEPS : ∃ t, mg "MOST_STEPS" = some (.int 8 t)
  c_MOST_OWN : ∃ t, mg "MOST_OWN" = some (.int 99 t)
  c_MOST_REST : ∃ t, mg "MOST_REST" = some (.int 9 t)
  c_MOST_MANY : ∃ t, mg "MOST_MANY" = some (.int 9 t)
  c_MOST_ROW : ∃ t, mg "MOST_ROW" = some (.int 8 t)
  c_MOST_PLACES : ∃ t, mg "MOST_PLACES" = some (.int 4 t)
  c_MOST_HIGH : ∃ t, mg "MOST_HIGH" = some (.int 9 t)
  c_MOST_ROWS : ∃ t, mg "MOST_ROWS" = some (.int 130 t)
  t_NUMBERS_programs : ∃ a, mg "NUMBERS_programs" = some (.ref a) ∧ ∀ H, SqT K H a [.int 2, .int 1, .int 1, .int 2, .int 1, .int 0, .int 0, .int 0, .int 1, .int 0, .int 1, .int 0, .int 1]
  t_ROWS : ∃ a, mg "ROWS" = some (.ref a) ∧ ∀ H, SqT K H a [.int 0, .int 1, .int 0, .int 0, .int 0, .int 1, .int 2, .int 1, .int 0, .int 0, .int 0, .int 2, .int 1]
  g_Relation : mg "Relation" = some (.ref CR)
  cl_Relation : Cls K CR
  n_Relation_condition : NoAttr K CR "condition"
  n_Relation_own : NoAttr K CR "own"
  n_Relation_before : NoAttr K CR "before"
  n_Relation_stands : NoAttr K CR "stands"
  n_Relation_after : NoAttr K CR "after"
  m_Relation_init : ∃ f fd, Mk K CR f ∧ Fun K "__init__" "Relation.__init__" s_Relation_init f fd
  m_Relation_holds : ∃ f fd, Meth K CR "holds" f ∧ Fun K "holds" "Relation.holds" s_Relation_holds f fd
  g_Desk : mg "Desk" = some (.ref CD)
  cl_Desk : Cls K CD
  n_Desk_places : NoAttr K CD "places"
  n_Desk_rows : NoAttr K CD "rows"
  n_Desk_turns : NoAttr K CD "turns"
  n_Desk_programs : NoAttr K CD "programs"
  m_Desk_init : ∃ f fd, Mk K CD f ∧ Fun K "__init__" "Desk.__init__" s_Desk_init f fd
  m_Desk_put_size : ∃ f fd, Meth K CD "put_size" f ∧ Fun K "put_size" "Desk.put_size" s_Desk_put_size f fd
  m_Desk_put_program : ∃ f fd, Meth K CD "put_program" f ∧ Fun K "put_program" "Desk.put_program" s_Desk_put_program f fd
  m_Desk_is_turn : ∃ f fd, Meth K CD "is_turn" f ∧ Fun K "is_turn" "Desk.is_turn" s_Desk_is_turn f fd
  m_Desk_are_turns : ∃ f fd, Meth K CD "are_turns" f ∧ Fun K "are_turns" "Desk.are_turns" s_Desk_are_turns f fd
  m_Desk_group : ∃ f fd, Meth K CD "group" f ∧ Fun K "group" "Desk.group" s_Desk_group f fd
  m_Desk_outcomes : ∃ f fd, Meth K CD "outcomes" f ∧ Fun K "outcomes" "Desk.outcomes" s_Desk_outcomes f fd
  f_is_beyond : ∃ f fd, mg "is_beyond" = some (.ref f) ∧ Fun K "is_beyond" "is_beyond" s_is_beyond f fd
  f_once : ∃ f fd, mg "once" = some (.ref f) ∧ Fun K "once" "once" s_once f fd
  f_sums : ∃ f fd, mg "sums" = some (.ref f) ∧ Fun K "sums" "sums" s_sums f fd
  f_each : ∃ f fd, mg "each" = some (.ref f) ∧ Fun K "each" "each" s_each f fd
  f_placed : ∃ f fd, mg "placed" = some (.ref f) ∧ Fun K "placed" "placed" s_placed f fd
  f_told : ∃ f fd, mg "told" = some (.ref f) ∧ Fun K "told" "told" s_told f fd
  f_done : ∃ f fd, mg "done" = some (.ref f) ∧ Fun K "done" "done" s_done f fd
  f_run : ∃ f fd, mg "run" = some (.ref f) ∧ Fun K "run" "run" s_run f fd
  f_do_stand : ∃ f fd, mg "do_stand" = some (.ref f) ∧ Fun K "do_stand" "do_stand" s_do_stand f fd
  f_how : ∃ f fd, mg "how" = some (.ref f) ∧ Fun K "how" "how" s_how f fd
  f_chained : ∃ f fd, mg "chained" = some (.ref f) ∧ Fun K "chained" "chained" s_chained f fd
  f_number_at : ∃ f fd, mg "number_at" = some (.ref f) ∧ Fun K "number_at" "number_at" s_number_at f fd
  f_is_within : ∃ f fd, mg "is_within" = some (.ref f) ∧ Fun K "is_within" "is_within" s_is_within f fd
  f_has_own : ∃ f fd, mg "has_own" = some (.ref f) ∧ Fun K "has_own" "has_own" s_has_own f fd
  f_is_own : ∃ f fd, mg "is_own" = some (.ref f) ∧ Fun K "is_own" "is_own" s_is_own f fd
  f_step_at : ∃ f fd, mg "step_at" = some (.ref f) ∧ Fun K "step_at" "step_at" s_step_at f fd
  f_program_at : ∃ f fd, mg "program_at" = some (.ref f) ∧ Fun K "program_at" "program_at" s_program_at f fd
  f_program_of : ∃ f fd, mg "program_of" = some (.ref f) ∧ Fun K "program_of" "program_of" s_program_of f fd
  f_condition_at : ∃ f fd, mg "condition_at" = some (.ref f) ∧ Fun K "condition_at" "condition_at" s_condition_at f fd
  f_relation_of : ∃ f fd, mg "relation_of" = some (.ref f) ∧ Fun K "relation_of" "relation_of" s_relation_of f fd
  f_row_of : ∃ f fd, mg "row_of" = some (.ref f) ∧ Fun K "row_of" "row_of" s_row_of f fd
  f_program_numbers : ∃ f fd, mg "program_numbers" = some (.ref f) ∧ Fun K "program_numbers" "program_numbers" s_program_numbers f fd
  f_relation_numbers : ∃ f fd, mg "relation_numbers" = some (.ref f) ∧ Fun K "relation_numbers" "relation_numbers" s_relation_numbers f fd
  f_orders : ∃ f fd, mg "orders" = some (.ref f) ∧ Fun K "orders" "orders" s_orders f fd
  f_all_signs : ∃ f fd, mg "all_signs" = some (.ref f) ∧ Fun K "all_signs" "all_signs" s_all_signs f fd
  f_all_turns : ∃ f fd, mg "all_turns" = some (.ref f) ∧ Fun K "all_turns" "all_turns" s_all_turns f fd
  f_signed : ∃ f fd, mg "signed" = some (.ref f) ∧ Fun K "signed" "signed" s_signed f fd
  f_turned : ∃ f fd, mg "turned" = some (.ref f) ∧ Fun K "turned" "turned" s_turned f fd
  f_behind : ∃ f fd, mg "behind" = some (.ref f) ∧ Fun K "behind" "behind" s_behind f fd
  f_undone : ∃ f fd, mg "undone" = some (.ref f) ∧ Fun K "undone" "undone" s_undone f fd
  f_unchanging : ∃ f fd, mg "unchanging" = some (.ref f) ∧ Fun K "unchanging" "unchanging" s_unchanging f fd
  f_generated : ∃ f fd, mg "generated" = some (.ref f) ∧ Fun K "generated" "generated" s_generated f fd
  f_orbit : ∃ f fd, mg "orbit" = some (.ref f) ∧ Fun K "orbit" "orbit" s_orbit f fd
  f_rows_of : ∃ f fd, mg "rows_of" = some (.ref f) ∧ Fun K "rows_of" "rows_of" s_rows_of f fd
  f_many_orbits : ∃ f fd, mg "many_orbits" = some (.ref f) ∧ Fun K "many_orbits" "many_orbits" s_many_orbits f fd
  f_many_rows : ∃ f fd, mg "many_rows" = some (.ref f) ∧ Fun K "many_rows" "many_rows" s_many_rows f fd
  f_size : ∃ f fd, mg "size" = some (.ref f) ∧ Fun K "size" "size" s_size f fd
  f_program : ∃ f fd, mg "program" = some (.ref f) ∧ Fun K "program" "program" s_program f fd
  f_compose : ∃ f fd, mg "compose" = some (.ref f) ∧ Fun K "compose" "compose" s_compose f fd
  f_told_group : ∃ f fd, mg "told_group" = some (.ref f) ∧ Fun K "told_group" "told_group" s_told_group f fd
  f_told_orbit : ∃ f fd, mg "told_orbit" = some (.ref f) ∧ Fun K "told_orbit" "told_orbit" s_told_orbit f fd
  f_told_orbits : ∃ f fd, mg "told_orbits" = some (.ref f) ∧ Fun K "told_orbits" "told_orbits" s_told_orbits f fd
  f_first_unlike : ∃ f fd, mg "first_unlike" = some (.ref f) ∧ Fun K "first_unlike" "first_unlike" s_first_unlike f fd
  f_alike : ∃ f fd, mg "alike" = some (.ref f) ∧ Fun K "alike" "alike" s_alike f fd
  f_group : ∃ f fd, mg "group" = some (.ref f) ∧ Fun K "group" "group" s_group f fd
  f_goes_with : ∃ f fd, mg "goes_with" = some (.ref f) ∧ Fun K "goes_with" "goes_with" s_goes_with f fd
  f_partner : ∃ f fd, mg "partner" = some (.ref f) ∧ Fun K "partner" "partner" s_partner f fd
  f_chain : ∃ f fd, mg "chain" = some (.ref f) ∧ Fun K "chain" "chain" s_chain f fd
  f_kept : ∃ f fd, mg "kept" = some (.ref f) ∧ Fun K "kept" "kept" s_kept f fd
  f_of_turn : ∃ f fd, mg "of_turn" = some (.ref f) ∧ Fun K "of_turn" "of_turn" s_of_turn f fd
  f_answer : ∃ f fd, mg "answer" = some (.ref f) ∧ Fun K "answer" "answer" s_answer f fd
  f_answers : ∃ f fd, mg "answers" = some (.ref f) ∧ Fun K "answers" "answers" s_answers f fd

section
variable {P : Program} {w : World} {K : PySem.W.Frag} {mg : Str → Option Value} {base : Heap}
/-- a def's body keeps its promise -/
def BodyOk (P : Program) (w : World) (K : PySem.W.Frag) (mg : Str → Option Value) (base : Heap) (N : List Str) (qual : Str) (st : Stmt) (k : Nat) (A : List T → T → Prop) : Prop :=
  ∀ (f : Addr) (cdv : Value) (A0 : Around) (outer : List Env) (s : Shared) (H : Hp) (E : XK) (vs : List V) (Ps : List T) (R : T) (Q : VK),
    Room k (A0.deeper (envOfC qual (defScope st) s.heap.objs.size f cdv)) → A Ps R → AllP H Ps vs → (∀ v H', Ex H H' → R H' v → Q v H') →
    tSs (cxOf CX0 P w K mg base N qual (defScope st) f cdv A0 outer s H E).nox (defBody st) { nx := fun _ H' => Q .non H', rt := Q } (start N vs) H
theorem allP_len {H : Hp} : ∀ {Ps : List T} {vs : List V}, AllP H Ps vs → vs.length = Ps.length
  | _, _, .nil => rfl
  | _, _, .cons _ r => congrArg (· + 1) (allP_len r)
theorem def_of {name qual : Str} {st : Stmt} {N ps : List Str} {k : Nat} {A : List T → T → Prop} (F : ∃ f fd, mg name = some (.ref f) ∧ Fun K name qual st f fd) (S : FnScope N ps (defScope st)) (hl : ∀ Ps R, A Ps R → Ps.length = ps.length)
    (hb : ∀ (kV doc pm : Value) (an : Option Addr) (cdv ct : Value) (us : List Value), us.length = ps.length → bindArgs (PySem.W.fnOf name qual (defArgs st) (defBody st) (defScope st) .none kV doc pm an cdv ct) ⟨us, []⟩ = pure (ps.zip us))
    (h : BodyOk P w K mg base N qual st k A) : Def P w K mg base (k + 1) name ps (Prom A) := by
  obtain ⟨f, fd, hm, F⟩ := F
  refine ⟨f, fd, hm, F.kp, F.binds hb, F.ok S ?_ ?_⟩
  · rintro vs H Q E ⟨Ps, R, hA, ap, _⟩
    rw [allP_len ap, hl Ps R hA]
  · rintro cdv A0 outer s H vs Q E hr ⟨Ps, R, hA, ap, hq⟩
    exact ⟨_, pSs _, h f cdv A0 outer s H E vs Ps R Q hr hA ap hq⟩
theorem defM_of {name qual : Str} {st : Stmt} {N ps : List Str} {k : Nat} {A : List T → T → Prop} {C : Addr} (c : Cls K C) (F : ∃ f fd, Meth K C name f ∧ Fun K name qual st f fd) (S : FnScope N ps (defScope st)) (hl : ∀ Ps R, A Ps R → Ps.length = ps.length)
    (hb : ∀ (kV doc pm : Value) (an : Option Addr) (cdv ct : Value) (us : List Value), us.length = ps.length → bindArgs (PySem.W.fnOf name qual (defArgs st) (defBody st) (defScope st) .none kV doc pm an cdv ct) ⟨us, []⟩ = pure (ps.zip us))
    (h : BodyOk P w K mg base N qual st k A) : DefM P w K mg base C (k + 1) name ps (Prom A) := by
  obtain ⟨f, fd, hm, F⟩ := F
  refine ⟨c, f, fd, hm, F.binds hb, F.ok S ?_ ?_⟩
  · rintro vs H Q E ⟨Ps, R, hA, ap, _⟩
    rw [allP_len ap, hl Ps R hA]
  · rintro cdv A0 outer s H vs Q E hr ⟨Ps, R, hA, ap, hq⟩
    exact ⟨_, pSs _, h f cdv A0 outer s H E vs Ps R Q hr hA ap hq⟩
end
end TG
set_option Elab.async false
set_option linter.all false
set_option maxRecDepth 100000
set_option maxHeartbeats 2000000
namespace TG
open PySem PySem.Spec PyProof.Rows L2
open Evl (Ex ex_l ex_t fresh_back)
section
variable {X : Cx} {σ : L2.St} {H H' : Hp} {a b c e : Expr} {es : List Expr} {P P' P1 P2 R : T} {pos : Pos} {i j : Int}
/-! ### t.index(k), ints -/
theorem flat_ints (ys : List Int) : (ys.map V.int).all flatV = true := by
  induction ys with
  | nil => rfl
  | cons a l ih =>
    rw [List.map_cons, List.all_cons, ih]
    rfl
def rTupIx (K : PySem.W.Frag) : V → List V → Hp → VK → Prop := fun x xs H Q => ∃ p, ∃ ys : List Int, ∃ z j, x = .ref p ∧ xs = [.int z] ∧ SqT K H p (ys.map V.int) ∧ ys[j]? = some z ∧ (∀ m, m < j → ys[m]? ≠ some z) ∧ Q (.int (j : Nat)) H
theorem mt_tupix : MtR X "tuple.index" (rTupIx X.K) := by
  intro pins s σ H x xs v us Q I rx rs h
  obtain ⟨p, ys, z, j, rfl, rfl, hq, hy, hno, q⟩ := h
  cases rx
  obtain ⟨u, rfl, t, rfl⟩ := vals1 rs
  obtain ⟨its, r, pl, hz⟩ := I.tuple hq
  obtain ⟨⟨cls, dd, dt, sl⟩, ho, hc, n, hd⟩ := pl
  simp only at hc hd
  subst hc
  subst hd
  have hl : its.toArray.size = ys.length := by rw [List.size_toArray, ← r.length, List.length_map]
  have hj : j < its.toArray.size := by rw [hl]; exact (List.getElem?_eq_some_iff.mp hy).1
  have at' : ∀ (m : Nat) (hm : m < its.toArray.size), ∃ y t', ys[m]? = some y ∧ its.toArray[m] = Value.int y t' := fun m hm => by
    have hm' : m < ys.length := by rw [← hl]; exact hm
    obtain ⟨w, hw, t', hw'⟩ := r.get (i := m) (x := .int ys[m]) (by simp [hm'])
    refine ⟨ys[m], t', List.getElem?_eq_getElem hm', ?_⟩
    have e := (List.getElem?_eq_some_iff.mp hw).2
    rw [← hw', ← e]
    simp
  refine call_meets PySem.F.slot_tuple_index ⟨_, ho, rfl⟩ PySem.F.entry_tuple_index (PySem.F.args_tuple_index_2 _ _) (TI.tuple_indexAt p its.toArray n dd sl (.int z t) (eqU (.int z)) j hj ?_ ?_)
    ⟨ho, fun w hw => mem_eqAt (x := .int z) ⟨t, rfl⟩ rfl r (flat_ints ys) w (by simpa using hw), ⟨.int (j : Nat), H, I.tok _, ⟨_, rfl⟩, q⟩⟩
  · obtain ⟨y, t', h1, h2⟩ := at' j hj
    rw [hy] at h1
    cases h1
    rw [h2]
    show (z == z) = true
    exact beq_self_eq_true z
  · intro m hm hmj
    obtain ⟨y, t', h1, h2⟩ := at' m hm
    rw [h2]
    show (y == z) = false
    exact beq_eq_false_iff_ne.mpr fun e => hno m hmj (e ▸ h1)
end
/-! ### t * k -/
section
variable {prog : Program} {w : World} {A : Around} {E : Value → Shared → Prop} {s : Shared}
theorem tuple_mul1 {l : Addr} {items : Array Value} {t : Tok} {P : PySem.Fin → Shared → Prop} (ht : IsTup s.heap l items) (h : P (.done (.ret (.ref l))) s) : wpAny (model prog w) A (Builtin.«tuple.__mul__» ⟨[.ref l, .int 1 t], []⟩) P E s := by
  show wpAny _ _ (asIndex (.int 1 t) >>= _) P E s
  refine wpAny_bind (m := asIndex (.int 1 t)) (wpAny_of_eq (a := (1 : Int)) rfl ?_)
  refine wpAny_bind (PyProof.Rows.tupleItemsOf_ ht ?_)
  show wpAny _ _ (if (items.isEmpty || (1 : Int) == 1) = true then (Builtin.Tuple.tupleIsExact (.ref l) >>= _) else _) P E s
  rw [if_pos (by simp)]
  refine wpAny_bind (wpAny_bind (wpAny_typeOf ht.typeIs (wpAny_pure ?_)))
  show wpAny _ _ (if (Value.type "tuple" == Value.type "tuple") = true then _ else _) P E s
  rw [if_pos (by decide)]
  exact wpAny_bind (wpAny_rule (wpAny_pure h))
theorem tuple_mul0 {l : Addr} {items : Array Value} {t : Tok} {P : PySem.Fin → Shared → Prop} (ht : IsTup s.heap l items) (hi : items.isEmpty = false) (h : P (.done (.ret (.ref s.heap.objs.size))) { s with heap := s.heap.push { cls := .type "tuple", data := .seq #[] } }) : wpAny (model prog w) A (Builtin.«tuple.__mul__» ⟨[.ref l, .int 0 t], []⟩) P E s := by
  show wpAny _ _ (asIndex (.int 0 t) >>= _) P E s
  refine wpAny_bind (m := asIndex (.int 0 t)) (wpAny_of_eq (a := (0 : Int)) rfl ?_)
  refine wpAny_bind (PyProof.Rows.tupleItemsOf_ ht ?_)
  show wpAny _ _ (if (items.isEmpty || (0 : Int) == 1) = true then _ else (if (decide ((0 : Int) ≤ 0) || items.isEmpty) = true then (Builtin.Tuple.tupleExact #[] >>= _) else _)) P E s
  rw [if_neg (by rw [hi]; decide), if_pos (by simp)]
  exact wpAny_bind (m := Builtin.Tuple.tupleExact _) (wpAny_newObj_type (wpAny_pure h))
end
section
variable {X : Cx}
def rRep01 (K : PySem.W.Frag) : R2 := fun x y H Q => ∃ l k xs, x = .ref l ∧ y = .int k ∧ SqT K H l xs ∧ xs ≠ [] ∧ ((k = 1 ∧ Q (.ref l) H) ∨ (k = 0 ∧ ∀ p, H p = none → Q (.ref p) (upd H p (.tup []))))
theorem op_rep01 : OpR X (binaryOp .Mult) (rRep01 X.K) := by
  intro pins s σ H x y v u Q I rx ry h
  obtain ⟨l, k, xs, rfl, rfl, hT, hne, q⟩ := h
  cases rx
  obtain ⟨t, rfl⟩ := ry
  obtain ⟨its, r, hs0, hs⟩ := I.tuple hT
  have hs1 := hs0
  obtain ⟨⟨cls, dd, data, sl⟩, ho, hc, n, hd⟩ := hs0
  simp only at hc hd
  subst hc hd
  have hle : its.length = xs.length := r.length.symm
  have hn : its ≠ [] := fun e => hne (by
    rw [e] at hle
    exact List.eq_nil_of_length_eq_zero hle.symm)
  have hi : its.toArray.isEmpty = false := by
    cases its with
    | nil => exact absurd rfl hn
    | cons a b => rfl
  refine wpAny_binaryOp_repeat_ref (T := "tuple") (U := "int") (by decide) ⟨_, ho, rfl⟩ (fun s' => typeIs_int s' k t) noFill_tuple_mul PySem.F.fills_int_mul PySem.F.slot_int_rmul repeat_tuple PySem.F.slot_int_index.lookup
    (call_meets PySem.F.slot_int_rmul (typeIs_int s k t) PySem.F.entry_int_rmul (PySem.F.args_int_rmul_2 _ _) (int_rmul_tuple k t l its.toArray n dd sl)
      ⟨ho, rfl, ⟨_, ho, rfl⟩, ?_⟩)
  rcases q with ⟨rfl, q⟩ | ⟨rfl, q⟩
  · exact wpAny_call_entry PySem.F.slot_tuple_mul ⟨_, ho, rfl⟩ PySem.F.entry_tuple_mul (tuple_mul1 hs1 ⟨_, rfl, .ref l, H, I, rfl, q⟩) (PySem.F.args_tuple_mul_2 _ _)
  · refine wpAny_call_entry PySem.F.slot_tuple_mul ⟨_, ho, rfl⟩ PySem.F.entry_tuple_mul (tuple_mul0 hs1 hi ⟨_, rfl, ?_⟩) (PySem.F.args_tuple_mul_2 _ _)
    refine ⟨.ref s.heap.objs.size, _, I.laid (t' := s.toks) (o := .tup []) (fun b ob q => Heap.get?_push_of_some _ q) (Nat.le_refl _) ?_, rfl, q _ (I.hok.fresh (Nat.le_refl _))⟩
    exact ⟨Nat.zero_le _, [], .nil, IsTup.new _ _⟩
end
end TG
set_option Elab.async false
set_option linter.all false
set_option maxRecDepth 100000
set_option maxHeartbeats 2000000
namespace TG
open PySem PySem.Spec PyProof.Rows L2
section
variable {X : Cx}
/-! ### sum(t), sorted(t) -/
def rSumT (K : PySem.W.Frag) : List V → Hp → VK → Prop := fun vs H Q => ∃ (a : Addr) (ns : List Int), vs = [V.ref a] ∧ SqT K H a (ns.map V.int) ∧ Q (.int ns.sum) H
theorem cr_sumT (hc : X.calm = true) : CallR X (.builtin "sum") (rSumT X.K) := by
  intro pins s σ H xs us Q I r h
  obtain ⟨a, ns, rfl, hT, q⟩ := h
  obtain ⟨u, rfl, rx⟩ := vals1 r
  cases rx
  obtain ⟨its, rv, ht, hz⟩ := I.tuple hT
  have hi := intsAre_of rv
  obtain ⟨xs, e⟩ := hi.allInts.items
  have hn : numsOf (intItems xs).toList = ns := by rw [← e]; exact hi.numsOf
  rw [nums_intItems] at hn
  rw [e] at ht
  refine PySem.W.ktm_sumG (I.ok.hd hc) (show s.heap.IsTuple a (intItems xs) from ht) fun h' tk t' hk => ?_
  refine ⟨.int ns.sum, H, I.kept hk, ⟨t', ?_⟩, q⟩
  rw [preSum_eq, List.take_of_length_le (by simp), hn]
def rSortedIT (K : PySem.W.Frag) : List V → Hp → VK → Prop := fun vs H Q => ∃ (a : Addr) (ns : List Int), vs = [V.ref a] ∧ SqT K H a (ns.map V.int) ∧
  ∀ (ns' : List Int) (p : Addr), ns'.Perm ns → ns'.Pairwise (· ≤ ·) → H p = none → Q (.ref p) (upd H p (.lst (ns'.map V.int)))
theorem cr_sortedIT : CallR X (.builtin "sorted") (rSortedIT X.K) := by
  intro pins s σ H xs us Q I r h
  obtain ⟨a, ns, rfl, hT, q⟩ := h
  obtain ⟨u, rfl, rx⟩ := vals1 r
  cases rx
  obtain ⟨its, rv, ht, hz⟩ := I.tuple hT
  have hi := intsAre_of rv
  have hl : its.length = ns.length := by rw [← rv.length, List.length_map]
  have h16 : its.length ≤ sizeLine := by rw [hl]; rw [List.length_map] at hz; exact hz
  obtain ⟨o, ho, hc, n, hd⟩ := id ht
  refine Calls.call_function_entry PyProof.Rows.kind_sorted PyProof.Rows.plain_sorted PyProof.Rows.entry_sorted (PyProof.Rows.args_sorted1 _) ?_
  unfold Builtin.«sorted»
  refine wpAny_bind (m := checkCount "sorted" 1 1 _) (wpAny_pure ?_)
  refine wpAny_bind (wpAny_collect_seq a (.inr rfl) ho hc hd (fun h' hk => ?_) (by simpa using h16))
  have I1 : Inv X pins σ H { s with heap := h' } := I.kept (t' := s.toks) hk
  refine wpAny_bind (wpAny_newList ?_ (by simpa using h16))
  have hoL : (h'.push (seqObj "list" its.toArray 0)).get? h'.objs.size = some (seqObj "list" its.toArray 0) := Heap.get?_push_size _ rfl
  show wpAny _ _ _ _ _ { s with heap := h'.push (seqObj "list" its.toArray 0) }
  refine wpAny_bind (wpAny_holding (wpAny_call_entry PyProof.Rows.slot_list_sort ⟨_, hoL, rfl⟩ PyProof.Rows.entry_list_sort
    (SrtO.list_sort_ord (s := { s with heap := h'.push (seqObj "list" its.toArray 0) }) SrtO.swo_int hoL h16 (fun h2 => SrtO.ints_sortable hi h2) fun out g1 g2 => ⟨_, rfl, ?_⟩) (PyProof.Rows.args_list_sort _)))
  obtain ⟨k1, k2, k3⟩ := SrtO.ints_out hi g1 g2
  obtain ⟨e', he'⟩ := PyProof.Rows.sortedHeap_at (vs := its) (out := out.toArray) hoL
  have hlen : ((out.map SrtO.iv).map V.int).length ≤ sizeLine := by
    rw [List.length_map, k2.length_eq, ← hl]
    exact h16
  refine wpAny_pure ⟨_, rfl, .ref h'.objs.size, upd H h'.objs.size (.lst ((out.map SrtO.iv).map V.int)), I1.laid (t' := s.toks) (fun b u e => ?_) (Nat.le_refl _)
    (show ObjOk X.prog X.w _ _ _ (.lst ((out.map SrtO.iv).map V.int)) from ⟨hlen, out, e', vals_of_ints k1, he'⟩), rfl, q _ _ k2 k3 (I1.hok.fresh (Nat.le_refl _))⟩
  have hb : b < h'.objs.size := Heap.lt_size e
  rw [PyProof.Rows.sortedHeap_old (Nat.ne_of_lt hb) (by rw [size_push']; exact Nat.lt_succ_of_lt hb)]
  exact Heap.get?_push_of_some _ e
end
end TG
set_option Elab.async false
set_option linter.all false
set_option maxRecDepth 100000
set_option maxHeartbeats 2000000
namespace TG
open PySem PySem.Spec PyProof.Rows L2
open Evl (Ex)
open PySem.W (EachIs AllAlike Sortable dataLe dataLt alike alikeAll)
/-! ### sorted(d), d a dict with keys that are tuples of ints -/
def leRow (a b : List Int) : Bool := decide (a ≤ b)
theorem dataLe_tups : dataLe false dRow = leRow := by
  funext p q
  show (!dataLt (.tuple (q.map .int)) (.tuple (p.map .int))) = decide (p ≤ q)
  rw [PySem.W.dataLt_tuple]
  show (!PySem.W.rowLt (q.map .int) (p.map .int)) = _
  rw [PySem.W.dataLt_ints]
  by_cases h : q < p
  · have h' : ¬ p ≤ q := fun r => List.not_lt.mpr r h
    simp [h, h']
  · have h' : p ≤ q := List.not_lt.mp h
    simp [h, h']
theorem readsAll_ints {h : Heap} : ∀ {k : List Int} {vs : List Value} {as : List Addr}, ReadsAll h vs (k.map .int) as → as = []
  | [], _, _, .nil => rfl
  | i :: k, _, _, .cons r1 r2 => by
    cases r1
    rw [readsAll_ints r2]
    rfl
theorem reads_row {h : Heap} {k : List Int} {v : Value} {as : List Addr} (r : Reads h v (dRow k) as) : as = [] := by
  cases r with
  | tuple h1 h2 h3 h4 => exact readsAll_ints h4
theorem alike_all_ints : ∀ (a b : List Int), alikeAll (a.map PyData.int) (b.map PyData.int) = true := PySem.W.alike_ints
theorem alike_rows (l : List (List Int)) : AllAlike (l.map dRow) := AllAlike.of fun b b' => by
  show alike (.tuple (b.map .int)) (.tuple (b'.map .int)) = true
  simpa [alike] using PySem.W.alike_ints b b'
theorem depth_row (k : List Int) : (dRow k).depth = 1 := by
  show PyData.depthAll (k.map .int) + 1 = 1
  rw [PySem.W.depth_ints]
/-- values that stand for rows -/
def RowV (H : Hp) (u : Value) (k : List Int) : Prop := ∃ a, u = .ref a ∧ H a = some (.tup (k.map V.int))
theorem each_rows {H : Hp} : ∀ {us : List Value} {ks : List (List Int)}, EachIs (RowV H) us ks → ∃ vs, Vals vs us ∧ IsAll 0 H (ks.map dRow) vs
  | _, _, .nil => ⟨[], .nil, .nil⟩
  | _, _, .cons h r => by
    obtain ⟨a, rfl, ha⟩ := h
    obtain ⟨vs, h1, h2⟩ := each_rows r
    exact ⟨.ref a :: vs, .cons rfl h1, .cons (row_is ha) h2⟩
theorem each_reads {X : Cx} {pins : List (Addr × Obj)} {σ : L2.St} {H : Hp} {s : Shared} (I : Inv X pins σ H s) : ∀ {us : List Value} {ks : List (List Int)}, EachIs (RowV H) us ks → EachIs (fun v b => ∃ as, Reads s.heap v (dRow b) as) us ks
  | _, _, .nil => .nil
  | _, _, .cons h r => by
    obtain ⟨a, rfl, ha⟩ := h
    exact .cons (Dp.reads I (dRow _) (.ref a) (.ref a) (IsD.dp _ _ (row_is ha)) rfl) (each_reads I r)
theorem map_kV (k : List Int) : (k.map Sum.inl : List L2.Key).map kV = k.map V.int := by
  rw [List.map_map]
  rfl
theorem kt_rows {H : Hp} : ∀ {kvs : List (List L2.Key × V)} {xs : List (List L2.Key × Addr × Value)} {ks : List (List Int)}, KT H kvs xs → kvs.map (·.1) = ks.map (fun k => k.map Sum.inl) → EachIs (RowV H) (xs.map fun x => Value.ref x.2.1) ks
  | [], _, [], .nil, _ => .nil
  | [], _, _ :: _, _, e => by simp at e
  | _ :: _, _, [], _, e => by simp at e
  | p :: kvs, _, k :: ks, .cons h r, e => by
    rw [List.map_cons, List.map_cons] at e
    injection e with e1 e2
    refine .cons ⟨_, rfl, ?_⟩ (kt_rows r e2)
    have := h.2.1
    rw [e1, map_kV] at this
    exact this
section
variable {X : Cx}
theorem perm_short {α : Type} {l m : List α} (h : l.Perm m) (h2 : m.length < 2) : l = m := by
  match m, h2 with
  | [], _ => exact List.Perm.eq_nil h
  | [a], _ => exact List.perm_singleton.mp h
theorem swo_none : SrtO.Swo (fun (_ _ : Value) => false) := ⟨fun _ _ h => absurd h Bool.false_ne_true, fun _ _ _ _ _ => rfl⟩
def rSortedDT : List V → Hp → VK → Prop := fun xs H Q => ∃ (d : Addr) (kvs : List (List L2.Key × V)) (ks : List (List Int)), xs = [.ref d] ∧ H d = some (.dT kvs) ∧ kvs.map (·.1) = ks.map (fun k => k.map Sum.inl) ∧ (ks.length < 2 ∨ ∀ k ∈ ks, k ≠ []) ∧
    ∀ p vs, H p = none → IsAll 0 H ((ks.mergeSort leRow).map dRow) vs → Q (.ref p) (upd H p (.lst vs))
theorem cr_sortedDT (hc : X.calm = true) (hu : X.A.units + 64 < cLine) : CallR X (.builtin "sorted") rSortedDT := by
  intro pins s σ H xs us Q I r h
  obtain ⟨d, kvs, ks, rfl, hd, hks, hne, q⟩ := h
  obtain ⟨u, rfl, rx⟩ := vals1 r
  cases rx
  obtain ⟨z, hs, ks', pr, o, es, ep, ho, hx, hdt, he, hn⟩ := (show ObjOk X.prog X.w H s.heap d (.dT kvs) from I.hok d _ hd)
  have l1 : es.size = ks'.length := size_of_entries he
  have l2 : kvs.length = ks'.length := Paired.length pr
  have l3 : kvs.length = ks.length := by
    have e := congrArg List.length hks
    rw [List.length_map, List.length_map] at e
    exact e
  refine Calls.call_function_entry PyProof.Rows.kind_sorted PyProof.Rows.plain_sorted PyProof.Rows.entry_sorted (PyProof.Rows.args_sorted1 _) ?_
  unfold Builtin.«sorted»
  refine wpAny_bind (m := checkCount "sorted" 1 1 _) (wpAny_pure ?_)
  refine wpAny_bind (PySem.W.kdu_collect (A := X.A.in1) (kdl_raw hs hx hdt) (I.ok.hd hc) ho (by omega) fun h' tk acc hk hacc => ?_)
  have ea : acc.toList = ks'.map fun x => Value.ref x.2.1 := by
    have hl : acc.toList.length = ks'.length := by rw [Array.length_toList, hacc.1]; exact l1
    apply List.ext_getElem?
    intro j
    rw [List.getElem?_map]
    cases hj : acc.toList[j]? with
    | none =>
      have h1 := List.getElem?_eq_none_iff.mp hj
      rw [List.getElem?_eq_none (by omega)]
      all_goals rfl
    | some v =>
      obtain ⟨en, hen, hv⟩ := hacc.2 j v (by rw [← Array.getElem?_toList]; exact hj)
      have qe := entry_at he j
      rw [hen] at qe
      cases hb : ks'[j]? with
      | none =>
        rw [hb] at qe
        exact nomatch (show some en = none from qe)
      | some b =>
        rw [hb] at qe
        have e2 : en = entryOfKey (tupleKind (mixKind X.prog X.w)) b := Option.some.inj qe
        rw [hv, e2]
        all_goals rfl
  have ev : EachIs (RowV H) acc.toList ks := by rw [ea]; exact kt_rows pr hks
  have hal : acc.toList.length = ks.length := ev.length
  have h16 : acc.toList.length ≤ sizeLine := by omega
  have I1 : Inv X pins σ H { s with heap := h', toks := tk } := I.kept hk
  refine wpAny_bind (wpAny_newList ?_ (by simpa using h16))
  have hoL : (h'.push (seqObj "list" acc.toList.toArray 0)).get? h'.objs.size = some (seqObj "list" acc.toList.toArray 0) := Heap.get?_push_size _ rfl
  show wpAny _ _ _ _ _ { s with heap := h'.push (seqObj "list" acc.toList.toArray 0), toks := tk }
  have fin : ∀ out : List Value, EachIs (RowV H) out (ks.mergeSort leRow) → EP X pins σ Q (.ref h'.objs.size) { s with heap := sortedHeap (h'.push (seqObj "list" acc.toList.toArray 0)) h'.objs.size acc.toList out.toArray, toks := tk } := fun out eo => by
    obtain ⟨vs, hv, hi⟩ := each_rows eo
    obtain ⟨e', he'⟩ := PyProof.Rows.sortedHeap_at (vs := acc.toList) (out := out.toArray) hoL
    have hlen : vs.length ≤ sizeLine := by
      rw [hv.length, eo.length, List.length_mergeSort, ← hal]
      exact h16
    refine ⟨.ref h'.objs.size, upd H h'.objs.size (.lst vs), I1.laid (t' := tk) (fun b u e => ?_) (Nat.le_refl _) (show ObjOk X.prog X.w _ _ _ (.lst vs) from ⟨hlen, out, e', hv, he'⟩), rfl, q _ _ (I1.hok.fresh (Nat.le_refl _)) hi⟩
    have hb : b < h'.objs.size := Heap.lt_size e
    rw [PyProof.Rows.sortedHeap_old (Nat.ne_of_lt hb) (by rw [size_push']; exact Nat.lt_succ_of_lt hb)]
    exact Heap.get?_push_of_some _ e
  rcases hne with hs2 | hne
  · refine wpAny_bind (wpAny_holding (wpAny_call_entry PyProof.Rows.slot_list_sort ⟨_, hoL, rfl⟩ PyProof.Rows.entry_list_sort
      (SrtO.list_sort_ord (s := { s with heap := h'.push (seqObj "list" acc.toList.toArray 0), toks := tk }) swo_none hoL h16 (fun h2 => absurd h2 (by omega)) fun out g1 g2 => ⟨_, rfl, ?_⟩) (PyProof.Rows.args_list_sort _)))
    have e1 : out = acc.toList := perm_short g2.perm (by omega)
    have e2 : ks.mergeSort leRow = ks := perm_short (List.mergeSort_perm _ _) hs2
    exact wpAny_pure ⟨_, rfl, fin out (by rw [e1, e2]; exact ev)⟩
  · have er := each_reads (s := { s with heap := h', toks := tk }) I1 ev
    have er2 : EachIs (fun v b => ∃ as, Reads (h'.push (seqObj "list" acc.toList.toArray 0)) v (dRow b) as ∧ h'.objs.size ∉ as) acc.toList ks := er.mono fun v b ⟨as, r⟩ => ⟨as, Reads.keeps (fun _ _ e => Heap.get?_push_of_some _ e) r, by rw [reads_row r]; exact List.not_mem_nil⟩
    refine wpAny_bind (wpAny_holding (wpAny_mono (PySem.W.list_sort_data (s := { s with heap := h'.push (seqObj "list" acc.toList.toArray 0), toks := tk }) (Q := fun _ s' => ∃ out : List Value, EachIs (RowV H) out (ks.mergeSort leRow) ∧ s' = { s with heap := sortedHeap (h'.push (seqObj "list" acc.toList.toArray 0)) h'.objs.size acc.toList out.toArray, toks := tk }) hoL ev er2 (alike_rows ks)
      (Or.inl fun dd hdd => ?_) (by omega) (fun b _ => ?_) fun out _ eo => ⟨out, by rw [dataLe_tups] at eo; exact eo, rfl⟩) (fun _ s' x => ?_) fun _ _ e => e))
    · obtain ⟨k, hk', rfl⟩ := List.mem_map.mp hdd
      match k, hne k hk' with
      | x :: r, _ => exact ⟨.int x, r.map .int, rfl⟩
    · rw [depth_row]
      show X.A.in1.units + 1 + 1 < cLine
      have : X.A.in1.units ≤ X.A.units + 1 := Nat.le_of_eq rfl
      omega
    · obtain ⟨out, eo, e⟩ := x
      subst e
      exact wpAny_pure ⟨_, rfl, fin out eo⟩
end
end TG
set_option Elab.async false
set_option linter.all false
set_option maxRecDepth 100000
set_option maxHeartbeats 2000000
namespace TG
open PySem PySem.Spec PyProof.Rows L2
open Evl (Ex)
/-! ### dicts with keys that are turns -/
def dN (n : Nat) : PyData := .int (n : Int)
def dB (b : Bool) : PyData := .int (if b then 1 else 0)
def dT (t : Vamete.Turn) : PyData := .tuple [.tuple (t.places.map dN), .tuple (t.signs.map dB)]
def nk (t : Vamete.Turn) : NestedKey := .tup [.tup (t.places.map fun (n : Nat) => .num (n : Int)), .tup (t.signs.map fun b => .num (if b then 1 else 0))]
theorem map_inj {α β : Type} {f : α → β} (h : ∀ a b, f a = f b → a = b) : ∀ {l m : List α}, l.map f = m.map f → l = m
  | [], [], _ => rfl
  | a :: l, b :: m, e => by
    rw [List.map_cons, List.map_cons] at e
    injection e with e1 e2
    rw [h a b e1, map_inj h e2]
  | [], _ :: _, e => by simp at e
  | _ :: _, [], e => by simp at e
theorem nk_inj {t u : Vamete.Turn} (h : nk t = nk u) : t = u := by
  unfold nk at h
  injection h with h
  injection h with h1 h2
  injection h1 with h1
  injection h2 with h2 _
  injection h2 with h2
  have e1 := map_inj (f := fun n : Nat => NestedKey.num (n : Int)) (fun a b e => by injection e with e; omega) h1
  have e2 := map_inj (f := fun b : Bool => NestedKey.num (if b then 1 else 0)) (fun a b e => by
    injection e with e
    cases a <;> cases b <;> simp at e ⊢) h2
  cases t
  cases u
  simp only at e1 e2
  rw [e1, e2]
theorem imm_dT (t : Vamete.Turn) : imm (dT t) = true := by
  show (imms (t.places.map dN) && (imms (t.signs.map dB) && true)) = true
  rw [imms_map (fun _ => rfl), imms_map (fun _ => rfl)]
  rfl
section
variable {X : Cx} {pins : List (Addr × Obj)} {σ : L2.St} {H : Hp} {s : Shared}
theorem nested_ints (I : Inv X pins σ H s) {b : Nat} {f : List Int} {a : Addr} (h : Tu b H a (f.map V.int)) : NestedIs s.heap (.tup (f.map NestedKey.num)) (.ref a) := by
  obtain ⟨its, r, ⟨o, ho, hc, n, hd⟩, z⟩ := I.tuple h.sq
  refine .tup ho hc hd ?_
  have go : ∀ (f : List Int) (its : List Value), Vals (f.map V.int) its → NestedAll s.heap (f.map NestedKey.num) its := by
    intro f
    induction f with
    | nil => intro its r; cases r; exact .nil
    | cons a f ih =>
      intro its r
      cases r with
      | cons r1 r2 =>
        obtain ⟨t, rfl⟩ := r1
        exact .cons (.int a t) (ih _ r2)
  exact go f its r
theorem dT_at {f : Nat} {t : Vamete.Turn} {v : V} (h : IsD f H (dT t) v) : ∃ a p q, v = .ref a ∧ Tu f H a [.ref p, .ref q] ∧ Tu f H p ((t.places.map fun (n : Nat) => (n : Int)).map V.int) ∧ Tu f H q ((t.signs.map fun b => if b then (1 : Int) else 0).map V.int) := by
  obtain ⟨a, xs, rfl, ha, r⟩ := is_tuple h
  cases r with
  | cons r1 r2 =>
    cases r2 with
    | cons r2 r3 =>
      cases r3
      have e1 : (PyData.tuple (t.places.map dN)) = dRow (t.places.map fun (n : Nat) => (n : Int)) := by
        unfold dRow
        rw [List.map_map]
        rfl
      have e2 : (PyData.tuple (t.signs.map dB)) = dRow (t.signs.map fun b => if b then (1 : Int) else 0) := by
        unfold dRow
        rw [List.map_map]
        rfl
      rw [e1] at r1
      rw [e2] at r2
      obtain ⟨p, rfl, hp⟩ := is_rowF r1
      obtain ⟨q, rfl, hq⟩ := is_rowF r2
      exact ⟨a, p, q, rfl, ha, hp, hq⟩
theorem nested_turn (I : Inv X pins σ H s) {t : Vamete.Turn} {a : Addr} (h : IsD 1 H (dT t) (.ref a)) : (nestedKind X.prog X.w).is s.heap (nk t) a := by
  obtain ⟨a', p, q, e, ha, hp, hq⟩ := dT_at h
  cases e
  refine ⟨?_, ?_⟩
  · obtain ⟨its, r, ⟨o, ho, hc, n, hd⟩, z⟩ := I.tuple ha.sq
    cases r with
    | cons r1 r2 =>
      cases r2 with
      | cons r2 r3 =>
        cases r3
        cases r1
        cases r2
        have n1 := nested_ints I hp
        have n2 := nested_ints I hq
        rw [List.map_map] at n1 n2
        exact .tup ho hc hd (.cons n1 (.cons n2 .nil))
  · have d0 : ∀ l : List Int, NestedKey.depthAll (l.map NestedKey.num) = 0 := by
      intro l
      induction l with
      | nil => rfl
      | cons a l ih =>
        rw [List.map_cons, NestedKey.depthAll, ih]
        rfl
    have d1 := d0 (t.places.map fun (n : Nat) => (n : Int))
    have d2 := d0 (t.signs.map fun b => if b then (1 : Int) else 0)
    rw [List.map_map] at d1 d2
    show NestedKey.depth (nk t) ≤ 8
    unfold nk
    simp only [NestedKey.depth, NestedKey.depthAll]
    have d1' : NestedKey.depthAll (t.places.map fun (n : Nat) => NestedKey.num (n : Int)) = 0 := d1
    have d2' : NestedKey.depthAll (t.signs.map fun b => NestedKey.num (if b then 1 else 0)) = 0 := d2
    rw [d1', d2']
    decide
def ND0 (P : Program) (w : World) (h : Heap) (d : Addr) (xs : List (NestedKey × Addr × Value)) : Prop := ∃ o es ep, h.get? d = some o ∧ o.ExactDict ∧ o.data = .dict es ep ∧ es.toList = xs.map (entryOfKey (nestedKind P w)) ∧ (xs.map (·.1)).Nodup
def NDO (P : Program) (w : World) (d : Addr) (xs : List (NestedKey × Addr × Value)) : HO := .ext fun h => ND0 P w h d xs
theorem ndo_ok {P : Program} {w : World} {H : Hp} {h : Heap} {d : Addr} {xs : List (NestedKey × Addr × Value)} (x : ND0 P w h d xs) : ObjOk P w H h d (NDO P w d xs) := by
  refine ⟨x, ?_, ?_⟩
  · obtain ⟨o, es, ep, ho, _⟩ := x
    exact ⟨o, ho⟩
  · rintro h1 h2 ⟨o, es, ep, ho, r⟩ k
    exact ⟨o, es, ep, k o ho, r⟩
/-- the dict at d has the turns L as keys -/
def Known (P : Program) (w : World) (H : Hp) (d : Addr) (L : List Vamete.Turn) : Prop := ∃ xs : List (NestedKey × Addr × Value), H d = some (NDO P w d xs) ∧ (d == sysModules) = false ∧ xs.map (·.1) = L.map nk ∧ ∀ x ∈ xs, ∃ t, x.1 = nk t ∧ IsD 1 H (dT t) (.ref x.2.1)
theorem Known.dict (I : Inv X pins σ H s) {d : Addr} {L : List Vamete.Turn} (k : Known X.prog X.w H d L) : ∃ xs : List (NestedKey × Addr × Value), H d = some (NDO X.prog X.w d xs) ∧ (d == sysModules) = false ∧ xs.map (·.1) = L.map nk ∧ (∀ x ∈ xs, ∃ t, x.1 = nk t ∧ IsD 1 H (dT t) (.ref x.2.1)) ∧ s.heap.DictOfH (nestedKind X.prog X.w) d xs := by
  obtain ⟨xs, hd, hs, hk, ht⟩ := k
  obtain ⟨⟨o, es, ep, ho, hx, hdt, he, hn⟩, _⟩ := (show ObjOk X.prog X.w H s.heap d (NDO X.prog X.w d xs) from I.hok d _ hd)
  refine ⟨xs, hd, hs, hk, ht, o, es, ep, ho, hx, hdt, he, fun x hx => ?_, hn⟩
  obtain ⟨t, e, h⟩ := ht x hx
  rw [e]
  exact nested_turn I h
theorem Known.tx {P : Program} {w : World} {H H' : Hp} {d : Addr} {L : List Vamete.Turn} (k : Known P w H d L) (e : Tx H H') (hd : H' d = H d) : Known P w H' d L := by
  obtain ⟨xs, h, hs, hk, ht⟩ := k
  exact ⟨xs, by rw [hd]; exact h, hs, hk, fun x hx => by
    obtain ⟨t, e1, h1⟩ := ht x hx
    exact ⟨t, e1, IsD.tx e _ _ (imm_dT t) h1⟩⟩
theorem atKey_mem {K : Type} [DecidableEq K] {xs : List (K × Addr × Value)} {k : K} : (atKey xs k).isSome = true ↔ k ∈ xs.map (·.1) := by
  unfold atKey
  rw [Option.isSome_map, List.find?_isSome, List.mem_map]
  constructor
  · rintro ⟨x, hx, h⟩
    exact ⟨x, hx, of_decide_eq_true h⟩
  · rintro ⟨x, hx, h⟩
    exact ⟨x, hx, decide_eq_true h⟩
theorem known_mem {xs : List (NestedKey × Addr × Value)} {L : List Vamete.Turn} (h : xs.map (·.1) = L.map nk) (t : Vamete.Turn) : (atKey xs (nk t)).isSome = decide (t ∈ L) := by
  have : (atKey xs (nk t)).isSome = true ↔ t ∈ L := by
    rw [atKey_mem, h, List.mem_map]
    constructor
    · rintro ⟨u, hu, e⟩
      rw [← nk_inj e]
      exact hu
    · intro hu
      exact ⟨t, hu, rfl⟩
  by_cases ht : t ∈ L
  · rw [decide_eq_true ht]
    exact this.mpr ht
  · rw [decide_eq_false ht]
    cases h' : (atKey xs (nk t)).isSome with
    | true => exact absurd (this.mp h') ht
    | false => rfl
end
section
variable {X : Cx} {a b e : Expr} {ta tb te tv : TE} {pos pos' : Pos}
/-- y not in d -/
def tNNotIn (P : Program) (w : World) (ty td : TE) : TE := fun σ H Q => ty σ H fun y H1 => td σ H1 fun x H2 => ∃ d t L, x = .ref d ∧ Known P w H2 d L ∧ IsD 1 H2 (dT t) y ∧ Q (.bl (!decide (t ∈ L))) H2
theorem pc_nnotin (hu : X.A.units + 64 < cLine) (hi : PE X a ta) (ho : PE X b tb) : PC X .NotIn a b (tNNotIn X.prog X.w ta tb) := by
  refine ⟨fun pins s σ H Q I h => ?_⟩
  refine bin hi ho I h fun v u s2 x y H2 I2 rx ry q => ?_
  obtain ⟨d, t, L, rfl, k, ht, q⟩ := q
  cases ry
  obtain ⟨xs, hd, hs, hk, _, dd⟩ := k.dict I2
  obtain ⟨c, p', q', e, hc⟩ := dT_at ht
  subst e
  cases rx
  refine wpAny_notIn_heap (knd := nestedKind X.prog X.w) (by show X.A.in1.units + 8 < cLine; have : X.A.in1.units ≤ X.A.units + 1 := Nat.le_of_eq rfl; omega) (nested_turn I2 ht) hs dd ?_
  rw [known_mem hk]
  exact ⟨.bl _, H2, I2.tok _, rfl, q⟩
/-- d[y] = v, a new key -/
def sNPut (P : Program) (w : World) (td ty tv : TE) : TS := fun D σ H => tv σ H fun v H1 => td σ H1 fun x H2 => ty σ H2 fun y H3 => ∃ d t L, x = .ref d ∧ Known P w H3 d L ∧ L.length ≤ 1000 ∧ t ∉ L ∧ IsD 1 H3 (dT t) y ∧ ∀ o, Known P w (upd H3 d o) d (L ++ [t]) → Tx H3 (upd H3 d o) → D.nx σ (upd H3 d o)
theorem ps_nput (hu : X.A.units + 64 < cLine) (ho : PE X a ta) (hi : PE X b tb) (hv : PE X e tv) (hs : swapsWith e (some (.Subscript a b pos')) pos.line X.env = pure false := by rfl) :
    PS X (.Assign [.Subscript a b pos'] e pos) (sNPut X.prog X.w ta tb tv) := by
  refine ⟨fun pins s σ H D I h => ?_⟩
  refine wpAny_Assign_Subscript (thn (hv.run pins s σ H _ I h) fun v s1 ⟨z, H1, I1, r1, q1⟩ => ?_) hs
  refine thn (ho.run pins s1 σ H1 _ I1 q1) fun ov s2 ⟨x, H2, I2, r2, q2⟩ => ?_
  refine thn (hi.run pins s2 σ H2 _ I2 q2) fun iv s3 ⟨y, H3, I3, r3, q3⟩ => ?_
  obtain ⟨d, t, L, rfl, k, hl, hnot, ht, q⟩ := q3
  cases r2
  obtain ⟨xs, hd, hsy, hk, hall, dd⟩ := k.dict I3
  obtain ⟨c, p', q', e', hc, _⟩ := dT_at ht
  subst e'
  cases r3
  have hlen : xs.length = L.length := by
    have := congrArg List.length hk
    rw [List.length_map, List.length_map] at this
    exact this
  have hz : xs.length ≤ sizeLine := by rw [sizeLine_eq]; omega
  have hno : atKey xs (nk t) = none := by
    have := known_mem hk t
    rw [decide_eq_false hnot] at this
    cases h' : atKey xs (nk t) with
    | none => rfl
    | some p => rw [h'] at this; exact absurd this (by simp)
  refine wpAny_setItem_heap (knd := nestedKind X.prog X.w) (hsz := hz) (by show X.A.in1.units + 8 < cLine; have : X.A.in1.units ≤ X.A.units + 1 := Nat.le_of_eq rfl; omega) (nested_turn I3 ht) dd fun h' dd' hs' => ?_
  rw [storedH_new hno] at dd'
  obtain ⟨o, es, ep, h1, h2, h3, h4, h5, h6⟩ := dd'
  have x0 : ND0 X.prog X.w h' d (xs ++ [(nk t, c, v)]) := ⟨o, es, ep, h1, h2, h3, h4, h6⟩
  have tx : Tx H3 (upd H3 d (NDO X.prog X.w d (xs ++ [(nk t, c, v)]))) := tx_upd fun u e s => by rw [hd] at e; cases e; exact s
  have I4 := d_write (t' := s3.toks + (nestedKind X.prog X.w).draws (nk t)) I3 (a := d) (by rw [hd]; exact True.intro) hs' ⟨o, h1⟩ (ndo_ok x0)
  refine ⟨σ, _, I4, q _ ⟨_, upd_same, hsy, ?_, ?_⟩ tx⟩
  · rw [List.map_append, List.map_append, hk]
    rfl
  · intro x hx
    rcases List.mem_append.mp hx with hx | hx
    · obtain ⟨t', e1, h1⟩ := hall x hx
      exact ⟨t', e1, IsD.tx tx _ _ (imm_dT t') h1⟩
    · rw [List.mem_singleton] at hx
      subst hx
      exact ⟨t, rfl, IsD.tx tx _ _ (imm_dT t) ht⟩
/-- {y: v} -/
def tNDisp (P : Program) (w : World) (ty tv : TE) : TE := fun σ H Q => ∀ p, H p = none → ty σ (upd H p (.dK [])) fun y H1 => tv σ H1 fun v H2 => H2 p = some (.dK []) ∧ ∃ t, IsD 1 H2 (dT t) y ∧ ∀ o, Known P w (upd H2 p o) p [t] → Tx H2 (upd H2 p o) → Q (.ref p) (upd H2 p o)
theorem pe_ndisp {k v : Expr} {tk tv : TE} (hu : X.A.units + 64 < cLine) (hk : PE X k tk) (hv : PE X v tv) : PE X (.Dict [some k] [v] pos) (tNDisp X.prog X.w tk tv) := by
  refine ⟨fun pins s σ H Q I q => ?_⟩
  have hn := I.hok.fresh (Nat.le_refl s.heap.objs.size)
  have I1 := I.laid (a := s.heap.objs.size) (o := .dK []) (h' := s.heap.push { cls := .type "dict", data := .dict #[] }) (t' := s.toks) (fun _ _ q => Heap.get?_push_of_some _ q) (Nat.le_refl _) (dk_empty s.heap I.big)
  have hpp : PPs X pos [some k] [v] [(tk, tv)] := pps_cons hk hv pps_nil
  have hshape := zip_pairTrees [some k] [v] X.env pos (by rfl) (by rfl)
  have hlen := pairTrees_length [some k] [v] X.env pos (by rfl) (by rfl)
  have h0 : pairTrees [some k] [v] X.env pos ≠ [] := by
    intro e
    rw [e] at hlen
    cases hlen
  rw [arm_eval_Dict, hshape, dictDisplay_pairs _ h0 (by rw [hlen]; show 1 < 17; decide)]
  refine wpAny_bind (wpAny_standAt (wpAny_bind (wpAny_subDictH (knd := nestedKind X.prog X.w) (Q := fun d s' => wpAny (model X.prog X.w) X.A (pure (Value.ref d)) (EP X pins σ Q) X.xe s') (by show X.A.units + 8 < cLine; omega) (by rw [hlen]; show 1 ≤ 15; decide)
    (thn (hpp.run pins _ σ _ (fun ps H2 => match ps with
      | [(y, v)] => H2 s.heap.objs.size = some (.dK []) ∧ ∃ t, IsD 1 H2 (dT t) y ∧ ∀ o, Known X.prog X.w (upd H2 s.heap.objs.size o) s.heap.objs.size [t] → Tx H2 (upd H2 s.heap.objs.size o) → Q (.ref s.heap.objs.size) (upd H2 s.heap.objs.size o)
      | _ => False) I1 (q _ hn)) fun ws s2 ⟨ps, H2, I2, rel, e⟩ => ?_))))
  match ps, rel, e with
  | [(y, v)], rel, e =>
    obtain ⟨hp, t, ht, q2⟩ := e
    cases rel with
    | @cons _ w1 _ _ r1 r2 =>
      cases r2
      obtain ⟨r1, r3⟩ := r1
      obtain ⟨ky, kv⟩ := w1
      obtain ⟨c, p', q', e', hc, _⟩ := dT_at ht
      simp only at r1 r3
      subst e'
      obtain rfl : ky = Value.ref c := r1
      obtain ⟨z, hd, vs0, r0, dd⟩ := dk_of I2.hok hp
      cases r0
      obtain ⟨o, es, ep, ho, hx, hdt, _, he, hnd⟩ := dd
      have hes : es.toList = [] := by cases hh : es.toList with | nil => rfl | cons a l => rw [hh] at he; first | exact he.elim | cases he
      refine ⟨[(nk t, c, kv)], ⟨rfl, rfl, nested_turn I2 ht, True.intro⟩, ⟨o, es, ep, ho, hx, hdt, by rw [hes]; rfl, fun _ h => absurd h List.not_mem_nil, List.nodup_nil⟩, fun h' tk dd' hs => wpAny_pure ?_⟩
      obtain ⟨o', es', ep', h1, h2, h3, h4, h5, h6⟩ := dd'
      have x0 : ND0 X.prog X.w h' s.heap.objs.size [(nk t, c, kv)] := ⟨o', es', ep', h1, h2, h3, h4, h6⟩
      have tx : Tx H2 (upd H2 s.heap.objs.size (NDO X.prog X.w s.heap.objs.size [(nk t, c, kv)])) := tx_upd fun u e s => by rw [hp] at e; cases e; exact s
      exact ⟨.ref s.heap.objs.size, _, d_write (t' := tk) I2 (a := s.heap.objs.size) (by rw [hp]; exact True.intro) hs ⟨o', h1⟩ (ndo_ok x0), rfl, q2 _ ⟨_, upd_same, hd, rfl, fun x hx => by
        rw [List.mem_singleton] at hx
        subst hx
        exact ⟨t, rfl, IsD.tx tx _ _ (imm_dT t) ht⟩⟩ tx⟩
end
end TG
set_option Elab.async false
set_option linter.all false
set_option maxRecDepth 100000
set_option maxHeartbeats 2000000
namespace TG
open PySem PySem.Spec PyProof.Rows L2
open Evl (Ex)
/-! ### t[::-1] -/
section
variable {prog : Program} {w : World} {A : Around} {E : Value → Shared → Prop} {s : Shared}
theorem sliceApplied_rev {sl : Addr} {vl vu vs : Value} {n : Nat} {Q : Int × Int × Nat → Shared → Prop} (hs : s.heap.IsSliceOf sl vl vu vs) (pl : IsPart vl none) (pu : IsPart vu none) (ps : IsPart vs (some (-1)))
    (h : Q ((n : Int) - 1, -1, n) s) : wpAny (model prog w) A (Builtin.Slice.sliceApplied (.ref sl) (pure (n : Int))) Q E s := by
  obtain ⟨os, hos, hcs, hds⟩ := id hs
  unfold Builtin.Slice.sliceApplied Builtin.Slice.sliceFields
  refine wpAny_bind (wpAny_bind (wpAny_field hos hds (x := vl) rfl (wpAny_bind (wpAny_field hos hds (x := vu) rfl (wpAny_bind (wpAny_field hos hds (x := vs) rfl (wpAny_pure ?_)))))))
  refine wpAny_bind (HT.slicePart_ ps ?_)
  show wpAny _ _ (if ((-1 : Int) == 0) = true then _ else _) _ _ s
  rw [if_neg (by decide)]
  refine wpAny_bind (HT.slicePart_ pl (wpAny_bind (HT.slicePart_ pu (wpAny_bind (wpAny_pure ?_)))))
  show wpAny _ _ (match Builtin.Slice.sliceAdjust none none (-1) (n : Int) with | (lo, hi) => pure (lo, (-1 : Int), Builtin.Slice.slicePlaces lo hi (-1))) _ _ s
  have e1 : Builtin.Slice.sliceAdjust none none (-1) (n : Int) = ((n : Int) - 1, -1) := rfl
  rw [e1]
  show wpAny _ _ (pure ((n : Int) - 1, (-1 : Int), Builtin.Slice.slicePlaces ((n : Int) - 1) (-1) (-1))) _ _ s
  have e2 : Builtin.Slice.slicePlaces ((n : Int) - 1) (-1) (-1) = n := by
    unfold Builtin.Slice.slicePlaces
    have h1 : ¬ ((-1 : Int) > 0) := by omega
    simp only [h1, if_false]
    split
    · have : -(-1 : Int) = 1 := rfl
      rw [this, Int.ediv_one]
      omega
    · omega
  rw [e2]
  exact wpAny_pure h
theorem pick_rev (xs : Array Value) : ((List.range xs.size).filterMap fun (k : Nat) => xs[((xs.size : Int) - 1 + (k : Int) * (-1)).toNat]?) = xs.toList.reverse := by
  have e : ∀ l : List Nat, (∀ k ∈ l, k < xs.size) → (l.filterMap fun (k : Nat) => xs[((xs.size : Int) - 1 + (k : Int) * (-1)).toNat]?) = (l.map fun k => xs.size - 1 - k).filterMap (xs[·]?) := by
    intro l
    induction l with
    | nil => intro _; rfl
    | cons k l ih =>
      intro hl
      have hk := hl k List.mem_cons_self
      have e : ((xs.size : Int) - 1 + (k : Int) * (-1)).toNat = xs.size - 1 - k := by omega
      rw [List.map_cons, List.filterMap_cons, List.filterMap_cons, ih fun j hj => hl j (List.mem_cons_of_mem _ hj), e]
  rw [e _ fun k hk => List.mem_range.mp hk, PySem.W.krv_range, List.filterMap_reverse, PySem.W.krv_all]
theorem getItem_tuple_rev {t sl : Addr} {items : Array Value} {vl vu vs : Value} {Q : Value → Shared → Prop} (ht : IsTup s.heap t items) (hs : s.heap.IsSliceOf sl vl vu vs) (pl : IsPart vl none) (pu : IsPart vu none) (ps : IsPart vs (some (-1)))
    (h : Q (.ref s.heap.objs.size) { s with heap := s.heap.push { cls := .type "tuple", data := .seq items.toList.reverse.toArray } })
    (hsz : items.size ≤ sizeLine) : wpAny (model prog w) A (getItem (.ref t) (.ref sl)) Q E s := by
  have htake : sizeOk (.seq items.toList.reverse.toArray) := by
    show items.toList.reverse.toArray.size ≤ sizeLine
    rw [List.size_toArray, List.length_reverse, Array.length_toList]
    exact hsz
  obtain ⟨os, hos, hcs, hds⟩ := id hs
  have hTs : s.TypeIs (.ref sl) "slice" := ⟨os, hos, hcs⟩
  unfold getItem
  try with_reducible refine wpAny_holding ?_
  first | refine wpAny_bind (wpAny_pure ?_) | skip
  refine wpAny_bind (wpAny_sequenceKey ht.typeIs (by decide) ?_)
  refine wpAny_bind (wpAny_callSpecial?_slot (name := Str.ofString "__getitem__") ht.typeIs PyProof.Rows.slot_tuple_getitem
    (wpAny_call_entry PyProof.Rows.slot_tuple_getitem ht.typeIs entry_tuple_getitem ?_ (args_tuple_getitem _ _)))
  show wpAny _ _ (Builtin.Tuple.tupleItemsOf (.ref t) >>= _) _ _ s
  refine wpAny_bind (tupleItemsOf_ ht ?_)
  refine wpAny_bind (wpAny_typeOf hTs ?_)
  rw [if_pos (by decide)]
  refine wpAny_bind (sliceApplied_rev hs pl pu ps ?_)
  have hno : ¬ ((((items.size : Int) - 1) == 0 && (-1 : Int) == 1 && items.size == items.size) = true) := by
    intro q
    rw [Bool.and_eq_true, Bool.and_eq_true] at q
    exact absurd q.1.2 (by decide)
  show wpAny _ _ (if ((((items.size : Int) - 1) == 0 && (-1 : Int) == 1 && items.size == items.size) = true) then _ else _) _ _ s
  rw [if_neg hno, pick_rev]
  first
    | exact wpAny_bind (m := Builtin.Tuple.tupleExact _) (wpAny_newObj_type (wpAny_pure ⟨_, rfl, wpAny_pure h⟩) htake)
    | exact wpAny_bind (m := Builtin.Tuple.tupleExact _) (wpAny_newObj_type (wpAny_bind (wpAny_pure (wpAny_pure ⟨_, rfl, wpAny_pure h⟩))) htake)
    | exact wpAny_bind (wpAny_bind (m := Builtin.Tuple.tupleExact _) (wpAny_newObj_type (wpAny_pure (wpAny_pure ⟨_, rfl, wpAny_pure h⟩)) htake))
    | exact wpAny_bind (wpAny_bind (m := Builtin.Tuple.tupleExact _) (wpAny_newObj_type (wpAny_pure ⟨_, rfl, wpAny_pure h⟩) htake))
end
section
variable {X : Cx}
def tRevT (K : PySem.W.Frag) (te : TE) : TE := fun σ H Q => te σ H fun x H1 => ∃ a xs, x = .ref a ∧ SqT K H1 a xs ∧ ∀ p, H1 p = none → Q (.ref p) (upd H1 p (.tup xs.reverse))
theorem pe_revT {e : Expr} {te : TE} {k : Nat} {p1 p2 p3 pos : Pos} (he : PE X e te) : PE X (.Subscript e (.Slice none none (some (.UnaryOp .USub (.Constant (.int 1) k p1) p2)) p3) pos) (tRevT X.K te) := by
  refine ⟨fun pins s σ H Q I h => ?_⟩
  refine Subscript_ (thn (he.run pins s σ H _ I h) fun v s1 ⟨x, H1, I1, r1, q1⟩ => ?_)
  obtain ⟨a, xs, ex, hx, q⟩ := q1
  subst ex
  cases r1
  have hst : PO X (some (.UnaryOp .USub (.Constant (.int 1) k p1) p2)) (tPart (tUn (rU fun i => .int (-i)) (tC (.int 1)))) := po_some (pe_un un_neg pe_int)
  refine wpAny_Slice (thn (po_none.run pins s1 σ H1 (fun o H2 => o = none ∧ H2 = H1) I1 ⟨rfl, rfl⟩) fun vl s2 ⟨l, H2, I2, pl, el, e2⟩ => ?_)
  subst el e2
  refine thn (po_none.run pins s2 σ H2 (fun o H3 => o = none ∧ H3 = H2) I2 ⟨rfl, rfl⟩) fun vu s3 ⟨u, H3, I3, pu, eu, e3⟩ => ?_
  subst eu e3
  refine thn (hst.run pins s3 σ H3 (fun o H4 => o = some (-1) ∧ H4 = H3) I3 ⟨1, rfl, -1, rfl, rfl, rfl⟩) fun vs s4 ⟨o, H4, I4, ps, eo, e4⟩ => ?_
  subst eo e4
  have I5 : Inv X pins σ H4 { s4 with heap := s4.heap.push { cls := .type "slice", data := .fields #[vl, vu, vs] } } := I4.kept (t' := s4.toks) fun b ob q => Heap.get?_push_of_some _ q
  obtain ⟨its, r, ht, hz⟩ := I5.tuple hx
  have hlen := r.length
  show wpAny (model X.prog X.w) X.A (subscriptTail e (.Slice none none (some (.UnaryOp .USub (.Constant (.int 1) k p1) p2)) p3) (.ref a) (.ref s4.heap.objs.size)) (EP X pins σ Q) X.xe { s4 with heap := s4.heap.push { cls := .type "slice", data := .fields #[vl, vu, vs] } }
  refine tail_any (ops := [.ref a, .ref s4.heap.objs.size]) ht.typeIs (PyProof.Rows.slot_tuple_getitem.lookup) ?_ (by with_unfolding_all rfl)
  refine getItem_tuple_rev ht (Heap.IsSliceOf.new _ vl vu vs) pl pu ps ?_ (by rw [List.size_toArray]; omega)
  refine ⟨.ref _, _, I5.laid (t' := s4.toks) (o := .tup xs.reverse) (fun b ob q => Heap.get?_push_of_some _ q) (Nat.le_refl _) ?_, rfl, q _ (I5.hok.fresh (Nat.le_refl _))⟩
  exact ⟨by rw [List.length_reverse]; exact hz, _, r.reverse, IsTup.new _ _⟩
end
end TG
set_option Elab.async false
set_option linter.all false
set_option maxRecDepth 100000
set_option maxHeartbeats 2000000
namespace TG
open PySem PySem.Spec PyProof.Rows L2
open Evl (Ex)
/-! ### sets of ints: set(t), len, == -/
theorem entry_set_eq : entryFor table "set.__eq__" = some Builtin.«frozenset.__eq__» :=
  entryFor_alias (id' := "frozenset.__eq__") (by kernel_rfl) rfl (by decide +kernel) (by kernel_rfl)
theorem sub_set_frozen : isSubtype (.type "set") (.type "frozenset") = pure false := by rw [isSubtype_type]; kernel_rfl
section
variable {prog : Program} {w : World} {A : Around} {E : Value → Shared → Prop} {s : Shared}
theorem setR_entries {a : Addr} {S : Int → Bool} {n : Nat} (R : SetR w s.heap a S n) : ∃ es : Array (Int × Value), es.size = n ∧ (∀ e ∈ es.toList, GoodE e) ∧ (es.toList.map keyOf).Nodup ∧ (∀ k, S k = true ↔ k ∈ es.toList.map keyOf) ∧
    ∀ (A : Around) (E : Value → Shared → Prop) (Q : Array (Int × Value) → Shared → Prop), Q es s → wpAny (model prog w) A (setEntries a) Q E s := by
  obtain ⟨o, es, ep, t, ho, hx, hd, g, nd, hm, hb, hf, hn, _⟩ := R
  exact ⟨es, hn, g, nd, hm, fun A E Q h => wpAny_setEntries_of ho hd hf h⟩
theorem setR_epoch {a : Addr} {S : Int → Bool} {n : Nat} (R : SetR w s.heap a S n) : ∃ ep : Nat, ∀ (A : Around) (E : Value → Shared → Prop) (Q : Nat → Shared → Prop), Q ep s → wpAny (model prog w) A (setEpoch a) Q E s := by
  obtain ⟨o, es, ep, t, ho, hx, hd, g, nd, hm, hb, hf, hn, _⟩ := R
  exact ⟨ep, fun A E Q h => wpAny_setEpoch_of ho hd hf h⟩
theorem subset_ok {a b : Addr} {S S' : Int → Bool} {n m : Nat} {Q : Bool → Shared → Prop} (id : String) (Ra : SetR w s.heap a S n) (Rb : SetR w s.heap b S' m) (hnm : n ≤ m) (k : Bool) (hk : k = true ↔ ∀ i, S i = true → S' i = true) (h : Q k s) :
    wpAny (model prog w) A (Builtin.Frozenset.subsetOf id a b) Q E s := by
  obtain ⟨es, hes, hg, hnd, hm, he⟩ := setR_entries (prog := prog) Ra
  obtain ⟨es', hes', hg', hnd', hm', he'⟩ := setR_entries (prog := prog) Rb
  obtain ⟨ep, hep⟩ := setR_epoch (prog := prog) Ra
  have SO := Rb.setOf (P := prog)
  unfold Builtin.Frozenset.subsetOf Builtin.Frozenset.sizeOf
  refine wpAny_bind (wpAny_bind (he _ _ _ (wpAny_pure (wpAny_bind (wpAny_bind (he' _ _ _ (wpAny_pure ?_)))))))
  rw [if_neg (by omega)]
  refine wpAny_bind (hep _ _ _ ?_)
  unfold Builtin.Frozenset.walkUnseen
  refine wpAny_bind (wpAny_bind (he _ _ _ (wpAny_bind (he' _ _ _ ?_))))
  refine wpAny_bind ?_
  refine wpAny_forIn_list _ (fun rest r s' => r.1 = none ∧ s' = s ∧ ∀ e ∈ rest, GoodE e) _ ?_ ?_ _ _ ⟨rfl, rfl, fun e he => (List.mem_append.mp he).elim (hg e) (hg' e)⟩
  · rintro ⟨hx, x⟩ rest r s' ⟨hr, rfl, hall⟩
    obtain ⟨i, tk, e1, e2⟩ := hall _ List.mem_cons_self
    simp only at e1
    subst e1
    refine wpAny_bind (m := Builtin.Frozenset.quietEq (.int i tk)) (wpAny_pure ?_)
    exact wpAny_pure ⟨rfl, rfl, fun e he => hall e (List.mem_cons_of_mem _ he)⟩
  · rintro ⟨r1, r2⟩ s' ⟨hr, rfl, _⟩
    simp only at hr
    subst hr
    refine wpAny_pure ?_
    refine wpAny_bind ?_
    refine wpAny_forIn_list _ (fun rest r s2 => s2 = s' ∧ r.1 = none ∧ (∀ e ∈ rest, GoodE e) ∧ (k = true ↔ ∀ e ∈ rest, S' (keyOf e) = true)) _ ?_ ?_ _ _ ⟨rfl, rfl, hg, ?_⟩
    · rintro ⟨hx, x⟩ rest r s2 ⟨rfl, hr, hall, hk2⟩
      obtain ⟨i, tk, e1, e2⟩ := hall _ List.mem_cons_self
      simp only at e1 e2
      subst e1 e2
      refine wpAny_bind (wpAny_holding (wpAny_setFind_of (knd := intKind prog w) (k := i) (intKind_is prog w i tk) rfl SO fun r' hr' => ?_))
      have hki : keyOf (hashInt i, Value.int i tk) = i := rfl
      by_cases hs : S' i = true
      · have hn : r'.isNone = false := by cases r' with
          | none => rw [hs] at hr'; cases hr'
          | some _ => rfl
        rw [hn]
        unfold Builtin.Frozenset.unchanged
        refine wpAny_bind (wpAny_bind (hep _ _ _ ?_))
        rw [if_neg (by simp)]
        refine wpAny_pure (wpAny_pure ⟨rfl, rfl, fun e he => hall e (List.mem_cons_of_mem _ he), ?_⟩)
        rw [hk2]
        constructor
        · exact fun q e he => q e (List.mem_cons_of_mem _ he)
        · intro q e he
          rcases List.mem_cons.mp he with rfl | he
          · rw [hki]; exact hs
          · exact q e he
      · have hn : r'.isNone = true := by cases r' with
          | none => rfl
          | some _ => rw [Option.isSome_some] at hr'; exact absurd hr'.symm hs
        rw [hn]
        have hkf : k = false := by
          cases hkk : k with
          | false => rfl
          | true => exact absurd (hk2.mp hkk _ List.mem_cons_self) (by rw [hki]; exact hs)
        subst hkf
        rw [if_pos rfl]
        exact wpAny_pure (wpAny_pure h)
    · rintro ⟨r1, r2⟩ s2 ⟨rfl, hr, _, hk2⟩
      simp only at hr
      subst hr
      have : k = true := hk2.mpr fun _ h => absurd h List.not_mem_nil
      subst this
      exact wpAny_pure h
    · rw [hk]
      constructor
      · intro q e he
        exact q _ ((hm _).mpr (List.mem_map.mpr ⟨e, he, rfl⟩))
      · intro q i hi
        obtain ⟨e, he, rfl⟩ := List.mem_map.mp ((hm i).mp hi)
        exact q e he
theorem nodup_sub_len : ∀ {l m : List Int}, l.Nodup → (∀ x ∈ l, x ∈ m) → l.length ≤ m.length
  | [], _, _, _ => Nat.zero_le _
  | x :: l, m, nd, h => by
    rw [List.nodup_cons] at nd
    have hx : x ∈ m := h x List.mem_cons_self
    have := nodup_sub_len (m := m.erase x) nd.2 fun y hy => (List.mem_erase_of_ne (show y ≠ x from fun e => nd.1 (by rw [← e]; exact hy))).mpr (h y (List.mem_cons_of_mem _ hy))
    rw [List.length_erase_of_mem hx] at this
    have : 0 < m.length := List.length_pos_of_mem hx
    rw [List.length_cons]
    omega
theorem nodup_sub_eq {l m : List Int} (nd : l.Nodup) (h : ∀ x ∈ l, x ∈ m) (hl : l.length = m.length) : ∀ x ∈ m, x ∈ l := fun x hx => by
  by_cases hxl : x ∈ l
  · exact hxl
  · have := nodup_sub_len (l := x :: l) (m := m) (List.nodup_cons.mpr ⟨hxl, nd⟩) fun y hy => by
      rcases List.mem_cons.mp hy with rfl | hy
      · exact hx
      · exact h y hy
    rw [List.length_cons] at this
    omega
theorem set_eq_tree {a b : Addr} {S S' : Int → Bool} {n m : Nat} {P : PySem.Fin → Shared → Prop} (Ra : SetR w s.heap a S n) (Rb : SetR w s.heap b S' m) (k : Bool) (hk : k = true ↔ ∀ i, S i = S' i) (h : P (.done (.ret (.bool k))) s) :
    wpAny (model prog w) A (Builtin.«frozenset.__eq__» ⟨[.ref a, .ref b], []⟩) P E s := by
  have hTa := (Ra.setOf (P := prog)).typeIs
  have hTb := (Rb.setOf (P := prog)).typeIs
  obtain ⟨es, hes, hg, hnd, hm, he⟩ := setR_entries (prog := prog) Ra
  obtain ⟨es', hes', hg', hnd', hm', he'⟩ := setR_entries (prog := prog) Rb
  have l1 : (es.toList.map keyOf).length = n := by rw [List.length_map, Array.length_toList, hes]
  have l2 : (es'.toList.map keyOf).length = m := by rw [List.length_map, Array.length_toList, hes']
  show wpAny _ _ (Builtin.Frozenset.isAnySet (.ref b) >>= _) P E s
  refine wpAny_bind ?_
  unfold Builtin.Frozenset.isAnySet
  refine wpAny_bind (m := isInstance (.ref b) (.type "set")) (wpAny_isInstance hTb sub_set_self ?_)
  refine wpAny_pure ?_
  rw [if_neg (by decide)]
  refine wpAny_bind (m := Builtin.Frozenset.addrOf (.ref a)) (wpAny_pure (wpAny_bind (m := Builtin.Frozenset.addrOf (.ref b)) (wpAny_pure ?_)))
  refine wpAny_bind (m := Builtin.Frozenset.sizeOf a) (wpAny_bind (he _ _ _ (wpAny_pure (wpAny_bind (m := Builtin.Frozenset.sizeOf b) (wpAny_bind (he' _ _ _ (wpAny_pure ?_)))))))
  rw [hes, hes']
  by_cases hnm : n = m
  · have e1 : (n != m) = false := by rw [hnm]; simp
    simp only [e1, Bool.false_eq_true, if_false]
    refine wpAny_bind (wpAny_bind ?_)
    refine wpAny_bind (m := isInstance (.ref a) (.type "frozenset")) (wpAny_isInstance hTa sub_set_frozen ?_)
    refine wpAny_pure ?_
    rw [if_neg (by decide)]
    refine subset_ok _ Ra Rb (by omega) k ?_ (wpAny_pure h)
    rw [hk]
    constructor
    · intro q i hi
      rw [← q i]
      exact hi
    · intro q i
      have sub : ∀ x ∈ es.toList.map keyOf, x ∈ es'.toList.map keyOf := fun x hx => (hm' x).mp (q x ((hm x).mpr hx))
      have sup := nodup_sub_eq hnd sub (by omega)
      have : S i = true ↔ S' i = true := ⟨q i, fun hi => (hm i).mpr (sup i ((hm' i).mp hi))⟩
      cases h1 : S i <;> cases h2 : S' i <;> simp [h1, h2] at this ⊢
  · have e1 : (n != m) = true := by simpa using hnm
    simp only [e1, if_true]
    have : k = false := by
      cases hkk : k with
      | false => rfl
      | true =>
        have q := hk.mp hkk
        have a1 := nodup_sub_len hnd (m := es'.toList.map keyOf) fun x hx => (hm' x).mp (by rw [← q x]; exact (hm x).mpr hx)
        have a2 := nodup_sub_len hnd' (m := es.toList.map keyOf) fun x hx => (hm x).mp (by rw [q x]; exact (hm' x).mpr hx)
        omega
    subst this
    exact wpAny_bind (wpAny_pure (wpAny_pure h))
theorem set_eq_op {a b : Addr} {S S' : Int → Bool} {n m : Nat} {Q : Value → Shared → Prop} (hu : A.units < cLine) (Ra : SetR w s.heap a S n) (Rb : SetR w s.heap b S' m) (k : Bool) (hk : k = true ↔ ∀ i, S i = S' i) (h : Q (.bool k) s) :
    wpAny (model prog w) A (compareOp .Eq (.ref a) (.ref b)) Q E s := by
  have hTa := (Ra.setOf (P := prog)).typeIs
  have hTb := (Rb.setOf (P := prog)).typeIs
  show wpAny _ _ (richCompare .Eq (.ref a) (.ref b)) Q E s
  exact wpAny_richCompare_same_room hTa hTb PySem.F.slot_set_eq (wpAny_call_entry PySem.F.slot_set_eq hTa entry_set_eq (set_eq_tree Ra Rb k hk ⟨_, rfl, (fun e => nomatch e), h⟩) (PySem.F.args_set_eq_2 _ _)) hu
end
section
variable {X : Cx}
/-- set(t) -/
def rSetT (K : PySem.W.Frag) (w : World) : List V → Hp → VK → Prop := fun vs H Q => ∃ (a : Addr) (ns : List Int), vs = [V.ref a] ∧ SqT K H a (ns.map V.int) ∧ ns.length ≤ 1000 ∧ ∀ p c, H p = none → Q (.ref p) (upd H p (SetO w p (fun j => decide (j ∈ ns)) c))
theorem cr_setT (hc : X.calm = true) : CallR X (.type "set") (rSetT X.K X.w) := by
  intro pins s σ H xs us Q I r h
  obtain ⟨a, ns, rfl, hT, hl, q⟩ := h
  obtain ⟨u, rfl, rx⟩ := vals1 r
  cases rx
  obtain ⟨its, rv, ht, hz⟩ := I.tuple hT
  have hi := intsAre_of rv
  refine call_set_tupI ns (I.ok.hd hc) (show s.heap.IsTuple a its.toArray from ht) hi (Nat.lt_of_le_of_lt (Nat.succ_le_succ hl) (by decide)) fun h' tk c R _ k => ?_
  exact ⟨.ref _, _, I.laid (t' := tk) k (Nat.le_refl _) (setO_new R), rfl, q _ c (I.hok.fresh (Nat.le_refl _))⟩
/-- len(a set) -/
def rLenSet (w : World) : List V → Hp → VK → Prop := fun vs H Q => ∃ (a : Addr) (S : Int → Bool) (n : Nat), vs = [V.ref a] ∧ H a = some (SetO w a S n) ∧ ∀ ks : List Int, ks.Nodup → (∀ k, S k = true ↔ k ∈ ks) → Q (.int ks.length) H
theorem cr_lenSet : CallR X (.builtin "len") (rLenSet X.w) := by
  intro pins s σ H xs us Q I r h
  obtain ⟨a, S, n, rfl, hS, q⟩ := h
  obtain ⟨u, rfl, rx⟩ := vals1 r
  cases rx
  obtain ⟨o, es, ep, t, ho, hx, hd, g, nd, hm, hb, hf, hn, _⟩ := setO_get I hS
  have := q _ nd hm
  rw [List.length_map, Array.length_toList] at this
  refine call_len_set ho hx hd hf (by have := fits_of_scanBound hb; rw [sizeLine_eq] at this; omega) ⟨.int es.size, H, I.tok _, ⟨_, rfl⟩, this⟩
def rEqSet (w : World) : R2 := fun x y H Q => ∃ (a b : Addr) (S S' : Int → Bool) (n m : Nat) (k : Bool), x = .ref a ∧ y = .ref b ∧ H a = some (SetO w a S n) ∧ H b = some (SetO w b S' m) ∧ (k = true ↔ ∀ i, S i = S' i) ∧ Q (.bl k) H
theorem op_eqSet (hu : X.A.units < cLine) : OpR X (compareOp .Eq) (rEqSet X.w) := by
  intro pins s σ H x y v u Q I rx ry h
  obtain ⟨a, b, S, S', n, m, k, rfl, rfl, ha, hb, hk, q⟩ := h
  cases rx
  cases ry
  exact set_eq_op hu (setO_get I ha) (setO_get I hb) k hk ⟨.bl k, H, I, rfl, q⟩
end
end TG
set_option Elab.async false
set_option linter.all false
set_option maxRecDepth 100000
set_option maxHeartbeats 2000000
namespace TG
open PySem PySem.Spec PyProof.Rows L2
open Evl (Ex ex_l ex_t fresh_back)
section
variable {f g : Nat} {X : Cx} {σ : L2.St} {H H' : Hp} {a b c e o : Expr} {es : List Expr} {P P' P1 P2 R : T} {pos apos cpos : Pos} {i j : Int}
/-! ### tuples that have no dict of their own -/
def tTupF (t : TA) : TE := fun σ H Q => t σ H fun xs H1 => xs.length ≤ sizeLine ∧ ∀ p, ∀ ob : Obj, H1 p = none → ob.dict = none → Q (.ref p) (upd H1 p (.frz ob (.tup xs)))
theorem pe_tupF {x1 : Nat} {t : TA} (h : PA X es t) : PE X (.Tuple es x1 pos) (tTupF t) := by
  refine ⟨fun pins s σ H Q I hq => ?_⟩
  refine wpAny_Tuple_spliced (thn (h.run pos pins s σ H _ I hq) fun us s1 ⟨xs, H1, I1, r, z, q⟩ => ⟨by rw [← r.length]; exact z, ?_⟩)
  have hf : H1 s1.heap.objs.size = none := I1.hok.fresh (Nat.le_refl _)
  refine ⟨.ref s1.heap.objs.size, upd H1 s1.heap.objs.size (.frz { cls := .type "tuple", data := .seq us.toArray } (.tup xs)), I1.laid (t' := s1.toks) (fun b u e => Heap.get?_push_of_some _ e) (Nat.le_refl _) ?_, rfl, q _ _ hf rfl⟩
  exact ⟨Heap.get?_push_size _ rfl, z, us, r, ⟨_, Heap.get?_push_size _ rfl, rfl, _, rfl⟩⟩
theorem ev_tup2 {ds : List PyData} {n : Nat} (h : EvA X es σ H (ds.map (Isf 2))) (hl : ds.length ≤ 1000) : EvE X (.Tuple es n pos) σ H (Isf 2 (.tuple ds)) := fun H1 e1 Q q =>
  w_E (pe_tupF (pA es)) (h H1 e1 _ fun vs H2 e2 ps => by
    have r := allP_is ps
    refine ⟨by rw [r.length, sizeLine_eq]; omega, fun t ob hp hd => ?_⟩
    exact q _ _ (e2.trans (Ex.new hp)) (.tup (.inr ⟨by decide, ob, hd, upd_same⟩) (IsAll.ex (Ex.new hp) _ _ r)))
def rCatF (K : PySem.W.Frag) : R2 := fun x y H Q => ∃ a b xs ys, x = .ref a ∧ y = .ref b ∧ Tu 2 H a xs ∧ Tu 2 H b ys ∧ xs.length + ys.length ≤ 1000 ∧ ∀ p H', Ex H H' → Tu 2 H' p (xs ++ ys) → Q (.ref p) H'
theorem op_catF : OpR X (binaryOp .Add) (rCatF X.K) := by
  intro pins s σ H x y v u Q I rx ry h
  obtain ⟨a, b, xs, ys, rfl, rfl, ha, hb, hz, q⟩ := h
  cases rx
  cases ry
  obtain ⟨its, r1, p1, _⟩ := I.tuple ha.sq
  obtain ⟨its2, r2, p2, _⟩ := I.tuple hb.sq
  have l1 : its.length = xs.length := r1.length.symm
  have l2 : its2.length = ys.length := r2.length.symm
  by_cases hx : xs = []
  · subst hx
    cases r1
    exact cat_tup0 p1 p2 ⟨.ref b, H, I, rfl, q _ _ (Ex.refl H) hb⟩
  · refine HT.cat_tup p1 p2 (fun z => hx ?_) (fun z => ?_) (fun z => ?_) (by rw [l1, l2, sizeLine_eq]; omega)
    · rw [z] at l1
      exact List.eq_nil_of_length_eq_zero l1.symm
    · rw [z] at l2
      have : ys = [] := List.eq_nil_of_length_eq_zero l2.symm
      subst this
      exact ⟨.ref a, H, I, rfl, q _ _ (Ex.refl H) (by rw [List.append_nil]; exact ha)⟩
    · have hf : H s.heap.objs.size = none := I.hok.fresh (Nat.le_refl _)
      refine ⟨.ref s.heap.objs.size, _, I.laid (t' := s.toks) (o := .frz { cls := .type "tuple", data := .seq (its ++ its2).toArray } (.tup (xs ++ ys))) (fun b ob q => Heap.get?_push_of_some _ q) (Nat.le_refl _) ?_, rfl, q _ _ (Ex.new hf) (.inr ⟨by decide, _, rfl, upd_same⟩)⟩
      refine ⟨Heap.get?_push_size _ rfl, ?_, _, r1.append r2, IsTup.new _ _⟩
      rw [List.length_append, sizeLine_eq]; omega
theorem ev_catF {ds es' : List PyData} (ha : EvE X a σ H (Isf 2 (.tuple ds))) (hb : EvE X b σ H (Isf 2 (.tuple es'))) (hz : ds.length + es'.length ≤ 1000) : EvE X (.BinOp a .Add b pos) σ H (Isf 2 (.tuple (ds ++ es'))) :=
  ev_op op_catF ha hb fun x y H1 _ p1 p2 Q q => by
    obtain ⟨a, xs, rfl, ha, r⟩ := is_tuple p1
    obtain ⟨b, ys, rfl, hb, r'⟩ := is_tuple p2
    exact ⟨a, b, xs, ys, rfl, rfl, ha, hb, by rw [r.length, r'.length]; exact hz, fun p H' e t => q _ H' e (.tup t (IsAll.ex e _ _ (r.app r')))⟩
/-- .. of rows -/
theorem ev_catR {xs ys : List Int} (ha : EvE X a σ H (Isf 2 (dRow xs))) (hb : EvE X b σ H (Isf 2 (dRow ys))) (hz : xs.length + ys.length ≤ 1000) : EvE X (.BinOp a .Add b pos) σ H (Isf 2 (dRow (xs ++ ys))) := by
  have := ev_catF (pos := pos) ha hb (by rw [List.length_map, List.length_map]; exact hz)
  unfold dRow
  rw [List.map_append]
  exact this
/-- t.index(k) -/
theorem ev_tupix {xs : List Int} {k : Int} {n : Nat} (ha : EvE X o σ H (Isf 2 (dRow xs))) (hb : EvE X e σ H (Is (.int k))) (hn : xs[n]? = some k) (hno : ∀ m, m < n → xs[m]? ≠ some k)
    (hbase : attributeBase o "index" X.env (eval o X.env) = eval o X.env := by rfl)
    (hfew : ((backTo cpos (starEach [e] X.env)).all (fun x => !x.1) && (backToKw cpos (keywordEach [] X.env)).all (fun x => x.1.isSome)
      && decide (([e] : List Expr).length + ([] : List Keyword).length + (if ([] : List Keyword).isEmpty then 0 else 1) < 30)) = true := by rfl)
    (hline : (apos.endLine == cpos.line) = true := by rfl) (hs : starEach [e] X.env = (false, eval e X.env) :: starEach [] X.env := by rfl) (hplain : (backTo cpos (starEach [] X.env)).any (·.1) = false := by rfl) :
    EvE X (.Call (.Attribute o "index" apos) [e] [] cpos) σ H (Is (.int n)) := fun H1 e1 Q q pins s I => by
  refine wpAny_Call_method_late hbase hfew hline rfl (thn ((pE o).run pins s σ H1 (fun x H2 => Ex H1 H2 ∧ Isf 2 (dRow xs) H2 x) I (ha H1 e1 _ fun v H2 e2 p => ⟨e2, p⟩)) fun v s1 ⟨x, H2, I2, r2, e2, p⟩ => ?_)
  obtain ⟨p', rfl, hp'⟩ := is_rowF p
  obtain ⟨ob, hd, hp⟩ := hp'.froz
  cases r2
  obtain ⟨hob, its, r, ht, hz⟩ : s1.heap.get? p' = some ob ∧ ∃ its : List Value, Vals (xs.map V.int) its ∧ IsTup s1.heap p' its.toArray ∧ (xs.map V.int).length ≤ sizeLine := by
    obtain ⟨h1, _⟩ := (show ObjOk X.prog X.w H2 s1.heap p' (.frz ob (.tup (xs.map V.int))) from I2.hok _ _ hp)
    exact ⟨h1, I2.tuple (show SqT X.K H2 p' (xs.map V.int) from .inl (.inr ⟨ob, hp⟩))⟩
  refine ⟨"tuple", "tuple.index", PySem.F.plainAttrs_tuple, PySem.F.slot_tuple_index, PySem.F.type_tuple_index, ht.typeIs, fun b eb => ?_, ?_⟩
  · cases eb
    exact ⟨ob, hob, hd⟩
  have hA := (pA [e]).run cpos pins s1 σ H2 (fun vs H3 => Ex H2 H3 ∧ vs = [.int k]) I2 (fun pos => (ea_cons hb ea_nil hs) H2 (e1.trans e2) _ (fun vs H3 e3 ap => ⟨e3, by
    obtain ⟨v, rfl, pv⟩ := allP1 ap
    rw [is_int pv]⟩) pos)
  rw [hs] at hA ⊢
  refine Calls.callWith_builtin (by show (false || (backTo cpos (starEach [] X.env)).any (·.1)) = false; rw [hplain] <;> rfl) (Calls.evalArgs_plain ?_)
  exact thn hA fun us s2 ⟨vs, H3, I3, r3, e3, hv⟩ => mt_tupix pins s2 σ H3 (.ref p') vs _ us Q I3 rfl r3 ⟨p', xs, k, n, rfl, hv, .inl (.inr ⟨ob, e3 _ _ hp⟩), hn, hno, q _ H3 (e2.trans e3) (.int _)⟩
end
end TG
set_option Elab.async false
set_option linter.all false
set_option maxRecDepth 100000
set_option maxHeartbeats 2000000
namespace TG
open PySem PySem.Spec PyProof.Rows L2
open Evl (Ex ex_l ex_t fresh_back)
section
variable {P : Program} {w : World} {K : PySem.W.Frag} {mg : Str → Option Value} {base : Heap} {CR CD : Addr}
theorem ev_i {X : Cx} {σ : L2.St} {H : Hp} {e : Expr} {f : Nat} {i : Int} (h : EvE X e σ H (Isf f (.int i))) : EvE X e σ H (Is (.int i)) := h.imp fun _ _ _ p => isD_int p
theorem pgv {X : Cx} {n : Nat} {x : Str} {px : Pos} (hN : X.N.Nodup) (hi : X.N[n]? = some x := by rfl) (hx : Loc X.env.scope x := by first | exact Or.inl rfl | exact Or.inr rfl) (hf : X.fn x = true ∨ X.env.scope.names.lookup x = some .local := by first | exact .inl rfl | exact .inr rfl) : PG X (.Name x px) (gName n) := pg_name hN hi hx hf
/-! ### signed -/
def a_signed : List T → T → Prop := fun Ps R => ∃ (i : Int) (b : Bool), Ps = [Is (.int i), Is (dB b)] ∧ R = Is (.int (Vamete.signed b i))
theorem sc_signed : FnScope ["number", "sign"] ["number", "sign"] (defScope s_signed) := ⟨rfl, rfl, rfl, by decide +kernel, rfl, by decide +kernel, by decide +kernel⟩
theorem d_signed (t : Txt K mg CR CD) : Def P w K mg base 1 "signed" ["number", "sign"] (Prom a_signed) := by
  refine def_of t.f_signed sc_signed (fun _ _ ⟨_, _, h, _⟩ => h ▸ rfl) (fun _ _ _ _ _ _ us hl => match us, hl with | [_, _], _ => rfl) ?_
  intro f cdv A0 outer s H E vs Ps R Q hr hA ap hq
  obtain ⟨i, b, rfl, rfl⟩ := hA
  obtain ⟨v, u, rfl, hv, hu⟩ := allP2 ap
  refine go_ifr (et_eq (vr 1 hu) ev_int) (fun h H1 e1 => go_ret (ev_sub ev_int (vr 0 (hv.ex' e1))) fun v H2 e2 p => hq v H2 (e1.trans e2) ?_) (fun h H1 e1 => go_ret (vr 0 (hv.ex' e1)) fun v H2 e2 p => hq v H2 (e1.trans e2) ?_)
  · cases b with
    | true => exact p
    | false => exact absurd h (by decide)
  · cases b with
    | true => exact absurd h (by decide)
    | false => exact p
theorem ints_at {r : List Int} {p : Nat} (h : p < r.length) : (r.map PyData.int)[p]? = some (.int ((r[p]?).getD 0)) := by
  rw [List.getElem?_map, List.getElem?_eq_getElem h]
  rfl
theorem map_at {α : Type} {l : List α} {F : α → PyData} {p : Nat} (d : α) (h : p < l.length) : (l.map F)[p]? = some (F ((l[p]?).getD d)) := by
  rw [List.getElem?_map, List.getElem?_eq_getElem h]
  rfl
/-- a turn of n places -/
structure Wf (n : Nat) (t : Vamete.Turn) : Prop where
  pl : t.places.length = n
  sl : t.signs.length = n
  lt : ∀ p ∈ t.places, p < n
/-! ### turned -/
def a_turned : List T → T → Prop := fun Ps R => ∃ (n f : Nat) (t : Vamete.Turn) (r : List Int), Ps = [Isf 1 (dT t), Isf f (dRow r)] ∧ Wf n t ∧ r.length = n ∧ n ≤ 1000 ∧ R = Is (dRow (Vamete.turned t r))
theorem sc_turned : FnScope ["turn", "row", "places", "signs", "place", "sign"] ["turn", "row"] (defScope s_turned) := ⟨rfl, rfl, rfl, by decide +kernel, rfl, by decide +kernel, by decide +kernel⟩
theorem d_turned (t : Txt K mg CR CD) : Def P w K mg base 2 "turned" ["turn", "row"] (Prom a_turned) := by
  refine def_of t.f_turned sc_turned (fun _ _ ⟨_, _, _, _, h, _⟩ => h ▸ rfl) (fun _ _ _ _ _ _ us hl => match us, hl with | [_, _], _ => rfl) ?_
  intro f cdv A0 outer s H E vs Ps R Q hr hA ap hq
  obtain ⟨n, ff, t1, r, rfl, wf, hl, hn, rfl⟩ := hA
  obtain ⟨v, u, rfl, hv, hu⟩ := allP2 ap
  refine go_un2 (n := 2) (m := 3) (vr 0 hv) (fun pv sv H1 e1 hpv hsv => ?_) (pg2 rfl sc_turned.nd)
  refine go_ret (ev_tupleL t.b_tuple (ev_lcP (g := 0) (F := fun z => .int (Vamete.signed z.2 ((r[z.1]?).getD 0))) (j := 4) (k := 5) rfl sc_turned.nd (src_zip t.b_zip (vr 2 hpv) (vr 3 hsv)) (blkOk_by (N := ["turn", "row", "places", "signs", "place", "sign"]) (sc := defScope s_turned) (by decide +kernel)) (by decide) (by rw [wf.pl]; omega) (fun _ _ => rfl) (fun _ _ _ _ _ => pg2 rfl sc_turned.nd) (fun z hz H2 a b e2 ha hb => fun s' H0 C cl fp => ?_)) ?_) (fun v H2 e2 p => hq v H2 (e1.trans e2) ?_)
  · exact ev_call (d_signed t) hr (ea_cons (ev_i (ev_ixT (vr 1 (hu.ex' (e1.trans e2))) (vr 4 (isD_int (g := 0) ha)) (atI_nat (ints_at (by rw [hl]; exact wf.lt _ (List.of_mem_zip hz).1))))) (ea_cons (vr 5 (isD_int (g := 0) hb)) ea_nil)) ⟨_, _, rfl, rfl⟩
  · exact imms_map (fun _ => rfl) _
  · show IsD 0 H2 (.tuple ((Vamete.turned t1 r).map .int)) v
    unfold Vamete.turned
    rw [List.map_map]
    exact p
/-! ### behind -/
def a_behind : List T → T → Prop := fun Ps R => ∃ (n : Nat) (t s : Vamete.Turn), Ps = [Isf 1 (dT s), Isf 1 (dT t)] ∧ Wf n t ∧ Wf n s ∧ n ≤ 1000 ∧ R = Is (dT (Vamete.after t s))
theorem sc_behind : FnScope ["first", "then", "places", "signs", "place", "sign"] ["first", "then"] (defScope s_behind) := ⟨rfl, rfl, rfl, by decide +kernel, rfl, by decide +kernel, by decide +kernel⟩
theorem d_behind (t : Txt K mg CR CD) : Def P w K mg base 1 "behind" ["first", "then"] (Prom a_behind) := by
  refine def_of t.f_behind sc_behind (fun _ _ ⟨_, _, _, h, _⟩ => h ▸ rfl) (fun _ _ _ _ _ _ us hl => match us, hl with | [_, _], _ => rfl) ?_
  intro f cdv A0 outer s H E vs Ps R Q hr hA ap hq
  obtain ⟨n, t1, s1, rfl, wt, ws, hn, rfl⟩ := hA
  obtain ⟨v, u, rfl, hv, hu⟩ := allP2 ap
  refine go_set (n := 2) (P := Is (.tuple (t1.places.map fun p => dN ((s1.places[p]?).getD 0)))) (ev_tupleL t.b_tuple (ev_lc0 (g := 0) (l := t1.places) (enc := dN) (F := fun p => dN ((s1.places[p]?).getD 0)) (j := 4) rfl sc_behind.nd (src_tup (ev_ixT (d := .tuple (t1.places.map dN)) (vr 1 hu) ev_int rfl)) (blkOk_by (N := ["first", "then", "places", "signs", "place", "sign"]) (sc := defScope s_behind) (by decide +kernel)) (by rw [wt.pl]; omega) (fun _ _ => rfl) (fun _ _ _ _ _ => pgv sc_behind.nd) (fun z hz H2 a e2 ha => fun s' H0 C cl fp => ?_)) ?_) (fun pv H1 e1 hp => ?_) sc_behind.nd
  · exact ev_i (ev_ixT (ev_ixT (d := .tuple (s1.places.map dN)) (vr 0 (hv.ex' e2)) ev_int rfl) (vr 4 (isD_int (g := 0) ha)) (atI_nat (map_at 0 (by rw [ws.pl]; exact wt.lt _ hz))))
  · exact imms_map (fun _ => rfl) _
  refine go_set (n := 3) (P := Is (.tuple ((t1.places.zip t1.signs).map fun p => dB (p.2 != (s1.signs[p.1]?).getD false)))) (ev_tupleL t.b_tuple (ev_lcP (g := 0) (l := t1.places) (m := t1.signs) (enc := dN) (enc2 := dB) (F := fun p => dB (p.2 != (s1.signs[p.1]?).getD false)) (j := 4) (k := 5) rfl sc_behind.nd (src_zip t.b_zip (ev_ixT (d := .tuple (t1.places.map dN)) (vr 1 (hu.ex' e1)) ev_int rfl) (ev_ixT (d := .tuple (t1.signs.map dB)) (vr 1 (hu.ex' e1)) ev_int rfl)) (blkOk_by (N := ["first", "then", "places", "signs", "place", "sign"]) (sc := defScope s_behind) (by decide +kernel)) (by decide) (by rw [wt.pl]; omega) (fun _ _ => rfl) (fun _ _ _ _ _ => pg2 rfl sc_behind.nd) (fun z hz H2 a b e2 ha hb => fun s' H0 C cl fp => ?_)) ?_) (fun sv H2 e2 hs => ?_) sc_behind.nd
  · refine (ev_mod (i := (if z.2 then 1 else 0) + (if (s1.signs[z.1]?).getD false then 1 else 0)) (j := 2) (ev_add (vr 5 (isD_int (g := 0) hb)) (ev_i (ev_ixT (ev_ixT (d := .tuple (s1.signs.map dB)) (vr 0 (hv.ex' (e1.trans e2))) ev_int rfl) (vr 4 (isD_int (g := 0) ha)) (atI_nat (map_at false (by rw [ws.sl]; exact wt.lt _ (List.of_mem_zip hz).1)))))) ev_int (by decide)).imp fun _ _ _ p => ?_
    have : ∀ a b : Bool, ((if a then (1 : Int) else 0) + (if b then 1 else 0)) % 2 = if (a != b) then 1 else 0 := by decide
    rw [this] at p
    exact p
  · exact imms_map (fun _ => rfl) _
  refine go_ret (ev_tup (f := 0) (ds := [_, _]) (ea_cons (vr 2 (hp.ex' e2)) (ea_cons (vr 3 hs) ea_nil)) (by show 2 ≤ 1000; omega)) (fun v H3 e3 p => hq v H3 ((e1.trans e2).trans e3) ?_)
  show IsD 0 H3 (.tuple [.tuple ((Vamete.after t1 s1).places.map dN), .tuple ((Vamete.after t1 s1).signs.map dB)]) v
  unfold Vamete.after
  rw [List.map_map, List.map_map]
  exact p
end
end TG
set_option Elab.async false
set_option linter.all false
set_option maxRecDepth 100000
set_option maxHeartbeats 2000000
namespace TG
open PySem PySem.Spec PyProof.Rows L2
open Evl (Ex ex_l ex_t fresh_back)
section
variable {P : Program} {w : World} {K : PySem.W.Frag} {mg : Str → Option Value} {base : Heap} {CR CD : Addr}
section
variable {f g : Nat} {X : Cx} {σ : L2.St} {H H' H0 : Hp} {a b c e o iter : Expr} {es : List Expr} {Q1 Q2 R : T} {pos apos cpos fpos : Pos} {i j : Int} {D : Ends} {rest body as bs : List Stmt} {A B : Addr} {ds ds2 : List PyData} {d : PyData}
/-- just that place -/
def RefIs (A : Addr) : T := fun _ v => v = .ref A
instance : Sta (RefIs A) := ⟨fun _ h => h⟩
theorem vrR (n : Nat) {x : Str} (A : Addr) (h : σ[n]? = some (some (.ref A)) := by rfl) (hN : X.N[n]? = some x := by rfl) (hv : Vis X.env.scope x := by first | exact Or.inl rfl | exact Or.inr (Or.inl rfl) | exact Or.inr (Or.inr rfl)) (hd : (x == ("__debug__" : Str)) = false := by decide)
    (hcd : (x == ("__classdict__" : Str)) = false := by decide) : EvE X (.Name x pos) σ H (RefIs A) := ev_var h rfl hN hv hd hcd
/-- a list laid anew -/
def NewL (f : Nat) (H0 : Hp) (ds : List PyData) : T := fun H v => ∃ A xs, v = .ref A ∧ H0 A = none ∧ H A = some (.lst xs) ∧ IsAll f H ds xs
theorem ev_lstN (h : EvA X es σ H (ds.map (Isf f))) (hl : ds.length ≤ 1000) : EvE X (.List es pos) σ H (NewL f H ds) := fun H1 e1 Q q =>
  w_E (pe_lst (pA es)) (h H1 e1 _ fun vs H2 e2 ps => by
    have r := allP_is ps
    exact ⟨Nat.le_of_lt (small1000 (by rw [r.length]; exact hl)), fun p hp => q _ _ (e2.trans (Ex.new hp)) ⟨p, _, rfl, fresh_back (e1.trans e2) hp, upd_same, IsAll.ex (Ex.new hp) _ _ r⟩⟩)
theorem ev_nil : EvE X (.List [] pos) σ H (NewL f H []) := ev_lstN ea_nil (Nat.zero_le _)
/-- a list that is filled: at the base H0 it was not there -/
structure Acc (g : Nat) (H0 : Hp) (A : Addr) (ds : List PyData) (H : Hp) : Prop where
  ex : Ex H0 H
  at_ : ∃ xs, H A = some (.lst xs) ∧ IsAll g H ds xs
theorem Acc.up {H1 : Hp} (h : Acc g H0 A ds H) (e : Ex H H1) : Acc g H0 A ds H1 := by
  obtain ⟨x, xs, h1, r⟩ := h
  exact ⟨x.trans e, xs, e _ _ h1, IsAll.ex e _ _ r⟩
theorem Acc.is (h : Acc g H0 A ds H) : IsD g H (.list ds) (.ref A) := by
  obtain ⟨x, xs, h1, r⟩ := h
  exact .lst h1 r
theorem Acc.put {H1 : Hp} {xs ys : List V} (h0 : H0 A = none) (e : Ex H0 H1) (h1 : H1 A = some (.lst xs)) (r : IsAll g H1 ds xs) (r2 : IsAll g H1 ds2 ys) (i1 : imms ds = true) (i2 : imms ds2 = true) : Acc g H0 A (ds ++ ds2) (upd H1 A (.lst (xs ++ ys))) := by
  have tx : Tx H1 (upd H1 A (.lst (xs ++ ys))) := tx_upd fun u h s => by rw [h1] at h; cases h; exact s
  exact ⟨e.mut h0, _, upd_same, (IsAll.tx tx _ _ i1 r).app (IsAll.tx tx _ _ i2 r2)⟩
theorem go_app {xs : List V} {P : T} (ho : EvE X o σ H (RefIs A)) (hA : H A = some (.lst xs)) (hz : xs.length < 100000) (he : EvE X e σ H P) (k : ∀ y H1, Ex H H1 → P H1 y → tSs X rest D σ (upd H1 A (.lst (xs ++ [y]))))
    (hb : attributeBase o "append" X.env (eval o X.env) = eval o X.env := by rfl)
    (hfew : ((backTo cpos (starEach [e] X.env)).all (fun x => !x.1) && (backToKw cpos (keywordEach [] X.env)).all (fun x => x.1.isSome)
      && decide (([e] : List Expr).length + ([] : List Keyword).length + (if ([] : List Keyword).isEmpty then 0 else 1) < 30)) = true := by rfl)
    (hline : (apos.endLine == cpos.line) = true := by rfl) (hs : starEach [e] X.env = (false, eval e X.env) :: starEach [] X.env := by rfl) (hpl : (backTo cpos (starEach [] X.env)).any (·.1) = false := by rfl)
    (hw : swapsWith (.Call (.Attribute o "append" apos) [e] [] cpos) none pos.line X.env = pure false := by rfl) : tSs X (.Expr (.Call (.Attribute o "append" apos) [e] [] cpos) pos :: rest) D σ H :=
  w_Ss (pss_cons (ps_expr (pe_bm PySem.F.plainAttrs_list PySem.F.slot_list_append PySem.F.type_list_append mt_append (pE o) (pa_cons (pE e) pa_nil hs) hb hfew hline hs hpl) hw) (pSs rest)) (ho H (Ex.refl H) _ fun v H1 e1 p => by
    cases p
    exact ⟨Or.inl ⟨rfl, xs, SqL.of (e1 _ _ hA)⟩, he H1 e1 _ fun y H2 e2 py => ⟨A, xs, y, rfl, rfl, (e1.trans e2) _ _ hA, Nat.lt_trans hz (by decide), k y H2 (e1.trans e2) py⟩⟩)
theorem go_ext {xs : List V} (ho : EvE X o σ H (RefIs A)) (hA : H A = some (.lst xs)) (he : EvE X e σ H (Isf f (.list ds))) (hz : xs.length + ds.length ≤ 100000) (k : ∀ ys H1, Ex H H1 → IsAll f H1 ds ys → tSs X rest D σ (upd H1 A (.lst (xs ++ ys))))
    (hb : attributeBase o "extend" X.env (eval o X.env) = eval o X.env := by rfl)
    (hfew : ((backTo cpos (starEach [e] X.env)).all (fun x => !x.1) && (backToKw cpos (keywordEach [] X.env)).all (fun x => x.1.isSome)
      && decide (([e] : List Expr).length + ([] : List Keyword).length + (if ([] : List Keyword).isEmpty then 0 else 1) < 30)) = true := by rfl)
    (hline : (apos.endLine == cpos.line) = true := by rfl) (hs : starEach [e] X.env = (false, eval e X.env) :: starEach [] X.env := by rfl) (hpl : (backTo cpos (starEach [] X.env)).any (·.1) = false := by rfl)
    (hw : swapsWith (.Call (.Attribute o "extend" apos) [e] [] cpos) none pos.line X.env = pure false := by rfl) : tSs X (.Expr (.Call (.Attribute o "extend" apos) [e] [] cpos) pos :: rest) D σ H :=
  w_Ss (pss_cons (ps_expr (pe_bm PySem.F.plainAttrs_list PySem.F.slot_list_extend PySem.F.type_list_extend mt_extend (pE o) (pa_cons (pE e) pa_nil hs) hb hfew hline hs hpl) hw) (pSs rest)) (ho H (Ex.refl H) _ fun v H1 e1 p => by
    cases p
    exact ⟨Or.inl ⟨rfl, xs, SqL.of (e1 _ _ hA)⟩, he H1 e1 _ fun y H2 e2 py => by
      obtain ⟨B, ys, rfl, hB, r⟩ := is_list py
      exact ⟨A, B, xs, ys, rfl, rfl, (e1.trans e2) _ _ hA, hB, Nat.le_trans (by rw [r.length]; exact hz) (by decide), k ys H2 (e1.trans e2) r⟩⟩)
/-- found.extend(e), found filled -/
theorem go_accExt (h0 : H0 A = none) (ac : Acc g H0 A ds H) (ho : EvE X o σ H (RefIs A)) (he : EvE X e σ H (Isf g (.list ds2))) (hz : ds.length + ds2.length ≤ 100000) (i1 : imms ds = true) (i2 : imms ds2 = true) (k : ∀ H1, Acc g H0 A (ds ++ ds2) H1 → Tx H H1 → tSs X rest D σ H1)
    (hb : attributeBase o "extend" X.env (eval o X.env) = eval o X.env := by rfl)
    (hfew : ((backTo cpos (starEach [e] X.env)).all (fun x => !x.1) && (backToKw cpos (keywordEach [] X.env)).all (fun x => x.1.isSome)
      && decide (([e] : List Expr).length + ([] : List Keyword).length + (if ([] : List Keyword).isEmpty then 0 else 1) < 30)) = true := by rfl)
    (hline : (apos.endLine == cpos.line) = true := by rfl) (hs : starEach [e] X.env = (false, eval e X.env) :: starEach [] X.env := by rfl) (hpl : (backTo cpos (starEach [] X.env)).any (·.1) = false := by rfl)
    (hw : swapsWith (.Call (.Attribute o "extend" apos) [e] [] cpos) none pos.line X.env = pure false := by rfl) : tSs X (.Expr (.Call (.Attribute o "extend" apos) [e] [] cpos) pos :: rest) D σ H := by
  obtain ⟨x, xs, h1, r⟩ := ac
  refine go_ext ho h1 he (by rw [r.length]; exact hz) (fun ys H1 e1 r2 => ?_) hb hfew hline hs hpl hw
  exact k _ (Acc.put h0 (x.trans e1) (e1 _ _ h1) (IsAll.ex e1 _ _ r) r2 i1 i2) ((tx_of e1).trans (tx_upd fun u h s => by rw [e1 _ _ h1] at h; cases h; exact s))
theorem go_accApp (h0 : H0 A = none) (ac : Acc g H0 A ds H) (ho : EvE X o σ H (RefIs A)) (he : EvE X e σ H (Isf g d)) (hz : ds.length < 100000) (i1 : imms ds = true) (i2 : imm d = true) (k : ∀ H1, Acc g H0 A (ds ++ [d]) H1 → Tx H H1 → tSs X rest D σ H1)
    (hb : attributeBase o "append" X.env (eval o X.env) = eval o X.env := by rfl)
    (hfew : ((backTo cpos (starEach [e] X.env)).all (fun x => !x.1) && (backToKw cpos (keywordEach [] X.env)).all (fun x => x.1.isSome)
      && decide (([e] : List Expr).length + ([] : List Keyword).length + (if ([] : List Keyword).isEmpty then 0 else 1) < 30)) = true := by rfl)
    (hline : (apos.endLine == cpos.line) = true := by rfl) (hs : starEach [e] X.env = (false, eval e X.env) :: starEach [] X.env := by rfl) (hpl : (backTo cpos (starEach [] X.env)).any (·.1) = false := by rfl)
    (hw : swapsWith (.Call (.Attribute o "append" apos) [e] [] cpos) none pos.line X.env = pure false := by rfl) : tSs X (.Expr (.Call (.Attribute o "append" apos) [e] [] cpos) pos :: rest) D σ H := by
  obtain ⟨x, xs, h1, r⟩ := ac
  refine go_app ho h1 (by rw [r.length]; exact hz) he (fun y H1 e1 py => ?_) hb hfew hline hs hpl hw
  exact k _ (Acc.put h0 (x.trans e1) (e1 _ _ h1) (IsAll.ex e1 _ _ r) (.cons py .nil) i1 (by show (imm d && true) = true; rw [i2]; rfl)) ((tx_of e1).trans (tx_upd fun u h s => by rw [e1 _ _ h1] at h; cases h; exact s))
/-- for tg in that list -/
theorem go_forX {α : Type} {l : List α} {enc : α → PyData} {gt : TG} {tg : Expr} {xs : List V} (Pv : Nat → L2.St → Hp → Prop) (hp : PassesOwn (model X.prog X.w) X.A X.env X.xe) (hc : X.calm = true) (hI : EvE X iter σ H (RefIs A)) (hA : H A = some (.lst xs)) (r : IsAll f H (l.map enc) xs) (hg : PG X tg gt)
    (h0 : ∀ H', Ex H H' → Pv 0 σ H') (hl : ∀ i σ' H', i ≤ l.length → Pv i σ' H' → H' A = some (.lst xs))
    (ht : ∀ (i : Nat) (x : α) (v : V) (σ' : L2.St) (H' : Hp), l[i]? = some x → xs[i]? = some v → IsD f H (enc x) v → Pv i σ' H' → gt v σ' H' fun σ2 H2 => tSs X body { D with nx := Pv (i + 1), ct := Pv (i + 1), bk := tSs X rest D } σ2 H2)
    (hd : ∀ σ' H', Pv l.length σ' H' → tSs X rest D σ' H')
    (hs : ∀ x, foldedSetIterable iter X.env x = pure x := by intro _; rfl) : tSs X (.For tg iter body [] pos :: rest) D σ H :=
  go_for hp hc (pi_list (pE iter)) hg (hI H (Ex.refl H) _ fun v H1 e1 p => by
    cases p
    have hlen : xs.length = l.length := by rw [r.length, List.length_map]
    refine ⟨A, rfl, ⟨xs, SqL.of (e1 _ _ hA)⟩, for_list (K := X.K) (a := A) (xs := xs) Pv (h0 _ e1) (fun i σ' H' hi p => SqL.of (hl i σ' H' (by omega) p)) (fun i v σ' H' hv p => ?_) (fun σ' H' p => hd σ' H' (by rw [← hlen]; exact p))⟩
    have hi : i < l.length := by rw [← hlen]; exact (List.getElem?_eq_some_iff.mp hv).1
    have hx : l[i]? = some l[i] := List.getElem?_eq_getElem hi
    obtain ⟨v', hv', pv⟩ := r.get (i := i) (d := enc l[i]) (by rw [List.getElem?_map, hx]; rfl)
    rw [hv] at hv'
    cases hv'
    exact ht i l[i] v σ' H' hx hv pv p) hs
theorem imms_app : ∀ {l m : List PyData}, imms l = true → imms m = true → imms (l ++ m) = true
  | [], _, _, h => h
  | x :: l, m, h, h2 => by
    have := Bool.and_eq_true_iff.mp h
    show (imm x && imms (l ++ m)) = true
    rw [this.1, imms_app this.2 h2]
    rfl
theorem take_succ_map {α β : Type} {l : List α} {i : Nat} {x : α} (G : α → List β) (h : l[i]? = some x) : (l.take (i + 1)).flatMap G = (l.take i).flatMap G ++ G x := by
  rw [List.take_add_one, h]
  simp
theorem flat_take_len {α β : Type} (l : List α) (G : α → List β) (i : Nat) : ((l.take i).flatMap G).length ≤ (l.flatMap G).length := by
  have : l.flatMap G = (l.take i).flatMap G ++ (l.drop i).flatMap G := by rw [← List.flatMap_append, List.take_append_drop]
  rw [this, List.length_append]
  omega
/-- for x in l: acc.extend(e) -/
theorem set_self {σ : L2.St} {n : Nat} {on : Option V} (hn : σ[n]? = some on) : σ = σ.set n on := by
  apply List.ext_getElem?
  intro m
  rw [List.getElem?_set]
  split
  · rename_i h; subst h; rw [hn]; split <;> simp_all
  · rfl
theorem go_growFor {α β : Type} {l : List α} {enc : α → PyData} {G : α → List β} {encB : β → PyData} {xs : List V} {n : Nat} {x : Str} {px fpos : Pos} {on : Option V} (hp : PassesOwn (model X.prog X.w) X.A X.env X.xe) (hc : X.calm = true) (hg : PG X (.Name x px) (gName n))
    (hI : EvE X iter σ H (RefIs A)) (h0 : H0 B = none) (hA : H0 A = some (.lst xs)) (r : IsAll f H0 (l.map enc) xs) (ac : Acc g H0 B ds H) (hn : σ[n]? = some on)
    (hO : ∀ u H', EvE X o (σ.set n (some u)) H' (RefIs B))
    (hE : ∀ z ∈ l, ∀ v H', Ex H0 H' → IsD f H0 (enc z) v → EvE X e (σ.set n (some v)) H' (Isf g (.list ((G z).map encB))))
    (him : ∀ z, imm (encB z) = true) (hid : imms ds = true) (hz : ds.length + (l.flatMap G).length ≤ 100000)
    (k : ∀ u H', Acc g H0 B (ds ++ (l.flatMap G).map encB) H' → tSs X rest D (σ.set n u) H')
    (hs : ∀ x, foldedSetIterable iter X.env x = pure x := by intro _; rfl)
    (hb : attributeBase o "extend" X.env (eval o X.env) = eval o X.env := by rfl)
    (hfew : ((backTo cpos (starEach [e] X.env)).all (fun x => !x.1) && (backToKw cpos (keywordEach [] X.env)).all (fun x => x.1.isSome)
      && decide (([e] : List Expr).length + ([] : List Keyword).length + (if ([] : List Keyword).isEmpty then 0 else 1) < 30)) = true := by rfl)
    (hline : (apos.endLine == cpos.line) = true := by rfl) (hst : starEach [e] X.env = (false, eval e X.env) :: starEach [] X.env := by rfl) (hpl : (backTo cpos (starEach [] X.env)).any (·.1) = false := by rfl)
    (hw : swapsWith (.Call (.Attribute o "extend" apos) [e] [] cpos) none pos.line X.env = pure false := by rfl) : tSs X (.For (.Name x px) iter [.Expr (.Call (.Attribute o "extend" apos) [e] [] cpos) pos] [] fpos :: rest) D σ H := by
  have e00 := ac.ex
  refine go_forX (l := l) (enc := enc) (f := f) (xs := xs) (A := A) (fun i σ' H' => ∃ u, σ' = σ.set n u ∧ Acc g H0 B (ds ++ ((l.take i).flatMap G).map encB) H') hp hc hI (e00 _ _ hA) (IsAll.ex e00 _ _ r) hg ?_ ?_ ?_ ?_ hs
  · intro H1 e1
    exact ⟨on, set_self hn, by rw [List.take_zero, List.flatMap_nil, List.map_nil, List.append_nil]; exact ac.up e1⟩
  · rintro i σ' H' _ ⟨u, rfl, a1⟩
    exact a1.ex _ _ hA
  · rintro i z v σ' H' hz' hxv pv ⟨u, rfl, a1⟩
    show tSs X _ _ ((σ.set n u).set n (some v)) H'
    rw [List.set_set]
    obtain ⟨v0, hv0, pv0⟩ := r.get (i := i) (d := enc z) (by rw [List.getElem?_map, hz']; rfl)
    rw [hxv] at hv0
    cases hv0
    refine go_accExt h0 a1 (hO v H') (hE z (List.mem_of_getElem? hz') v H' a1.ex pv0) ?_ (imms_app hid (imms_map him _)) (imms_map him _) (fun H1 a2 _ => go_nil ?_) hb hfew hline hst hpl hw
    · rw [List.length_append, Nat.add_assoc, ← List.length_append, ← List.map_append, ← take_succ_map G hz', List.length_map]
      exact Nat.le_trans (Nat.add_le_add_left (flat_take_len l G _) _) (by omega)
    · refine ⟨some v, rfl, ?_⟩
      rw [take_succ_map G hz', List.map_append, ← List.append_assoc]
      exact a2
  · rintro σ' H' ⟨u, rfl, a1⟩
    rw [List.take_length] at a1
    exact k u H' a1
/-- .. over a list that is made there (not empty, the filled one is) -/
theorem go_growFor2 {α β : Type} {l : List α} {enc : α → PyData} {G : α → List β} {encB : β → PyData} {n : Nat} {x : Str} {px fpos : Pos} {on : Option V} (hp : PassesOwn (model X.prog X.w) X.A X.env X.xe) (hc : X.calm = true) (hg : PG X (.Name x px) (gName n))
    (hI : EvE X iter σ H (Isf f (.list (l.map enc)))) (hne : l ≠ []) (h0 : H0 B = none) (ac : Acc g H0 B [] H) (hn : σ[n]? = some on)
    (hO : ∀ u H', EvE X o (σ.set n (some u)) H' (RefIs B))
    (hE : ∀ z ∈ l, ∀ v H', Ex H0 H' → IsD f H' (enc z) v → EvE X e (σ.set n (some v)) H' (Isf g (.list ((G z).map encB))))
    (hie : ∀ z, imm (enc z) = true) (him : ∀ z, imm (encB z) = true) (hz : (l.flatMap G).length ≤ 100000)
    (k : ∀ u H', Acc g H0 B ((l.flatMap G).map encB) H' → tSs X rest D (σ.set n u) H')
    (hs : ∀ x, foldedSetIterable iter X.env x = pure x := by intro _; rfl)
    (hb : attributeBase o "extend" X.env (eval o X.env) = eval o X.env := by rfl)
    (hfew : ((backTo cpos (starEach [e] X.env)).all (fun x => !x.1) && (backToKw cpos (keywordEach [] X.env)).all (fun x => x.1.isSome)
      && decide (([e] : List Expr).length + ([] : List Keyword).length + (if ([] : List Keyword).isEmpty then 0 else 1) < 30)) = true := by rfl)
    (hline : (apos.endLine == cpos.line) = true := by rfl) (hst : starEach [e] X.env = (false, eval e X.env) :: starEach [] X.env := by rfl) (hpl : (backTo cpos (starEach [] X.env)).any (·.1) = false := by rfl)
    (hw : swapsWith (.Call (.Attribute o "extend" apos) [e] [] cpos) none pos.line X.env = pure false := by rfl) : tSs X (.For (.Name x px) iter [.Expr (.Call (.Attribute o "extend" apos) [e] [] cpos) pos] [] fpos :: rest) D σ H := by
  refine go_forL (l := l) (enc := enc) (f := f) hp hc hI hg (fun A xs H1 e1 hA r => ?_) hs
  have ac1 := ac.up e1
  have hAB : A ≠ B := fun z => by
    subst z
    obtain ⟨ys, h2, r2⟩ := ac1.at_
    rw [hA] at h2
    cases h2
    cases r2
    have := r.length
    rw [List.length_map] at this
    exact hne (List.eq_nil_of_length_eq_zero this.symm)
  refine ⟨fun i σ' H' => ∃ u, σ' = σ.set n u ∧ Acc g H0 B (((l.take i).flatMap G).map encB) H' ∧ H' A = some (.lst xs) ∧ Tx H1 H', ⟨on, set_self hn, ac1, hA, Tx.refl _⟩, ?_, ?_, ?_⟩
  · rintro i σ' H' _ ⟨u, rfl, a1, hA1, tx⟩
    exact hA1
  · rintro i z v σ' H' hz' hxv pv ⟨u, rfl, a1, hA1, tx⟩
    show tSs X _ _ ((σ.set n u).set n (some v)) H'
    rw [List.set_set]
    obtain ⟨x1, ys, h1, r1⟩ := a1
    refine go_ext (hO v H') h1 (hE z (List.mem_of_getElem? hz') v H' x1 (IsD.tx tx _ _ (hie z) pv)) ?_ (fun ws H2 e2 r2 => go_nil ?_) hb hfew hline hst hpl hw
    · rw [r1.length, ← List.length_append, ← List.map_append, ← take_succ_map G hz', List.length_map]
      exact Nat.le_trans (flat_take_len l G _) (by omega)
    · refine ⟨some v, rfl, ?_, ?_, ?_⟩
      · rw [take_succ_map G hz', List.map_append]
        exact Acc.put h0 (x1.trans e2) (e2 _ _ h1) (IsAll.ex e2 _ _ r1) r2 (imms_map him _) (imms_map him _)
      · rw [upd_ne hAB]
        exact e2 _ _ hA1
      · exact (tx.trans (tx_of e2)).trans (tx_upd fun u h s => by rw [e2 _ _ h1] at h; cases h; exact s)
  · rintro σ' H' ⟨u, rfl, a1, hA1, tx⟩
    rw [List.take_length] at a1
    exact k u H' a1
end
end
end TG
set_option Elab.async false
set_option linter.all false
set_option maxRecDepth 100000
set_option maxHeartbeats 2000000
namespace TG
open PySem PySem.Spec PyProof.Rows L2
open Evl (Ex ex_l ex_t fresh_back)
section
variable {P : Program} {w : World} {K : PySem.W.Frag} {mg : Str → Option Value} {base : Heap} {CR CD : Addr}
section
variable {f g : Nat} {X : Cx} {σ : L2.St} {H H' H0 : Hp} {a b c e o iter : Expr} {es : List Expr} {Q1 Q2 R : T} {pos p2 apos cpos fpos : Pos} {i j : Int} {A B : Addr} {ds ds2 : List PyData} {d : PyData} {l m : List Int}
/-! ### range as naturals -/
theorem rgI_nat (n : Nat) : (rgI 0 n).map PyData.int = (List.range n).map dN := by
  unfold rgI
  rw [List.map_map]
  refine List.map_congr_left fun k _ => ?_
  show PyData.int (0 + (k : Int)) = .int k
  rw [Int.zero_add]
theorem src_rangeN {n : Nat} {p : Pos} {tg : Expr} (hm : X.mg "range" = none) (h : EvE X e σ H (Is (.int n))) (hn : n ≤ 100000) (hgl : Gl X "range" := by rfl) (hs : starEach [e] X.env = [(false, eval e X.env)] := by rfl) :
    Src f X tg (.Call (.Name "range" p) [e] [] pos) σ H ((List.range n).map dN) := by
  have := src_range1 (f := f) (pos := pos) (p := p) (tg := tg) hm h ⟨by omega, by omega⟩ hgl hs
  rw [Int.toNat_natCast, rgI_nat] at this
  exact this
/-! ### x in t -/
theorem inV_ints (k : Int) (l : List Int) : inV (.int k) (l.map V.int) = l.contains k := by
  induction l with
  | nil => rfl
  | cons a l ih =>
    rw [List.map_cons, List.contains_cons, ← ih]
    show (eqV (.int a) (.int k) || inV (.int k) (l.map V.int)) = _
    congr 1
    show (a == k) = (k == a)
    exact Bool.beq_comm
theorem rIn_at {neg : Bool} {x y : V} {Q : VK} (hx : IsD f H (.int i) x) (hy : IsD g H (dRow l) y) (q : ∀ H2, Ex H H2 → Q (.bl (if neg then !l.contains i else l.contains i)) H2) : rIn X.K neg x y H Q := by
  obtain rfl := is_int hx
  obtain ⟨p, rfl, h⟩ := is_rowF hy
  refine ⟨p, _, rfl, .inr h.sq, rfl, flat_ints l, ?_⟩
  rw [inV_ints]
  exact q H (Ex.refl H)
theorem et_inI (ha : EvE X a σ H (Isf f (.int i))) (hb : EvE X b σ H (Isf g (dRow l))) (hm : behindInMarks .In b = false := by rfl) : EvT X (.Compare a [.In] [b] pos) σ H (l.contains i) :=
  et_cmp op_in_seq ha hb (fun x y H1 _ p1 p2 Q q => rIn_at p1 p2 q) hm
theorem et_notInI (ha : EvE X a σ H (Isf f (.int i))) (hb : EvE X b σ H (Isf g (dRow l))) (hm : behindInMarks .NotIn b = false := by rfl) : EvT X (.Compare a [.NotIn] [b] pos) σ H (!l.contains i) :=
  et_cmp op_notIn_seq ha hb (fun x y H1 _ p1 p2 Q q => rIn_at p1 p2 q) hm
theorem ev_inI (ha : EvE X a σ H (Isf f (.int i))) (hb : EvE X b σ H (Isf g (dRow l))) (hm : behindInMarks .In b = false := by rfl) : EvE X (.Compare a [.In] [b] pos) σ H (Is (.bool (l.contains i))) :=
  ev_cmp op_in_seq ha hb (fun x y H1 _ p1 p2 Q q => rIn_at p1 p2 q) hm
/-! ### slices -/
def cutD {α : Type} (xs : List α) (lo hi : Option Int) : List α := (xs.drop (HT.sIx xs.length 0 lo)).take (HT.sIx xs.length xs.length hi - HT.sIx xs.length 0 lo)
theorem cutD_map {α β : Type} (F : α → β) (xs : List α) (lo hi : Option Int) : cutD (xs.map F) lo hi = (cutD xs lo hi).map F := by
  unfold cutD
  rw [List.length_map, ← List.map_drop, ← List.map_take]
theorem cut_from {α : Type} (xs : List α) (k : Nat) : cutD xs (some (k : Int)) none = xs.drop k := by
  unfold cutD
  rw [HT.sIx_nat, HT.sIx_none]
  rcases Nat.le_total k xs.length with h | h
  · rw [Nat.min_eq_left h, List.take_of_length_le (by rw [List.length_drop]; omega)]
  · rw [Nat.min_eq_right h, List.drop_length, List.drop_eq_nil_of_le h, List.take_nil]
theorem cut_to {α : Type} (xs : List α) (k : Nat) : cutD xs none (some (k : Int)) = xs.take k := by
  unfold cutD
  rw [HT.sIx_nat, HT.sIx_none, List.drop_zero, Nat.sub_zero]
  rcases Nat.le_total k xs.length with h | h
  · rw [Nat.min_eq_left h]
  · rw [Nat.min_eq_right h, List.take_of_length_le (Nat.le_refl _), List.take_of_length_le h]
theorem sIx_neg (n d : Nat) : HT.sIx n d (some (-1)) = n - 1 := by
  show (if (-1 : Int) < 0 then ((-1 : Int) + (n : Int)).toNat else min (-1 : Int).toNat n) = n - 1
  rw [if_pos (by decide)]
  omega
theorem cut_toNeg {α : Type} (xs : List α) : cutD xs none (some (-1)) = xs.take (xs.length - 1) := by
  unfold cutD
  rw [HT.sIx_none, List.drop_zero, Nat.sub_zero, sIx_neg]
theorem cut_fromNeg {α : Type} (xs : List α) : cutD xs (some (-1)) none = xs.drop (xs.length - 1) := by
  unfold cutD
  rw [HT.sIx_none, sIx_neg, List.take_of_length_le (by rw [List.length_drop]; omega)]
theorem cut_mid {α : Type} (xs : List α) (i j : Nat) : cutD xs (some (i : Int)) (some (j : Int)) = (xs.drop i).take (j - i) := by
  unfold cutD
  rw [HT.sIx_nat, HT.sIx_nat]
  rcases Nat.le_total i xs.length with h | h
  · rw [Nat.min_eq_left h]
    rcases Nat.le_total j xs.length with h2 | h2
    · rw [Nat.min_eq_left h2]
    · rw [Nat.min_eq_right h2, List.take_of_length_le (by rw [List.length_drop]; omega), List.take_of_length_le (by rw [List.length_drop]; omega)]
  · rw [Nat.min_eq_right h, List.drop_length, List.drop_eq_nil_of_le h, List.take_nil, List.take_nil]
def EvO (X : Cx) (eo : Option Expr) (σ : L2.St) (H : Hp) (x : Option Int) : Prop := ∃ t, PO X eo t ∧ ∀ H1, Ex H H1 → ∀ Q : Option Int → Hp → Prop, (∀ H2, Ex H1 H2 → Q x H2) → t σ H1 Q
theorem eo_none : EvO X none σ H none := ⟨_, po_none, fun H1 _ Q q => q H1 (Ex.refl H1)⟩
theorem eo_some (h : EvE X e σ H (Is (.int i))) : EvO X (some e) σ H (some i) := ⟨_, po_some (pE e), fun H1 e1 Q q => h H1 e1 _ fun v H2 e2 p => ⟨i, is_int p, q H2 e2⟩⟩
theorem whole_cut {α : Type} {xs : List α} {x y : Option Int} (h : HT.sIx xs.length 0 x = 0 ∧ HT.sIx xs.length xs.length y = xs.length) : cutD xs x y = xs := by
  unfold cutD
  rw [h.1, h.2, List.drop_zero, Nat.sub_zero, List.take_length]
theorem ev_slT {lo hi : Option Expr} {x y : Option Int} (ha : EvE X a σ H (Isf f (.tuple ds))) (hl : EvO X lo σ H x) (hh : EvO X hi σ H y) (hf : f ≠ 2 := by decide) : EvE X (.Subscript a (.Slice lo hi none p2) pos) σ H (Isf f (.tuple (cutD ds x y))) := fun H1 e1 Q q => by
  obtain ⟨tl, hl, hl2⟩ := hl
  obtain ⟨th, hh, hh2⟩ := hh
  refine w_E (pe_slice sl_tupA (pE a) hl hh) (ha H1 e1 _ fun v H2 e2 pv => hl2 H2 (e1.trans e2) _ fun H3 e3 => hh2 H3 ((e1.trans e2).trans e3) _ fun H4 e4 => ?_)
  obtain ⟨p, xs, rfl, h, r⟩ := is_tuple (IsD.ex (e3.trans e4) _ _ pv)
  refine ⟨p, xs, rfl, h.sq, fun z => ?_, fun z t ht => ?_⟩
  · rw [r.length] at z
    rw [whole_cut z] at q
    exact q _ H4 ((e2.trans e3).trans e4) (.tup h r)
  · refine q _ _ (((e2.trans e3).trans e4).trans (Ex.new ht)) (.tup (.of upd_same hf) ?_)
    show IsAll f _ (cutD ds x y) (cutD xs x y)
    have := (IsAll.ex (Ex.new ht) _ _ r : IsAll f (upd H4 t (.tup (cutV xs x y))) ds xs)
    unfold cutD
    rw [← r.length]
    exact (this.drop _).take _
theorem ev_slR {lo hi : Option Expr} {x y : Option Int} (ha : EvE X a σ H (Isf f (dRow l))) (hl : EvO X lo σ H x) (hh : EvO X hi σ H y) (hf : f ≠ 2 := by decide) : EvE X (.Subscript a (.Slice lo hi none p2) pos) σ H (Isf f (dRow (cutD l x y))) := by
  have := ev_slT (pos := pos) (p2 := p2) ha hl hh hf
  rw [cutD_map] at this
  exact this
theorem ev_slL {lo hi : Option Expr} {x y : Option Int} (ha : EvE X a σ H (Isf f (.list ds))) (hl : EvO X lo σ H x) (hh : EvO X hi σ H y) : EvE X (.Subscript a (.Slice lo hi none p2) pos) σ H (Isf f (.list (cutD ds x y))) := fun H1 e1 Q q => by
  obtain ⟨tl, hl, hl2⟩ := hl
  obtain ⟨th, hh, hh2⟩ := hh
  refine w_E (pe_slice sl_list (pE a) hl hh) (ha H1 e1 _ fun v H2 e2 pv => hl2 H2 (e1.trans e2) _ fun H3 e3 => hh2 H3 ((e1.trans e2).trans e3) _ fun H4 e4 => ?_)
  obtain ⟨p, xs, rfl, h, r⟩ := is_list (IsD.ex (e3.trans e4) _ _ pv)
  refine ⟨p, xs, rfl, SqL.of h, fun t ht => ?_⟩
  refine q _ _ (((e2.trans e3).trans e4).trans (Ex.new ht)) (.lst upd_same ?_)
  show IsAll f _ (cutD ds x y) (cutD xs x y)
  have := (IsAll.ex (Ex.new ht) _ _ r : IsAll f (upd H4 t (.lst (cutV xs x y))) ds xs)
  unfold cutD
  rw [← r.length]
  exact (this.drop _).take _
theorem ev_slI {lo hi : Option Expr} {x y : Option Int} (ha : EvE X a σ H (Isf f (dInts l))) (hl : EvO X lo σ H x) (hh : EvO X hi σ H y) : EvE X (.Subscript a (.Slice lo hi none p2) pos) σ H (Isf f (dInts (cutD l x y))) := by
  have := ev_slL (pos := pos) (p2 := p2) ha hl hh
  rw [cutD_map] at this
  exact this
/-! ### + -/
theorem ev_catT (ha : EvE X a σ H (Isf f (.tuple ds))) (hb : EvE X b σ H (Isf f (.tuple ds2))) (hz : ds.length + ds2.length ≤ 100000) (hf : f ≠ 2 := by decide) : EvE X (.BinOp a .Add b pos) σ H (Isf f (.tuple (ds ++ ds2))) :=
  ev_op op_catA ha hb fun x y H1 _ p1 p2 Q q => by
    obtain ⟨a, xs, rfl, ha, r⟩ := is_tuple p1
    obtain ⟨b, ys, rfl, hb, r'⟩ := is_tuple p2
    refine ⟨a, b, xs, ys, rfl, rfl, ha.sq, hb.sq, Nat.le_trans (by rw [r.length, r'.length]; exact hz) (by decide), fun z => ?_, fun _ z => ?_, fun _ _ p hp => ?_⟩
    · subst z; cases r; exact q _ H1 (Ex.refl _) (.tup hb r')
    · subst z; cases r'; exact q _ H1 (Ex.refl _) (.tup ha (by rw [List.append_nil]; exact r))
    · exact q _ _ (Ex.new hp) (.tup (.of upd_same hf) (IsAll.ex (Ex.new hp) _ _ (r.app r')))
theorem ev_catRow (ha : EvE X a σ H (Isf f (dRow l))) (hb : EvE X b σ H (Isf f (dRow m))) (hz : l.length + m.length ≤ 100000) (hf : f ≠ 2 := by decide) : EvE X (.BinOp a .Add b pos) σ H (Isf f (dRow (l ++ m))) := by
  have := ev_catT (pos := pos) ha hb (by rw [List.length_map, List.length_map]; exact hz) hf
  rw [← List.map_append] at this
  exact this
theorem ev_catL (ha : EvE X a σ H (Isf f (.list ds))) (hb : EvE X b σ H (Isf f (.list ds2))) (hz : ds.length + ds2.length ≤ 100000) : EvE X (.BinOp a .Add b pos) σ H (Isf f (.list (ds ++ ds2))) :=
  ev_op op_cat ha hb fun x y H1 _ p1 p2 Q q => by
    obtain ⟨a, xs, rfl, ha, r⟩ := is_list p1
    obtain ⟨b, ys, rfl, hb, r'⟩ := is_list p2
    exact ⟨a, b, xs, ys, rfl, rfl, ha, hb, Nat.le_trans (by rw [r.length, r'.length]; exact hz) (by decide), fun p hp => q _ _ (Ex.new hp) (.lst upd_same (IsAll.ex (Ex.new hp) _ _ (r.app r')))⟩
theorem ev_catI (ha : EvE X a σ H (Isf f (dInts l))) (hb : EvE X b σ H (Isf f (dInts m))) (hz : l.length + m.length ≤ 100000) : EvE X (.BinOp a .Add b pos) σ H (Isf f (dInts (l ++ m))) := by
  have := ev_catL (pos := pos) ha hb (by rw [List.length_map, List.length_map]; exact hz)
  rw [← List.map_append] at this
  exact this
/-! ### t[::-1] -/
theorem ev_rev {k : Nat} {q1 q2 q3 : Pos} (ha : EvE X a σ H (Isf f (dRow l))) (hf : f ≠ 2 := by decide) : EvE X (.Subscript a (.Slice none none (some (.UnaryOp .USub (.Constant (.int 1) k q1) q2)) q3) pos) σ H (Isf f (dRow l.reverse)) := fun H1 e1 Q q =>
  w_E (pe_revT (pE a)) (ha H1 e1 _ fun v H2 e2 pv => by
    obtain ⟨p, rfl, h⟩ := is_rowF pv
    refine ⟨p, _, rfl, h.sq, fun t ht => q _ _ (e2.trans (Ex.new ht)) (.tup (.of upd_same hf) ?_)⟩
    rw [← List.map_reverse]
    exact isAll_ints _)
/-! ### sorted, sum, max, abs, int, all, any -/
theorem putInt_perm (n : Int) : ∀ l : List Int, (VametBase.putInt n l).Perm (n :: l)
  | [] => .refl _
  | x :: l => by
    show (if n < x then n :: x :: l else x :: VametBase.putInt n l).Perm _
    split
    · exact .refl _
    · exact ((putInt_perm n l).cons x).trans (.swap n x l)
theorem putInt_mem {n y : Int} {l : List Int} (h : y ∈ VametBase.putInt n l) : y = n ∨ y ∈ l := by
  have := (putInt_perm n l).mem_iff.mp h
  exact List.mem_cons.mp this
theorem putInt_sorted (n : Int) : ∀ l : List Int, l.Pairwise (· ≤ ·) → (VametBase.putInt n l).Pairwise (· ≤ ·)
  | [], _ => by show [n].Pairwise (· ≤ ·); exact List.pairwise_singleton _ _
  | x :: l, h => by
    show (if n < x then n :: x :: l else x :: VametBase.putInt n l).Pairwise (· ≤ ·)
    rw [List.pairwise_cons] at h
    split
    · rename_i hn
      rw [List.pairwise_cons, List.pairwise_cons]
      refine ⟨fun y hy => ?_, h⟩
      rcases List.mem_cons.mp hy with rfl | hy
      · omega
      · have := h.1 y hy; omega
    · rename_i hn
      rw [List.pairwise_cons]
      refine ⟨fun y hy => ?_, putInt_sorted n l h.2⟩
      rcases putInt_mem hy with rfl | hy
      · omega
      · exact h.1 y hy
theorem sorted_go (l : List Int) : ∀ k : List Int, k.Pairwise (· ≤ ·) → (l.foldl (fun k x => VametBase.putInt x k) k).Pairwise (· ≤ ·) ∧ (l.foldl (fun k x => VametBase.putInt x k) k).Perm (l ++ k) := by
  induction l with
  | nil => exact fun k h => ⟨h, .refl _⟩
  | cons x l ih =>
    intro k h
    obtain ⟨h1, h2⟩ := ih _ (putInt_sorted x k h)
    refine ⟨h1, h2.trans ?_⟩
    exact ((putInt_perm x k).append_left l).trans List.perm_middle
theorem sorted_pw (l : List Int) : (VametBase.sorted l).Pairwise (· ≤ ·) := (sorted_go l [] .nil).1
theorem sorted_perm (l : List Int) : (VametBase.sorted l).Perm l := by
  have := (sorted_go l [] .nil).2
  rw [List.append_nil] at this
  exact this
theorem sorted_uniq {l l' : List Int} (h : l'.Perm l) (hs : l'.Pairwise (· ≤ ·)) : l' = VametBase.sorted l :=
  List.Perm.eq_of_pairwise (fun a b _ _ h1 h2 => Int.le_antisymm h1 h2) hs (sorted_pw l) (h.trans (sorted_perm l).symm)
theorem ev_sortedT {p : Pos} (hm : X.mg "sorted" = none) (ha : EvE X a σ H (Isf f (dRow l))) (hg : Gl X "sorted" := by rfl) (na : starEach [a] X.env = (false, eval a X.env) :: starEach [] X.env := by rfl) : EvE X (.Call (.Name "sorted" p) [a] [] pos) σ H (Isf g (dInts (VametBase.sorted l))) :=
  ev_callB cr_sortedIT hm (by decide +kernel) (ea_cons ha ea_nil na) (fun vs H1 _ ap Q q => by
    obtain ⟨v, rfl, p⟩ := allP1 ap
    obtain ⟨p', rfl, h⟩ := is_rowF p
    exact ⟨p', l, rfl, h.sq, fun l' t h1 h2 ht => q _ _ (Ex.new ht) (by rw [sorted_uniq h1 h2]; exact .lst upd_same (isAll_ints _))⟩) hg (he := na)
theorem ev_sortedL {p : Pos} (hm : X.mg "sorted" = none) (ha : EvE X a σ H (Isf f (dInts l))) (hg : Gl X "sorted" := by rfl) (na : starEach [a] X.env = (false, eval a X.env) :: starEach [] X.env := by rfl) : EvE X (.Call (.Name "sorted" p) [a] [] pos) σ H (Isf g (dInts (VametBase.sorted l))) :=
  ev_callB cr_sortedI hm (by decide +kernel) (ea_cons ha ea_nil na) (fun vs H1 _ ap Q q => by
    obtain ⟨v, rfl, p⟩ := allP1 ap
    obtain ⟨p', xs, rfl, h, r⟩ := is_list p
    obtain rfl := ints_of r
    exact ⟨p', l, rfl, SqL.of h, fun l' t h1 h2 ht => q _ _ (Ex.new ht) (by rw [sorted_uniq h1 h2]; exact .lst upd_same (isAll_ints _))⟩) hg (he := na)
theorem total_eq (l : List Int) : VametBase.total l = l.sum := by
  unfold VametBase.total
  have : ∀ (l : List Int) (k : Int), l.foldl (fun a b => a + b) k = k + l.sum := by
    intro l
    induction l with
    | nil => intro k; simp
    | cons a l ih => intro k; rw [List.foldl_cons, ih, List.sum_cons]; omega
  rw [this]; omega
theorem ev_sumT {p : Pos} (hc : X.calm = true) (hm : X.mg "sum" = none) (ha : EvE X a σ H (Isf f (dRow l))) (hg : Gl X "sum" := by rfl) (na : starEach [a] X.env = (false, eval a X.env) :: starEach [] X.env := by rfl) : EvE X (.Call (.Name "sum" p) [a] [] pos) σ H (Is (.int (VametBase.total l))) :=
  ev_callB (cr_sumT hc) hm (by decide +kernel) (ea_cons ha ea_nil na) (fun vs H1 _ ap Q q => by
    obtain ⟨v, rfl, p⟩ := allP1 ap
    obtain ⟨p', rfl, h⟩ := is_rowF p
    exact ⟨p', l, rfl, h.sq, by rw [← total_eq]; exact q _ _ (Ex.refl _) (.int _)⟩) hg (he := na)
theorem ev_max {p : Pos} (hc : X.calm = true) (hm : X.mg "max" = none) (ha : EvE X a σ H (Is (.int i))) (hb : EvE X b σ H (Is (.int j))) (hg : Gl X "max" := by rfl) (na : starEach [a, b] X.env = (false, eval a X.env) :: starEach [b] X.env := by rfl) (nb : starEach [b] X.env = (false, eval b X.env) :: starEach [] X.env := by rfl)
    (hpl : (backTo pos (starEach [b] X.env)).any (·.1) = false := by rfl) : EvE X (.Call (.Name "max" p) [a, b] [] pos) σ H (Is (.int (if j > i then j else i))) :=
  ev_callB (call_max2 hc) hm (by decide +kernel) (ea_cons ha (ea_cons hb ea_nil nb) na) (fun vs H1 _ ap Q q => by
    obtain ⟨v, u, rfl, p, r⟩ := allP2 ap
    obtain rfl := is_int p
    obtain rfl := is_int r
    exact ⟨i, j, rfl, q _ _ (Ex.refl _) (.int _)⟩) hg (he := na) (hpl := hpl)
theorem ev_abs {p : Pos} (hm : X.mg "abs" = none) (ha : EvE X a σ H (Is (.int i))) (hg : Gl X "abs" := by rfl) (na : starEach [a] X.env = (false, eval a X.env) :: starEach [] X.env := by rfl) : EvE X (.Call (.Name "abs" p) [a] [] pos) σ H (Is (.int (if i < 0 then 0 - i else i))) :=
  ev_callB call_abs hm (by decide +kernel) (ea_cons ha ea_nil na) (fun vs H1 _ ap Q q => by
    obtain ⟨v, rfl, p⟩ := allP1 ap
    obtain rfl := is_int p
    refine ⟨i, rfl, ?_⟩
    rw [Int.zero_sub] at q
    exact q _ _ (Ex.refl _) (.int _)) hg (he := na)
theorem ev_intB {p : Pos} {k : Bool} (hm : X.mg "int" = none) (ha : EvE X a σ H (Is (.bool k))) (hg : Gl X "int" := by rfl) (na : starEach [a] X.env = (false, eval a X.env) :: starEach [] X.env := by rfl) : EvE X (.Call (.Name "int" p) [a] [] pos) σ H (Is (.int (if k then 1 else 0))) :=
  ev_callTy call_int1 hm (by decide +kernel) (ea_cons ha ea_nil na) (fun vs H1 _ ap Q q => by
    obtain ⟨v, rfl, p⟩ := allP1 ap
    obtain rfl := is_bool p
    exact .inr ⟨k, rfl, q _ _ (Ex.refl _) (.int _)⟩) hg (he := na)
theorem ev_all {p : Pos} {bs : List Bool} (hc : X.calm = true) (hm : X.mg "all" = none) (ha : EvE X a σ H (Isf f (.list (bs.map .bool)))) (hg : Gl X "all" := by rfl) (na : starEach [a] X.env = (false, eval a X.env) :: starEach [] X.env := by rfl) : EvE X (.Call (.Name "all" p) [a] [] pos) σ H (Is (.bool (bs.all id))) :=
  ev_callB (cr_all hc) hm (by decide +kernel) (ea_cons ha ea_nil na) (fun vs H1 _ ap Q q => by
    obtain ⟨v, rfl, p⟩ := allP1 ap
    obtain ⟨p', xs, rfl, h, r⟩ := is_list p
    obtain rfl := bools_of r
    exact ⟨p', bs, rfl, SqL.of h, q _ _ (Ex.refl _) (.bl _)⟩) hg (he := na)
theorem ev_any {p : Pos} {bs : List Bool} (hc : X.calm = true) (hm : X.mg "any" = none) (ha : EvE X a σ H (Isf f (.list (bs.map .bool)))) (hg : Gl X "any" := by rfl) (na : starEach [a] X.env = (false, eval a X.env) :: starEach [] X.env := by rfl) : EvE X (.Call (.Name "any" p) [a] [] pos) σ H (Is (.bool (bs.any id))) :=
  ev_callB (cr_any hc) hm (by decide +kernel) (ea_cons ha ea_nil na) (fun vs H1 _ ap Q q => by
    obtain ⟨v, rfl, p⟩ := allP1 ap
    obtain ⟨p', xs, rfl, h, r⟩ := is_list p
    obtain rfl := bools_of r
    exact ⟨p', bs, rfl, SqL.of h, q _ _ (Ex.refl _) (.bl _)⟩) hg (he := na)
/-! ### sets -/
/-- a set of those numbers -/
def SetP (w : World) (l : List Int) : T := fun H v => ∃ p c, v = .ref p ∧ H p = some (SetO w p (fun j => decide (j ∈ l)) c)
instance (w : World) (l : List Int) : Sta (SetP w l) := ⟨fun e ⟨p, c, h1, h2⟩ => ⟨p, c, h1, e _ _ h2⟩⟩
theorem ev_set {p : Pos} (hc : X.calm = true) (hm : X.mg "set" = none) (ha : EvE X a σ H (Isf f (dRow l))) (hl : l.length ≤ 1000) (hg : Gl X "set" := by rfl) (na : starEach [a] X.env = (false, eval a X.env) :: starEach [] X.env := by rfl) : EvE X (.Call (.Name "set" p) [a] [] pos) σ H (SetP X.w l) :=
  ev_callTy (cr_setT hc) hm (by decide +kernel) (ea_cons ha ea_nil na) (fun vs H1 _ ap Q q => by
    obtain ⟨v, rfl, p⟩ := allP1 ap
    obtain ⟨p', rfl, h⟩ := is_rowF p
    exact ⟨p', l, rfl, h.sq, hl, fun t c ht => q _ _ (Ex.new ht) ⟨t, c, rfl, upd_same⟩⟩) hg (he := na)
theorem ev_eqSet (hu : X.A.units < cLine) (ha : EvE X a σ H (SetP X.w l)) (hb : EvE X b σ H (SetP X.w m)) {k : Bool} (hk : k = true ↔ ∀ i, (i ∈ l ↔ i ∈ m)) : EvE X (.Compare a [.Eq] [b] pos) σ H (Is (.bool k)) :=
  ev_cmp (op_eqSet hu) ha hb (fun x y H1 _ ⟨p, c, e1, h1⟩ ⟨p', c', e2, h2⟩ Q q => ⟨p, p', _, _, _, _, k, e1, e2, h1, h2, by
    rw [hk]
    constructor
    · intro h i
      have := h i
      by_cases hi : i ∈ l
      · rw [decide_eq_true hi, decide_eq_true (this.mp hi)]
      · rw [decide_eq_false hi, decide_eq_false fun z => hi (this.mpr z)]
    · intro h i
      have := h i
      constructor
      · intro hi
        rw [decide_eq_true hi] at this
        exact of_decide_eq_true this.symm
      · intro hi
        rw [decide_eq_true hi] at this
        exact of_decide_eq_true this, q H1 (Ex.refl H1)⟩) (nomark _)
theorem ev_lenSet {p : Pos} (hm : X.mg "len" = none) (ha : EvE X a σ H (SetP X.w l)) {ks : List Int} (hn : ks.Nodup) (hk : ∀ k, k ∈ l ↔ k ∈ ks) (hg : Gl X "len" := by rfl) (na : starEach [a] X.env = (false, eval a X.env) :: starEach [] X.env := by rfl) : EvE X (.Call (.Name "len" p) [a] [] pos) σ H (Is (.int ks.length)) :=
  ev_callB cr_lenSet hm (by decide +kernel) (ea_cons ha ea_nil na) (fun vs H1 _ ap Q q => by
    obtain ⟨v, rfl, p, c, rfl, h⟩ := allP1 ap
    refine ⟨p, _, _, rfl, h, fun ks2 hn2 hk2 => ?_⟩
    have e1 : ∀ x, x ∈ ks2 → x ∈ ks := fun x hx => (hk x).mp (of_decide_eq_true ((hk2 x).mpr hx))
    have e2 : ∀ x, x ∈ ks → x ∈ ks2 := fun x hx => (hk2 x).mp (decide_eq_true ((hk x).mpr hx))
    have : ks2.length = ks.length := Nat.le_antisymm (nodup_sub_len hn2 e1) (nodup_sub_len hn e2)
    rw [this]
    exact q _ _ (Ex.refl _) (.int _)) hg (he := na)
end
end
end TG
set_option Elab.async false
set_option linter.all false
set_option maxRecDepth 100000
set_option maxHeartbeats 2000000
namespace TG
open PySem PySem.Spec PyProof.Rows L2
open Evl (Ex ex_l ex_t fresh_back)
section
variable {P : Program} {w : World} {K : PySem.W.Frag} {mg : Str → Option Value} {base : Heap} {CR CD : Addr}
/-! ### plain: orders, signs, rows as the program makes them -/
def dNs (l : List Nat) : PyData := .tuple (l.map dN)
def dBs (l : List Bool) : PyData := .tuple (l.map dB)
theorem rowN (l : List Nat) : dNs l = dRow (l.map fun (n : Nat) => (n : Int)) := by
  unfold dRow dNs
  rw [List.map_map]
  rfl
def pOrd (n : Nat) : Nat → List (List Nat)
  | 0 => [[]]
  | i + 1 => (pOrd n i).flatMap fun o => ((List.range n).filter fun p => !o.contains p).map fun p => o ++ [p]
def pSig : Nat → List (List Bool)
  | 0 => [[]]
  | i + 1 => (pSig i).flatMap fun o => [o ++ [false], o ++ [true]]
def pRows (h : Nat) : Nat → List (List Int)
  | 0 => [[]]
  | i + 1 => (pRows h i).flatMap fun o => (rgI (0 - (h : Int)) (2 * h + 1)).map fun p => o ++ [p]
theorem pOrd_eq : ∀ n : Nat, n ≤ 4 → pOrd n n = Vamete.ordersOf n (List.range n) := by
  intro n h
  have : n = 0 ∨ n = 1 ∨ n = 2 ∨ n = 3 ∨ n = 4 := by omega
  rcases this with rfl | rfl | rfl | rfl | rfl <;> decide +kernel
theorem pSig_eq : ∀ n : Nat, n ≤ 4 → pSig n = Vamete.signsOf n := by
  intro n h
  have : n = 0 ∨ n = 1 ∨ n = 2 ∨ n = 3 ∨ n = 4 := by omega
  rcases this with rfl | rfl | rfl | rfl | rfl <;> decide +kernel
theorem pOrd_len : ∀ n : Nat, n ≤ 4 → ∀ i, i ≤ n → (pOrd n i).length ≤ 24 ∧ ∀ o ∈ pOrd n i, o.length = i := by
  intro n h
  have : n = 0 ∨ n = 1 ∨ n = 2 ∨ n = 3 ∨ n = 4 := by omega
  rcases this with rfl | rfl | rfl | rfl | rfl <;> decide +kernel
theorem pSig_len : ∀ i, i ≤ 4 → (pSig i).length ≤ 16 ∧ ∀ o ∈ pSig i, o.length = i := by decide +kernel
theorem tup_len (l : List PyData) : (PyData.tuple l) = .tuple l := rfl
theorem contains_cast (z : List Nat) (p : Nat) : (z.map fun (n : Nat) => (n : Int)).contains (p : Int) = z.contains p := by
  induction z with
  | nil => rfl
  | cons a z ih =>
    rw [List.map_cons, List.contains_cons, List.contains_cons, ih]
    congr 1
    by_cases h : p = a
    · subst h; simp
    · rw [beq_eq_false_iff_ne.mpr h, beq_eq_false_iff_ne.mpr (by omega)]
theorem et_as {X : Cx} {e : Expr} {σ : L2.St} {H : Hp} {k k' : Bool} (h : EvT X e σ H k) (q : k = k') : EvT X e σ H k' := q ▸ h
theorem ev_as {X : Cx} {e : Expr} {σ : L2.St} {H : Hp} {f : Nat} {d d' : PyData} (h : EvE X e σ H (Isf f d)) (q : d = d') : EvE X e σ H (Isf f d') := q ▸ h
/-! ### orders -/
def a_orders : List T → T → Prop := fun Ps R => ∃ n : Nat, Ps = [Is (dN n)] ∧ n ≤ 4 ∧ R = Isf 2 (.list ((pOrd n n).map dNs))
theorem sc_orders : FnScope ["many", "found", "turn", "longer", "order", "place"] ["many"] (defScope s_orders) := ⟨rfl, rfl, rfl, by decide +kernel, rfl, by decide +kernel, by decide +kernel⟩
theorem d_orders (t : Txt K mg CR CD) : Def P w K mg base 1 "orders" ["many"] (Prom a_orders) := by
  refine def_of t.f_orders sc_orders (fun _ _ ⟨_, h, _⟩ => h ▸ rfl) (fun _ _ _ _ _ _ us hl => match us, hl with | [_], _ => rfl) ?_
  intro f cdv A0 outer s H E vs Ps R Q hr hA ap hq
  obtain ⟨n, rfl, hn, rfl⟩ := hA
  obtain ⟨v, rfl, hv⟩ := allP1 ap
  refine go_set (n := 1) (P := Isf 2 (.list [dNs []])) (ev_lst (f := 2) (ds := [dNs []]) (ea_cons (ev_tup2 (ds := []) ea_nil (Nat.zero_le _)) ea_nil) (by show 1 ≤ 1000; omega)) (fun fv H1 e1 hf => ?_) sc_orders.nd
  refine go_forR (gt := gName 2) PassesOwn.never rfl t.b_range (vr 0 (hv.ex' e1)) (by show (n : Int) ≤ 100000 ∧ -100000 ≤ (n : Int); omega) (pgv sc_orders.nd) (fun H2 e2 => ⟨fun i σ' H' => Ex H1 H' ∧ ∃ fv o2 o3 o4, σ' = [some v, some fv, o2, o3, o4, none] ∧ IsD 2 H' (.list ((pOrd n i).map dNs)) fv, ⟨e2, fv, none, none, none, rfl, hf.ex' e2⟩, ?_, ?_⟩)
  · rintro i σ' H' hi ⟨e3, fv, o2, o3, o4, rfl, hf⟩
    rw [Int.toNat_natCast] at hi
    obtain ⟨A, xs, rfl, hA, r⟩ := is_list hf
    refine go_set (n := 3) (P := NewL 2 H' []) ev_nil (fun lv H4 e4 hl => ?_) sc_orders.nd
    obtain ⟨B, ys, rfl, h0, hB, rl⟩ := hl
    refine go_growFor (l := pOrd n i) (enc := dNs) (encB := dNs) (f := 2) (g := 2) (G := fun o => ((List.range n).filter fun p => !o.contains p).map fun p => o ++ [p]) (n := 4) PassesOwn.never rfl (pgv sc_orders.nd) (vrR 1 A) h0 hA r ⟨e4, ys, hB, rl⟩ rfl (fun u H' => vrR 3 B) ?_ (fun z => imms_map (fun _ => rfl) z) rfl (by have := (pOrd_len n hn (i + 1) hi).1; show 0 + (pOrd n (i + 1)).length ≤ 100000; omega) ?_
    · intro z hz v' H5 e5 hv'
      have hlen := (pOrd_len n hn i (Nat.le_of_lt hi)).2 z hz
      rw [List.map_map]
      refine ev_lc1 (f := 0) (g := 2) (l := List.range n) (enc := dN) (F := fun p => dNs (z ++ [p])) (p := fun p => !z.contains p) (j := 5) rfl sc_orders.nd (src_rangeN t.b_range (vr 0 (((hv.ex' e1).ex' e3).ex' e5)) (by omega)) (blkOk_by (N := ["many", "found", "turn", "longer", "order", "place"]) (sc := defScope s_orders) (by decide +kernel)) (by rw [List.length_range]; omega) (fun p _ => imms_map (fun _ => rfl) _) (fun _ _ _ _ _ => pgv sc_orders.nd) (fun p hp H6 u e6 hu => ⟨fun s' H0 C cl fp => ?_, fun _ s' H0 C cl fp => ?_⟩)
      · have hv'' : IsD 2 H' (dRow (z.map fun (n : Nat) => (n : Int))) v' := by rw [← rowN]; exact hv'
        exact et_as (et_notInI (vr 5 hu) (vr 4 ((hv''.ex' e5).ex' e6))) (by rw [contains_cast])
      · refine ev_as (ev_catF (ds := z.map dN) (es' := [dN p]) (vr 4 ((hv'.ex' e5).ex' e6)) (ev_tup2 (ds := [dN p]) (ea_cons (vr 5 (isD_int hu)) ea_nil) (by show 1 ≤ 1000; omega)) (by rw [List.length_map, hlen]; show i + 1 ≤ 1000; omega)) ?_
        unfold dNs
        rw [List.map_append]
        rfl
    · intro u H5 a5
      refine go_set (n := 1) (vrP 3 (Isf 2 (.list ((pOrd n (i + 1)).map dNs))) a5.is) (fun v6 H6 e6 h6 => go_nil ⟨e3.trans (a5.ex.trans e6), v6, _, _, _, rfl, h6⟩) sc_orders.nd
  · rintro σ' H' ⟨e3, fv, o2, o3, o4, rfl, hf⟩
    exact go_ret (vr 1 hf) fun v7 H7 e7 h7 => hq v7 H7 ((e1.trans e3).trans e7) h7
theorem ev_intF {X : Cx} {σ : L2.St} {H : Hp} {k : Int} {n f : Nat} {pos : Pos} : EvE X (.Constant (.int k) n pos) σ H (Isf f (.int k)) := ev_int.imp fun _ _ _ p => isD_int p
theorem go_forR0 {X : Cx} {σ : L2.St} {H : Hp} {D : Ends} {rest body : List Stmt} {tg e : Expr} {gt : TG} {n : Nat} {p pos : Pos} (hp : PassesOwn (model X.prog X.w) X.A X.env X.xe) (hc : X.calm = true) (hm : X.mg "range" = none) (h : EvE X e σ H (Is (dN n))) (hn : n ≤ 100000) (hg : PG X tg gt)
    (k : ∀ H1, Ex H H1 → ∃ Pv : Nat → L2.St → Hp → Prop, Pv 0 σ H1 ∧ (∀ (i : Nat) (σ' : L2.St) (H' : Hp), i < n → Pv i σ' H' → gt (.int i) σ' H' fun σ2 H2 => tSs X body { D with nx := Pv (i + 1), ct := Pv (i + 1), bk := tSs X rest D } σ2 H2) ∧
      ∀ σ' H', Pv n σ' H' → tSs X rest D σ' H')
    (hgl : Gl X "range" := by rfl) (hs : starEach [e] X.env = [(false, eval e X.env)] := by rfl) (hf : ∀ x, foldedSetIterable (.Call (.Name "range" p) [e] [] pos) X.env x = pure x := by intro _; rfl) {fpos : Pos} : tSs X (.For tg (.Call (.Name "range" p) [e] [] pos) body [] fpos :: rest) D σ H :=
  go_forR hp hc hm h ⟨by omega, by omega⟩ hg (fun H1 e1 => by
    obtain ⟨Pv, a, b, c⟩ := k H1 e1
    exact ⟨Pv, a, fun i σ' H' hi => b i σ' H' (by omega), fun σ' H' q => c σ' H' (by rw [Int.toNat_natCast] at q; exact q)⟩) hgl hs hf
/-! ### all_signs -/
def a_all_signs : List T → T → Prop := fun Ps R => ∃ n : Nat, Ps = [Is (dN n)] ∧ n ≤ 4 ∧ R = Isf 2 (.list ((pSig n).map dBs))
theorem sc_all_signs : FnScope ["many", "found", "turn", "longer", "signs"] ["many"] (defScope s_all_signs) := ⟨rfl, rfl, rfl, by decide +kernel, rfl, by decide +kernel, by decide +kernel⟩
theorem d_all_signs (t : Txt K mg CR CD) : Def P w K mg base 1 "all_signs" ["many"] (Prom a_all_signs) := by
  refine def_of t.f_all_signs sc_all_signs (fun _ _ ⟨_, h, _⟩ => h ▸ rfl) (fun _ _ _ _ _ _ us hl => match us, hl with | [_], _ => rfl) ?_
  intro f cdv A0 outer s H E vs Ps R Q hr hA ap hq
  obtain ⟨n, rfl, hn, rfl⟩ := hA
  obtain ⟨v, rfl, hv⟩ := allP1 ap
  refine go_set (n := 1) (P := Isf 2 (.list [dBs []])) (ev_lst (f := 2) (ds := [dBs []]) (ea_cons (ev_tup2 (ds := []) ea_nil (Nat.zero_le _)) ea_nil) (by show 1 ≤ 1000; omega)) (fun fv H1 e1 hf => ?_) sc_all_signs.nd
  refine go_forR0 (gt := gName 2) PassesOwn.never rfl t.b_range (vr 0 (hv.ex' e1)) (by omega) (pgv sc_all_signs.nd) (fun H2 e2 => ⟨fun i σ' H' => Ex H1 H' ∧ ∃ fv o2 o3 o4, σ' = [some v, some fv, o2, o3, o4] ∧ IsD 2 H' (.list ((pSig i).map dBs)) fv, ⟨e2, fv, none, none, none, rfl, hf.ex' e2⟩, ?_, ?_⟩)
  · rintro i σ' H' hi ⟨e3, fv, o2, o3, o4, rfl, hf⟩
    obtain ⟨A, xs, rfl, hA, r⟩ := is_list hf
    refine go_set (n := 3) (P := NewL 2 H' []) ev_nil (fun lv H4 e4 hl => ?_) sc_all_signs.nd
    obtain ⟨B, ys, rfl, h0, hB, rl⟩ := hl
    refine go_growFor (l := pSig i) (enc := dBs) (encB := dBs) (f := 2) (g := 2) (G := fun o => [o ++ [false], o ++ [true]]) (n := 4) PassesOwn.never rfl (pgv sc_all_signs.nd) (vrR 1 A) h0 hA r ⟨e4, ys, hB, rl⟩ rfl (fun u H' => vrR 3 B) ?_ (fun z => imms_map (fun _ => rfl) z) rfl (by have := (pSig_len (i + 1) (by omega)).1; show 0 + (pSig (i + 1)).length ≤ 100000; omega) ?_
    · intro z hz v' H5 e5 hv'
      have hlen := (pSig_len i (by omega)).2 z hz
      have e0 : dBs (z ++ [false]) = .tuple (z.map dB ++ [.int 0]) := by unfold dBs; rw [List.map_append]; rfl
      have e1 : dBs (z ++ [true]) = .tuple (z.map dB ++ [.int 1]) := by unfold dBs; rw [List.map_append]; rfl
      refine ev_lst (f := 2) (ds := [dBs (z ++ [false]), dBs (z ++ [true])]) (ea_cons ?_ (ea_cons ?_ ea_nil)) (by show 2 ≤ 1000; omega)
      · rw [e0]
        exact ev_catF (ds := z.map dB) (es' := [.int 0]) (vr 4 (hv'.ex' e5)) (ev_tup2 (ds := [.int 0]) (ea_cons ev_intF ea_nil) (by show 1 ≤ 1000; omega)) (by rw [List.length_map, hlen]; show i + 1 ≤ 1000; omega)
      · rw [e1]
        exact ev_catF (ds := z.map dB) (es' := [.int 1]) (vr 4 (hv'.ex' e5)) (ev_tup2 (ds := [.int 1]) (ea_cons ev_intF ea_nil) (by show 1 ≤ 1000; omega)) (by rw [List.length_map, hlen]; show i + 1 ≤ 1000; omega)
    · intro u H5 a5
      refine go_set (n := 1) (vrP 3 (Isf 2 (.list ((pSig (i + 1)).map dBs))) a5.is) (fun v6 H6 e6 h6 => go_nil ⟨e3.trans (a5.ex.trans e6), v6, _, _, _, rfl, h6⟩) sc_all_signs.nd
  · rintro σ' H' ⟨e3, fv, o2, o3, o4, rfl, hf⟩
    exact go_ret (vr 1 hf) fun v7 H7 e7 h7 => hq v7 H7 ((e1.trans e3).trans e7) h7
/-! ### all_turns -/
def a_all_turns : List T → T → Prop := fun Ps R => ∃ n : Nat, Ps = [Is (dN n)] ∧ n ≤ 4 ∧ R = Isf 2 (.list ((Vamete.allTurns n).map dT))
theorem allTurns_eq (n : Nat) (h : n ≤ 4) : Vamete.allTurns n = (pOrd n n).flatMap fun p => (pSig n).map fun s => ⟨p, s⟩ := by
  unfold Vamete.allTurns
  rw [pOrd_eq n h, pSig_eq n h]
theorem allTurns_len : ∀ n, n ≤ 4 → (Vamete.allTurns n).length ≤ 384 := by decide +kernel
theorem pOrd_ne : ∀ n, n ≤ 4 → pOrd n n ≠ [] := by decide +kernel
theorem sc_all_turns : FnScope ["many", "found", "order", "signs"] ["many"] (defScope s_all_turns) := ⟨rfl, rfl, rfl, by decide +kernel, rfl, by decide +kernel, by decide +kernel⟩
theorem d_all_turns (t : Txt K mg CR CD) : Def P w K mg base 2 "all_turns" ["many"] (Prom a_all_turns) := by
  refine def_of t.f_all_turns sc_all_turns (fun _ _ ⟨_, h, _⟩ => h ▸ rfl) (fun _ _ _ _ _ _ us hl => match us, hl with | [_], _ => rfl) ?_
  intro f cdv A0 outer s H E vs Ps R Q hr hA ap hq
  obtain ⟨n, rfl, hn, rfl⟩ := hA
  obtain ⟨v, rfl, hv⟩ := allP1 ap
  refine go_set (n := 1) (P := NewL 2 H []) ev_nil (fun lv H1 e1 hl => ?_) sc_all_turns.nd
  obtain ⟨B, ys, rfl, h0, hB, rl⟩ := hl
  refine go_growFor2 (l := pOrd n n) (enc := dNs) (encB := dT) (f := 2) (g := 2) (H0 := H) (B := B) (G := fun p => (pSig n).map fun s => ⟨p, s⟩) (n := 2) PassesOwn.never rfl (pgv sc_all_turns.nd) (ev_call (d_orders t) hr (ea_cons (vr 0 (hv.ex' e1)) ea_nil) ⟨n, rfl, hn, rfl⟩) (pOrd_ne n hn) h0 ⟨e1, ys, hB, rl⟩ rfl (fun u H' => vrR 1 B) ?_ (fun z => imms_map (fun _ => rfl) z) imm_dT ?_ ?_
  · intro z hz v' H5 e5 hv'
    rw [List.map_map]
    refine ev_lc0 (f := 2) (g := 2) (l := pSig n) (enc := dBs) (F := fun s => dT ⟨z, s⟩) (j := 3) rfl sc_all_turns.nd (src_list (ev_call (d_all_signs t) hr (ea_cons (vr 0 (hv.ex' e5)) ea_nil) ⟨n, rfl, hn, rfl⟩)) (blkOk_by (N := ["many", "found", "order", "signs"]) (sc := defScope s_all_turns) (by decide +kernel)) (by have := (pSig_len n hn).1; omega) (fun p _ => imm_dT _) (fun _ _ _ _ _ => pgv sc_all_turns.nd) (fun p hp H6 u e6 hu => fun s' H0 C cl fp => ?_)
    exact ev_tup2 (ds := [dNs z, dBs p]) (ea_cons (vr 2 (hv'.ex' e6)) (ea_cons (vr 3 hu) ea_nil)) (by show 2 ≤ 1000; omega)
  · rw [← allTurns_eq n hn]
    have := allTurns_len n hn
    omega
  · intro u H5 a5
    rw [← allTurns_eq n hn] at a5
    exact go_ret (vrP 1 (Isf 2 (.list ((Vamete.allTurns n).map dT))) a5.is) fun v7 H7 e7 h7 => hq v7 H7 (a5.ex.trans e7) h7
end
end TG
set_option Elab.async false
set_option linter.all false
set_option maxRecDepth 100000
set_option maxHeartbeats 2000000
namespace TG
open PySem PySem.Spec PyProof.Rows L2
open Evl (Ex ex_l ex_t fresh_back)
section
variable {P : Program} {w : World} {K : PySem.W.Frag} {mg : Str → Option Value} {base : Heap} {CR CD : Addr}
section
variable {f g : Nat} {X : Cx} {σ : L2.St} {H : Hp} {iter : Expr} {pos spos : Pos} {D : Ends} {rest : List Stmt}
/-- y = [elt for x in ..], y a local name -/
theorem go_setLc0 {α : Type} {l : List α} {enc F : α → PyData} {x y : Str} {px py : Pos} {j n : Nat} {scope : Scope} {elt : Expr} (hc : X.calm = true) (hN : X.N.Nodup) (h : Src f X (.Name x px) iter σ H (l.map enc)) (ok : BlkOk X.N X.env.scope scope [(x, j)])
    (hl : l.length ≤ 100000) (him : ∀ z ∈ l, imm (F z) = true)
    (hg : ∀ (s : Shared) (H : Hp) (C : Addr) (cl : List (Str × Addr)) (fp : List Addr), PG (X.blk s H scope (compEnvC scope cl C X.env) fp) (.Name x px) (gName j))
    (hs : ∀ z ∈ l, ∀ H1 v, Ex H H1 → IsD f H1 (enc z) v → EvEb X scope elt ((wipe σ [j]).set j (some v)) H1 (Isf g (F z)))
    (k : ∀ v H1, Ex H H1 → IsD g H1 (.list (l.map F)) v → tSs X rest D (σ.set n (some v)) H1)
    (hy : X.N[n]? = some y := by rfl) (hyl : X.env.scope.names.lookup y = some .local := by rfl)
    (hsw : swapsWith (.ListComp elt [⟨.Name x px, iter, [], 0⟩] scope pos) (some (.Name y py)) spos.line X.env = pure true := by rfl)
    (hf : ∀ x, foldedSetIterable iter X.env x = pure x := by intro _; rfl) :
    tSs X (.Assign [.Name y py] (.ListComp elt [⟨.Name x px, iter, [], 0⟩] scope pos) spos :: rest) D σ H := by
  obtain ⟨wi, hi, h⟩ := h
  refine w_Ss (pss_cons (ps_setLc (own := [(x, j)]) (tt := tYes) (te := tEb X scope elt) (g := gName j) hc hN hy hyl hsw hi ok hg (fun _ _ _ _ _ => pts_nil) (fun s H0 C cl fp => ⟨fun pins s' σ' H' Q' I hh => hh s H0 C cl fp pins s' I⟩) hf) (pSs rest)) (h H (Ex.refl H) _ fun J H2 xs G e2 r W hG => ?_)
  have hlen : xs.length = l.length := by rw [r.length, List.length_map]
  refine lc_go (g := g) (Q := fun v H1 => tSs X rest D (σ.set n (some v)) H1) (gt := gName j) (tt := tYes) (te := tEb X scope elt) (σ := σ) (vs := [j]) W (fun _ => true) (fun i => match l[i]? with | some z => F z | none => .none) (by omega) (fun i hi => ?_) hG (fun i y H3 H4 hi e3 Y => ?_) (fun D H' e' _ d => ?_)
  · have hi' : i < l.length := by omega
    rw [List.getElem?_eq_getElem hi']
    exact him _ (List.getElem_mem hi')
  · obtain ⟨e, hy⟩ := Y
    subst e
    have hi' : i < l.length := by omega
    have hz := List.getElem?_eq_getElem hi'
    obtain ⟨v', hv', pv'⟩ := r.get (i := i) (d := enc l[i]) (by rw [List.getElem?_map, hz]; rfl)
    rw [hy] at hv'
    cases hv'
    have k2 := hs l[i] (List.getElem_mem hi') H4 y (e2.trans e3) (IsD.ex e3 _ _ pv')
    rw [hz]
    refine ⟨Ex.refl _, fun Q1 Q2 q1 q2 => ⟨wipe1 σ j (some y), ?_⟩⟩
    show (if true = true then tEb X scope elt ((wipe σ [j]).set j (some y)) H4 Q1 else Q2 H4)
    rw [if_pos rfl]
    exact k2.use (Ex.refl _) fun y' H6 e6 py => q1 rfl y' H6 e6 py
  · have ee := filter_get l (fun _ => true) F (fun _ => true) (fun i => match l[i]? with | some z => F z | none => .none) (fun i z hz => by rw [hz]; exact ⟨rfl, rfl⟩)
    rw [filter_all l] at ee
    rw [hlen, ee] at d
    exact k _ H' (e2.trans e') d
end
end
end TG
set_option Elab.async false
set_option linter.all false
set_option maxRecDepth 100000
set_option maxHeartbeats 2000000
namespace TG
open PySem PySem.Spec PyProof.Rows L2
open Evl (Ex ex_l ex_t fresh_back)
section
variable {P : Program} {w : World} {K : PySem.W.Frag} {mg : Str → Option Value} {base : Heap} {CR CD : Addr}
/-! ### rows_of -/
theorem pRows_len (h : Nat) : ∀ i, (pRows h i).length = (2 * h + 1) ^ i
  | 0 => rfl
  | i + 1 => by
    show ((pRows h i).flatMap fun o => (rgI (0 - (h : Int)) (2 * h + 1)).map fun p => o ++ [p]).length = _
    have : ∀ l : List (List Int), (l.flatMap fun o => (rgI (0 - (h : Int)) (2 * h + 1)).map fun p => o ++ [p]).length = l.length * (2 * h + 1) := by
      intro l
      induction l with
      | nil => simp
      | cons a l ih => rw [List.flatMap_cons, List.length_append, ih, List.length_map, rgI_len, List.length_cons, Nat.add_mul l.length 1, Nat.one_mul, Nat.add_comm]
    rw [this, pRows_len h i, Nat.pow_succ]
theorem pRows_each (h : Nat) : ∀ i, ∀ o ∈ pRows h i, o.length = i
  | 0, o, ho => by
    have : o = [] := List.mem_singleton.mp ho
    subst this; rfl
  | i + 1, o, ho => by
    obtain ⟨a, ha, ho⟩ := List.mem_flatMap.mp ho
    obtain ⟨p, _, rfl⟩ := List.mem_map.mp ho
    rw [List.length_append, pRows_each h i a ha]
    rfl
def a_rows_of : List T → T → Prop := fun Ps R => ∃ n h : Nat, Ps = [Is (dN n), Is (dN h)] ∧ n ≤ 4 ∧ h ≤ 9 ∧ (2 * h + 1) ^ n ≤ 130 ∧ R = Is (.list ((pRows h n).map dRow))
theorem sc_rows_of : FnScope ["many", "high", "found", "turn", "longer", "row", "number"] ["many", "high"] (defScope s_rows_of) := ⟨rfl, rfl, rfl, by decide +kernel, rfl, by decide +kernel, by decide +kernel⟩
theorem d_rows_of (t : Txt K mg CR CD) : Def P w K mg base 1 "rows_of" ["many", "high"] (Prom a_rows_of) := by
  refine def_of t.f_rows_of sc_rows_of (fun _ _ ⟨_, _, h, _⟩ => h ▸ rfl) (fun _ _ _ _ _ _ us hl => match us, hl with | [_, _], _ => rfl) ?_
  intro f cdv A0 outer s H E vs Ps R Q hr hA ap hq
  obtain ⟨n, h, rfl, hn, hh, hz, rfl⟩ := hA
  obtain ⟨v, u, rfl, hv, hu⟩ := allP2 ap
  have hpow : ∀ i, i ≤ n → (2 * h + 1) ^ i ≤ 130 := fun i hi => Nat.le_trans (Nat.pow_le_pow_right (by omega) hi) hz
  refine go_set (n := 2) (P := Is (.list [dRow []])) (ev_lst (f := 0) (ds := [dRow []]) (ea_cons (ev_tup (ds := []) ea_nil (Nat.zero_le _)) ea_nil) (by show 1 ≤ 1000; omega)) (fun fv H1 e1 hf => ?_) sc_rows_of.nd
  refine go_forR0 (gt := gName 3) PassesOwn.never rfl t.b_range (vr 0 (hv.ex' e1)) (by omega) (pgv sc_rows_of.nd) (fun H2 e2 => ⟨fun i σ' H' => Ex H1 H' ∧ ∃ fv o2 o3 o4, σ' = [some v, some u, some fv, o2, o3, o4, none] ∧ IsD 0 H' (.list ((pRows h i).map dRow)) fv, ⟨e2, fv, none, none, none, rfl, hf.ex' e2⟩, ?_, ?_⟩)
  · rintro i σ' H' hi ⟨e3, fv, o2, o3, o4, rfl, hf⟩
    obtain ⟨A, xs, rfl, hA, r⟩ := is_list hf
    refine go_set (n := 4) (P := NewL 0 H' []) ev_nil (fun lv H4 e4 hl => ?_) sc_rows_of.nd
    obtain ⟨B, ys, rfl, h0, hB, rl⟩ := hl
    refine go_growFor (l := pRows h i) (enc := dRow) (encB := dRow) (f := 0) (g := 0) (G := fun o => (rgI (0 - (h : Int)) (2 * h + 1)).map fun p => o ++ [p]) (n := 5) PassesOwn.never rfl (pgv sc_rows_of.nd) (vrR 2 A) h0 hA r ⟨e4, ys, hB, rl⟩ rfl (fun u H' => vrR 4 B) ?_ imm_row rfl (by have := pRows_len h (i + 1); have h2 := hpow (i + 1) hi; show 0 + (pRows h (i + 1)).length ≤ 100000; omega) ?_
    · intro z hz v' H5 e5 hv'
      have hlen := pRows_each h i z hz
      rw [List.map_map]
      have hcnt : ((h : Int) + 1 - (0 - (h : Int))).toNat = 2 * h + 1 := by omega
      refine ev_lc0 (f := 0) (g := 0) (l := rgI (0 - (h : Int)) (2 * h + 1)) (enc := .int) (F := fun p => dRow (z ++ [p])) (j := 6) rfl sc_rows_of.nd ?_ (blkOk_by (N := ["many", "high", "found", "turn", "longer", "row", "number"]) (sc := defScope s_rows_of) (by decide +kernel)) (by rw [rgI_len]; omega) (fun p _ => imm_row _) (fun _ _ _ _ _ => pgv sc_rows_of.nd) (fun p hp H6 u e6 hu => fun s' H0 C cl fp => ?_)
      · rw [← hcnt]
        exact src_range2 t.b_range (ev_sub ev_int (vr 1 (((hu.ex' e1).ex' e3).ex' e5))) (ev_add (vr 1 (((hu.ex' e1).ex' e3).ex' e5)) ev_int) (by omega)
      · exact ev_catRow (l := z) (m := [p]) (vr 5 ((hv'.ex' e5).ex' e6)) (ev_tup (f := 0) (ds := [.int p]) (ea_cons (vr 6 hu) ea_nil) (by show 1 ≤ 1000; omega)) (by rw [hlen]; show i + 1 ≤ 100000; omega)
    · intro u H5 a5
      refine go_set (n := 2) (vrP 4 (Is (.list ((pRows h (i + 1)).map dRow))) a5.is) (fun v6 H6 e6 h6 => go_nil ⟨e3.trans (a5.ex.trans e6), v6, _, _, _, rfl, h6⟩) sc_rows_of.nd
  · rintro σ' H' ⟨e3, fv, o2, o3, o4, rfl, hf⟩
    exact go_ret (vr 2 hf) fun v7 H7 e7 h7 => hq v7 H7 ((e1.trans e3).trans e7) h7
/-! ### undone -/
def Onto (n : Nat) (t : Vamete.Turn) : Prop := ∀ i, i < n → i ∈ t.places
theorem findIdx_at {l : List Nat} {i : Nat} (h : i ∈ l) : (l.map fun (n : Nat) => (n : Int))[l.findIdx fun p => p == i]? = some (i : Int) ∧ (∀ m, m < l.findIdx (fun p => p == i) → (l.map fun (n : Nat) => (n : Int))[m]? ≠ some (i : Int)) ∧ l.findIdx (fun p => p == i) < l.length := by
  have hlt : l.findIdx (fun p => p == i) < l.length := List.findIdx_lt_length_of_exists ⟨i, h, by simp⟩
  refine ⟨?_, ?_, hlt⟩
  · rw [List.getElem?_map, List.getElem?_eq_getElem hlt]
    have := List.findIdx_getElem (w := hlt)
    have e := eq_of_beq this
    rw [e]
    rfl
  · intro m hm
    rw [List.getElem?_map, List.getElem?_eq_getElem (Nat.lt_trans hm hlt)]
    have := List.not_of_lt_findIdx hm
    intro z
    simp at z
    simp at this
    exact this (by exact_mod_cast z)
def a_undone : List T → T → Prop := fun Ps R => ∃ (n : Nat) (t : Vamete.Turn), Ps = [Isf 2 (dT t)] ∧ Wf n t ∧ Onto n t ∧ n ≤ 1000 ∧ R = Is (dT (Vamete.back t))
theorem sc_undone : FnScope ["turn", "places", "signs", "found", "place", "at"] ["turn"] (defScope s_undone) := ⟨rfl, rfl, rfl, by decide +kernel, rfl, by decide +kernel, by decide +kernel⟩
theorem d_undone (t : Txt K mg CR CD) : Def P w K mg base 1 "undone" ["turn"] (Prom a_undone) := by
  refine def_of t.f_undone sc_undone (fun _ _ ⟨_, _, h, _⟩ => h ▸ rfl) (fun _ _ _ _ _ _ us hl => match us, hl with | [_], _ => rfl) ?_
  intro f cdv A0 outer s H E vs Ps R Q hr hA ap hq
  obtain ⟨n, t1, rfl, wf, on, hn, rfl⟩ := hA
  obtain ⟨v, rfl, hv⟩ := allP1 ap
  refine go_un2 (f := 2) (n := 1) (m := 2) (d1 := dNs t1.places) (d2 := dBs t1.signs) (vr 0 hv) (fun pv sv H1 e1 hpv hsv => ?_) (pg2 rfl sc_undone.nd)
  refine go_setLc0 (n := 3) (f := 0) (g := 0) (l := List.range n) (enc := dN) (F := fun i => dN (t1.places.findIdx fun p => p == i)) (j := 4) rfl sc_undone.nd (src_rangeN t.b_range ((ev_lenT rfl t.b_len (vr 1 hpv)).imp fun _ _ _ p => by rw [List.length_map, wf.pl] at p; exact p) (by omega)) (blkOk_by (N := ["turn", "places", "signs", "found", "place", "at"]) (sc := defScope s_undone) (by decide +kernel)) (by rw [List.length_range]; omega) (fun p _ => rfl) (fun _ _ _ _ _ => pgv sc_undone.nd) (fun p hp H6 u e6 hu => fun s' H0 C cl fp => ?_) (fun fv H2 e2 hf => ?_)
  · have hpv' : IsD 2 H1 (dRow (t1.places.map fun (n : Nat) => (n : Int))) pv := by rw [← rowN]; exact hpv
    obtain ⟨g1, g2, g3⟩ := findIdx_at (on p (List.mem_range.mp hp))
    exact ev_tupix (vr 1 (hpv'.ex' e6)) (vr 4 hu) g1 g2
  refine go_ret (ev_tup (f := 0) (ds := [.tuple ((List.range n).map fun i => dN (t1.places.findIdx fun p => p == i)), .tuple ((List.range n).map fun i => dB ((t1.signs[t1.places.findIdx fun p => p == i]?).getD false))]) (ea_cons (ev_tupleL t.b_tuple (vr 3 hf) (imms_map (fun _ => rfl) _)) (ea_cons (ev_tupleL t.b_tuple (ev_lc0 (f := 0) (g := 0) (l := List.range n) (enc := fun i => dN (t1.places.findIdx fun p => p == i)) (F := fun i => dB ((t1.signs[t1.places.findIdx fun p => p == i]?).getD false)) (j := 5) rfl sc_undone.nd (src_list (vr 3 hf)) (blkOk_by (N := ["turn", "places", "signs", "found", "place", "at"]) (sc := defScope s_undone) (by decide +kernel)) (by rw [List.length_range]; omega) (fun p _ => rfl) (fun _ _ _ _ _ => pgv sc_undone.nd) (fun p hp H6 u e6 hu => fun s' H0 C cl fp => ?_)) (imms_map (fun _ => rfl) _)) ea_nil)) (by show 2 ≤ 1000; omega)) (fun v7 H7 e7 h7 => hq v7 H7 ((e1.trans e2).trans e7) ?_)
  · obtain ⟨g1, g2, g3⟩ := findIdx_at (on p (List.mem_range.mp hp))
    exact ev_i (ev_ixT (f := 2) (ds := t1.signs.map dB) (vr 2 ((hsv.ex' e2).ex' e6)) (vr 5 hu) (atI_nat (map_at false (by rw [wf.sl, ← wf.pl]; exact g3))))
  · show IsD 0 H7 (dT (Vamete.back t1)) v7
    unfold Vamete.back dT
    rw [wf.pl, List.map_map, List.map_map]
    exact h7
/-! ### unchanging -/
def a_unchanging : List T → T → Prop := fun Ps R => ∃ n : Nat, Ps = [Is (dN n)] ∧ n ≤ 4 ∧ R = Is (dT (Vamete.same n))
theorem ev_zeros {X : Cx} {σ : L2.St} {H : Hp} {n k k2 : Nat} {a : Expr} {p1 p2 pos : Pos} (ha : EvE X a σ H (Is (dN n))) (hn : n ≤ 1000) : EvE X (.BinOp (.Tuple [.Constant (.int 0) k p1] k2 p2) .Mult a pos) σ H (Is (.tuple ((List.replicate n false).map dB))) := by
  have h1 : EvE X (.Tuple [.Constant (.int 0) k p1] k2 p2) σ H (Is (.tuple [.int 0])) := ev_tup (f := 0) (ds := [.int 0]) (ea_cons ev_int ea_nil) (by show 1 ≤ 1000; omega)
  rcases n with _ | _ | n
  · refine ev_op op_rep01 h1 ha fun x y H1 _ p1 p2 Q q => ?_
    obtain ⟨a, xs, rfl, h, r⟩ := is_tuple p1
    cases r with
    | cons r1 r2 =>
      cases r2
      obtain rfl := is_int p2
      refine ⟨a, _, _, rfl, rfl, h.sq, by simp, .inr ⟨rfl, fun t ht => q _ _ (Ex.new ht) (.tup (.of upd_same) .nil)⟩⟩
  · refine ev_op op_rep01 h1 ha fun x y H1 _ p1 p2 Q q => ?_
    obtain ⟨a, xs, rfl, h, r⟩ := is_tuple p1
    cases r with
    | cons r1 r2 =>
      cases r2
      obtain rfl := is_int p2
      refine ⟨a, _, _, rfl, rfl, h.sq, by simp, .inl ⟨rfl, q _ _ (Ex.refl _) (.tup h (.cons r1 .nil))⟩⟩
  · refine ev_op op_repT h1 ha fun x y H1 _ p1 p2 Q q => ?_
    obtain ⟨a, xs, rfl, h, r⟩ := is_tuple p1
    cases r with
    | cons r1 r2 =>
      cases r2
      obtain rfl := is_int p2
      obtain rfl := is_int r1
      refine ⟨a, _, _, rfl, rfl, h.sq, by simp, by omega, by omega, by show 1 ≤ 1000; omega, fun t ht => q _ _ (Ex.new ht) (.tup (.of upd_same) ?_)⟩
      rw [Int.toNat_natCast]
      have : ∀ m, IsAll 0 (upd H1 t (.tup (List.replicate (n + 1 + 1) [V.int 0]).flatten)) ((List.replicate m false).map dB) (List.replicate m [V.int 0]).flatten := by
        intro m
        induction m with
        | zero => exact .nil
        | succ m ih => rw [List.replicate_succ, List.replicate_succ]; exact .cons (.int 0) ih
      exact this _
theorem ev_tupRange {X : Cx} {σ : L2.St} {H : Hp} {n : Nat} {a : Expr} {p p2 pos pos2 : Pos} (hc : X.calm = true) (h1 : X.mg "tuple" = none) (h2 : X.mg "range" = none) (ha : EvE X a σ H (Is (dN n))) (hn : n ≤ 1000) (hg : Gl X "tuple" := by rfl) (hg2 : Gl X "range" := by rfl)
    (na : starEach [a] X.env = (false, eval a X.env) :: starEach [] X.env := by rfl) (nr : starEach [.Call (.Name "range" p2) [a] [] pos2] X.env = (false, eval (.Call (.Name "range" p2) [a] [] pos2) X.env) :: starEach [] X.env := by rfl) : EvE X (.Call (.Name "tuple" p) [.Call (.Name "range" p2) [a] [] pos2] [] pos) σ H (Is (dNs (List.range n))) := fun H1 e1 Q q =>
  w_E (pe_tupRg hc hg h1 (prg_1 hg2 h2 (pE a) na) nr) (ha H1 e1 _ fun v H2 e2 p => by
    obtain rfl := is_int p
    refine ⟨n, rfl, RgOk.of_le (by omega) (by omega) (by omega) (by omega), fun t ht => q _ _ (e2.trans (Ex.new ht)) (.tup (.of upd_same) ?_)⟩
    rw [← rgI_nat]
    have : rgV 0 (n : Int) = (rgI 0 n).map V.int := by
      unfold rgV rgI
      rw [List.map_map]
      rfl
    rw [this]
    exact isAll_ints _)
theorem sc_unchanging : FnScope ["many"] ["many"] (defScope s_unchanging) := ⟨rfl, rfl, rfl, by decide +kernel, rfl, by decide +kernel, by decide +kernel⟩
theorem d_unchanging (t : Txt K mg CR CD) : Def P w K mg base 1 "unchanging" ["many"] (Prom a_unchanging) := by
  refine def_of t.f_unchanging sc_unchanging (fun _ _ ⟨_, h, _⟩ => h ▸ rfl) (fun _ _ _ _ _ _ us hl => match us, hl with | [_], _ => rfl) ?_
  intro f cdv A0 outer s H E vs Ps R Q hr hA ap hq
  obtain ⟨n, rfl, hn, rfl⟩ := hA
  obtain ⟨v, rfl, hv⟩ := allP1 ap
  exact go_ret (ev_tup (f := 0) (ds := [dNs (List.range n), .tuple ((List.replicate n false).map dB)]) (ea_cons (ev_tupRange rfl t.b_tuple t.b_range (vr 0 hv) (by omega)) (ea_cons (ev_zeros (vr 0 hv) (by omega)) ea_nil)) (by show 2 ≤ 1000; omega)) (fun v7 H7 e7 h7 => hq v7 H7 e7 h7)
end
end TG
set_option Elab.async false
set_option linter.all false
set_option maxRecDepth 100000
set_option maxHeartbeats 2000000
namespace TG
open PySem PySem.Spec PyProof.Rows L2
open Evl (Ex ex_l ex_t fresh_back)
section
variable {P : Program} {w : World} {K : PySem.W.Frag} {mg : Str → Option Value} {base : Heap} {CR CD : Addr}
/-! ### turns as a group -/
open Vamete (Turn after same back allTurns ordersOf signsOf)
theorem small4 {n : Nat} (h : n ≤ 4) : n = 0 ∨ n = 1 ∨ n = 2 ∨ n = 3 ∨ n = 4 := by omega
def ords (n : Nat) : List (List Nat) := ordersOf n (List.range n)
theorem mem_signs : ∀ (n : Nat) (s : List Bool), s ∈ signsOf n ↔ s.length = n
  | 0, s => by
    show s ∈ [[]] ↔ _
    rw [List.mem_singleton]
    exact ⟨fun h => h ▸ rfl, List.eq_nil_of_length_eq_zero⟩
  | n + 1, s => by
    show s ∈ (signsOf n).map (fun r => false :: r) ++ (signsOf n).map (fun r => true :: r) ↔ _
    rw [List.mem_append, List.mem_map, List.mem_map]
    constructor
    · rintro (⟨r, hr, rfl⟩ | ⟨r, hr, rfl⟩) <;> rw [List.length_cons, (mem_signs n r).mp hr]
    · intro h
      cases s with
      | nil => cases h
      | cons b r =>
        have hr : r.length = n := by simpa using h
        cases b
        · exact .inl ⟨r, (mem_signs n r).mpr hr, rfl⟩
        · exact .inr ⟨r, (mem_signs n r).mpr hr, rfl⟩
theorem mem_turns {n : Nat} {t : Turn} : t ∈ allTurns n ↔ t.places ∈ ords n ∧ t.signs.length = n := by
  unfold allTurns
  rw [List.mem_flatMap]
  constructor
  · rintro ⟨p, hp, h⟩
    obtain ⟨s, hs, rfl⟩ := List.mem_map.mp h
    exact ⟨hp, (mem_signs n s).mp hs⟩
  · rintro ⟨h1, h2⟩
    exact ⟨t.places, h1, List.mem_map.mpr ⟨t.signs, (mem_signs n _).mpr h2, rfl⟩⟩
theorem ords_ok {n : Nat} (h : n ≤ 4) : ∀ p ∈ ords n, p.length = n ∧ (∀ x ∈ p, x < n) ∧ ∀ i, i < n → i ∈ p := by
  rcases small4 h with rfl | rfl | rfl | rfl | rfl <;> decide +kernel
theorem ords_comp {n : Nat} (h : n ≤ 4) : ∀ p ∈ ords n, ∀ q ∈ ords n, (p.map fun x => (q[x]?).getD 0) ∈ ords n := by
  rcases small4 h with rfl | rfl | rfl | rfl | rfl <;> decide +kernel
theorem ords_same {n : Nat} (h : n ≤ 4) : List.range n ∈ ords n := by
  rcases small4 h with rfl | rfl | rfl | rfl | rfl <;> decide +kernel
theorem ords_back {n : Nat} (h : n ≤ 4) : ∀ p ∈ ords n, ((List.range n).map fun i => p.findIdx fun q => q == i) ∈ ords n := by
  rcases small4 h with rfl | rfl | rfl | rfl | rfl <;> decide +kernel
theorem turn_wf {n : Nat} (h : n ≤ 4) {t : Turn} (ht : t ∈ allTurns n) : Wf n t := by
  obtain ⟨h1, h2⟩ := mem_turns.mp ht
  obtain ⟨a, b, c⟩ := ords_ok h _ h1
  exact ⟨a, h2, b⟩
theorem turn_onto {n : Nat} (h : n ≤ 4) {t : Turn} (ht : t ∈ allTurns n) : Onto n t := (ords_ok h _ (mem_turns.mp ht).1).2.2
theorem after_mem {n : Nat} (h : n ≤ 4) {t s : Turn} (ht : t ∈ allTurns n) (hs : s ∈ allTurns n) : after t s ∈ allTurns n := by
  have wt := turn_wf h ht
  refine mem_turns.mpr ⟨ords_comp h _ (mem_turns.mp ht).1 _ (mem_turns.mp hs).1, ?_⟩
  show ((t.places.zip t.signs).map _).length = n
  rw [List.length_map, List.length_zip, wt.pl, wt.sl]
  exact Nat.min_self n
theorem same_mem {n : Nat} (h : n ≤ 4) : same n ∈ allTurns n := mem_turns.mpr ⟨ords_same h, List.length_replicate⟩
theorem back_mem {n : Nat} (h : n ≤ 4) {t : Turn} (ht : t ∈ allTurns n) : back t ∈ allTurns n := by
  have wt := turn_wf h ht
  refine mem_turns.mpr ⟨?_, ?_⟩
  · show ((List.range t.places.length).map fun i => t.places.findIdx fun q => q == i) ∈ ords n
    rw [wt.pl]
    exact ords_back h _ (mem_turns.mp ht).1
  · show ((List.range t.places.length).map _).length = n
    rw [List.length_map, List.length_range, wt.pl]
theorem turns_nodup {n : Nat} (h : n ≤ 4) : (allTurns n).Nodup := by
  rcases small4 h with rfl | rfl | rfl | rfl | rfl <;> decide +kernel
theorem nodup_len {α : Type} [DecidableEq α] : ∀ {l m : List α}, l.Nodup → (∀ x ∈ l, x ∈ m) → l.length ≤ m.length
  | [], _, _, _ => Nat.zero_le _
  | a :: l, m, nd, h => by
    have ha := h a List.mem_cons_self
    rw [List.nodup_cons] at nd
    have := nodup_len (l := l) (m := m.erase a) nd.2 fun x hx => by
      have hxa : x ≠ a := fun z => nd.1 (by rw [← z]; exact hx)
      exact (List.mem_erase_of_ne hxa).mpr (h x (List.mem_cons_of_mem _ hx))
    rw [List.length_erase_of_mem ha] at this
    have hpos : 0 < m.length := List.length_pos_of_mem ha
    rw [List.length_cons]
    omega
/-! ### growing -/
abbrev addOne (t : Turn) (k : List Turn) (g : Turn) : List Turn := if k.contains (after g t) then k else k ++ [after g t]
structure Grown (n : Nat) (L : List Turn) : Prop where
  mem : ∀ t ∈ L, t ∈ allTurns n
  nd : L.Nodup
theorem Grown.len {n : Nat} {L : List Turn} (h : Grown n L) (hn : n ≤ 4) : L.length ≤ 384 := Nat.le_trans (nodup_len h.nd h.mem) (allTurns_len n hn)
theorem Grown.one {n : Nat} {L : List Turn} (h : Grown n L) {t : Turn} (ht : t ∈ allTurns n) (hnot : t ∉ L) : Grown n (L ++ [t]) :=
  ⟨fun x hx => (List.mem_append.mp hx).elim (h.mem x) fun z => by rw [List.mem_singleton.mp z]; exact ht, by
    rw [List.nodup_append]
    refine ⟨h.nd, List.nodup_cons.mpr ⟨List.not_mem_nil, .nil⟩, ?_⟩
    intro a ha b hb e
    rw [List.mem_singleton.mp hb] at e
    exact hnot (e ▸ ha)⟩
theorem grow_at {gs L : List Turn} {f i : Nat} {t : Turn} (h : L[i]? = some t) : Vamete.growFrom gs (f + 1) i L = Vamete.growFrom gs f (i + 1) (Vamete.addAll gs L t) := by
  show (match L[i]? with | none => L | some t => Vamete.growFrom gs f (i + 1) (Vamete.addAll gs L t)) = _
  rw [h]
theorem grow_end {gs L : List Turn} {f i : Nat} (h : L[i]? = none) : Vamete.growFrom gs f i L = L := by
  cases f with
  | zero => rfl
  | succ f =>
    show (match L[i]? with | none => L | some t => Vamete.growFrom gs f (i + 1) (Vamete.addAll gs L t)) = _
    rw [h]
end
end TG
set_option Elab.async false
set_option linter.all false
set_option maxRecDepth 100000
set_option maxHeartbeats 2000000
namespace TG
open PySem PySem.Spec PyProof.Rows L2
open Evl (Ex ex_l ex_t fresh_back)
section
variable {P : Program} {w : World} {K : PySem.W.Frag} {mg : Str → Option Value} {base : Heap} {CR CD : Addr}
section
variable {f g : Nat} {X : Cx} {σ : L2.St} {H H' : Hp} {a b c e o iter : Expr} {pos pos' : Pos} {D : Ends} {rest body : List Stmt} {d : Addr} {t : Vamete.Turn} {L : List Vamete.Turn}
theorem go_while (W : Nat → L2.St → Hp → Prop) (hp : PassesOwn (model X.prog X.w) X.A X.env X.xe) (h0 : ∃ m, W m σ H)
    (hc : ∀ m σ' H', W m σ' H' → ∃ k, EvT X c σ' H' k ∧ (k = true → ∀ H1, Ex H' H1 → ∃ N : L2.St → Hp → Prop, (∀ σ2 H2, N σ2 H2 → ∃ m', m' < m ∧ W m' σ2 H2) ∧ tSs X body { D with nx := N, ct := N, bk := tSs X rest D } σ' H1) ∧ (k = false → ∀ H1, Ex H' H1 → tSs X rest D σ' H1)) :
    tSs X (.While c body [] pos :: rest) D σ H :=
  w_Ss (pss_cons (ps_while hp (pT c) (pSs body)) (pSs rest)) ⟨W, h0, fun m σ' H' w => by
    obtain ⟨k, h1, h2, h3⟩ := hc m σ' H' w
    refine h1 H' (Ex.refl _) _ fun H1 e1 => ?_
    cases k with
    | true =>
      rw [if_pos rfl]
      exact h2 rfl H1 e1
    | false =>
      rw [if_neg Bool.false_ne_true]
      exact h3 rfl H1 e1⟩
theorem Known.ex {P : Program} {w : World} (k : Known P w H d L) (e : Ex H H') : Known P w H' d L := by
  refine k.tx (tx_of e) ?_
  obtain ⟨xs, h, _⟩ := k
  rw [h]
  exact e _ _ h
theorem et_nnotin (hu : X.A.units + 64 < cLine) (ha : EvE X a σ H (Isf 1 (dT t))) (hb : EvE X b σ H (RefIs d)) (hk : Known X.prog X.w H d L) (hm : behindInMarks .NotIn b = false := by rfl) : EvT X (.Compare a [.NotIn] [b] pos) σ H (!decide (t ∈ L)) := fun H1 e1 Q q =>
  w_T (pt_cmp (pc_nnotin hu (pE a) (pE b)) hm) (ha H1 e1 _ fun y H2 e2 p2 => hb H2 (e1.trans e2) _ fun x H3 e3 p3 => by
    cases p3
    exact ⟨d, t, L, rfl, hk.ex ((e1.trans e2).trans e3), IsD.ex e3 _ _ p2, _, rfl, q H3 (e2.trans e3)⟩)
theorem go_nput {P : T} (hu : X.A.units + 64 < cLine) (he : EvE X e σ H P) (ha : EvE X a σ H (RefIs d)) (hb : EvE X b σ H (Isf 1 (dT t))) (hk : Known X.prog X.w H d L) (hl : L.length ≤ 1000) (hn : t ∉ L)
    (k : ∀ H1 o, Ex H H1 → Known X.prog X.w (upd H1 d o) d (L ++ [t]) → Tx H1 (upd H1 d o) → tSs X rest D σ (upd H1 d o)) (hs : swapsWith e (some (.Subscript a b pos')) pos.line X.env = pure false := by rfl) : tSs X (.Assign [.Subscript a b pos'] e pos :: rest) D σ H :=
  w_Ss (pss_cons (ps_nput hu (pE a) (pE b) (pE e) hs) (pSs rest)) (he H (Ex.refl _) _ fun v H1 e1 p1 => ha H1 e1 _ fun x H2 e2 p2 => hb H2 (e1.trans e2) _ fun y H3 e3 p3 => by
    cases p2
    exact ⟨d, t, L, rfl, hk.ex ((e1.trans e2).trans e3), hl, hn, p3, fun o hk' tx => k H3 o ((e1.trans e2).trans e3) hk' tx⟩)
/-- a dict laid anew that knows one turn -/
def NewK (P : Program) (w : World) (H0 : Hp) (t : Vamete.Turn) : T := fun H v => ∃ d, v = .ref d ∧ H0 d = none ∧ Known P w H d [t]
theorem ev_ndisp {k v : Expr} {P : T} (hu : X.A.units + 64 < cLine) (hk : EvE X k σ H (Isf 1 (dT t))) (hv : EvE X v σ H P) : EvE X (.Dict [some k] [v] pos) σ H (NewK X.prog X.w H t) := fun H1 e1 Q q =>
  w_E (pe_ndisp hu (pE k) (pE v)) fun p hp => hk _ (e1.trans (Ex.new hp)) _ fun y H2 e2 p2 => hv H2 ((e1.trans (Ex.new hp)).trans e2) _ fun x H3 e3 p3 =>
    ⟨(e2.trans e3) _ _ upd_same, t, IsD.ex e3 _ _ p2, fun o hk' tx => q _ _ (Ex.mut ((Ex.new hp).trans (e2.trans e3)) hp) ⟨p, rfl, fresh_back e1 hp, hk'⟩⟩
end
def a_generated : List T → T → Prop := fun Ps R => ∃ (n : Nat) (gs : List Vamete.Turn), Ps = [Is (dN n), Isf 2 (.list (gs.map dT))] ∧ n ≤ 4 ∧ (∀ g ∈ gs, g ∈ Vamete.allTurns n) ∧ R = Isf 1 (.list ((Vamete.generated n gs).map dT))
/-- how far the group has grown -/
structure GrowAt (P : Program) (w : World) (n : Nat) (H0 : Hp) (A d : Addr) (L : List Vamete.Turn) (H : Hp) : Prop where
  ex : Ex H0 H
  lst : ∃ xs, H A = some (.lst xs) ∧ IsAll 1 H (L.map dT) xs
  kn : Known P w H d L
  gr : Grown n L
theorem GrowAt.up {P : Program} {w : World} {n : Nat} {H0 : Hp} {A d : Addr} {L : List Vamete.Turn} {H H' : Hp} (g : GrowAt P w n H0 A d L H) (e : Ex H H') : GrowAt P w n H0 A d L H' := by
  obtain ⟨x, ⟨xs, h1, r⟩, k, gr⟩ := g
  exact ⟨x.trans e, ⟨xs, e _ _ h1, IsAll.ex e _ _ r⟩, k.ex e, gr⟩
theorem GrowAt.is {P : Program} {w : World} {n : Nat} {H0 : Hp} {A d : Addr} {L : List Vamete.Turn} {H : Hp} (g : GrowAt P w n H0 A d L H) : IsD 1 H (.list (L.map dT)) (.ref A) := by
  obtain ⟨x, ⟨xs, h1, r⟩, k, gr⟩ := g
  exact .lst h1 r
theorem fold_get {t0 : Vamete.Turn} {i : Nat} {t : Vamete.Turn} : ∀ (gs L : List Vamete.Turn), L[i]? = some t → (gs.foldl (addOne t0) L)[i]? = some t
  | [], L, h => h
  | g :: gs, L, h => by
    rw [List.foldl_cons]
    refine fold_get gs _ ?_
    show (if L.contains _ then L else L ++ [_])[i]? = some t
    split
    · exact h
    · rw [List.getElem?_append_left (List.getElem?_eq_some_iff.mp h).1]
      exact h
theorem sc_generated : FnScope ["many", "some", "found", "known", "at", "turn", "other"] ["many", "some"] (defScope s_generated) := ⟨rfl, rfl, rfl, by decide +kernel, rfl, by decide +kernel, by decide +kernel⟩
theorem d_generated (t : Txt K mg CR CD) : Def P w K mg base 3 "generated" ["many", "some"] (Prom a_generated) := by
  refine def_of t.f_generated sc_generated (fun _ _ ⟨_, _, h, _⟩ => h ▸ rfl) (fun _ _ _ _ _ _ us hl => match us, hl with | [_, _], _ => rfl) ?_
  intro f cdv A0 outer s H E vs Ps R Q hr hA ap hq
  obtain ⟨n, gs, rfl, hn, hgs, rfl⟩ := hA
  obtain ⟨v, u, rfl, hv, hu⟩ := allP2 ap
  obtain ⟨S, ss, rfl, hS, rS⟩ := is_list hu
  refine go_set (n := 2) (P := NewL 1 H [dT (Vamete.same n)]) (ev_lstN (f := 1) (ds := [dT (Vamete.same n)]) (ea_cons ((ev_call (d_unchanging t) (hr.mono (by omega)) (ea_cons (vr 0 hv) ea_nil) ⟨n, rfl, hn, rfl⟩).imp fun _ _ _ p => p.up) ea_nil) (by show 1 ≤ 1000; omega)) (fun fv H1 e1 hf => ?_) sc_generated.nd
  obtain ⟨A, xs, rfl, hA0, hA, rA⟩ := hf
  refine go_set (n := 3) (ev_ndisp (t := Vamete.same n) hr.units (ev_ixL (f := 1) (ds := [dT (Vamete.same n)]) (vrP 2 (Isf 1 (.list [dT (Vamete.same n)])) (.lst hA rA)) ev_int rfl) ev_bl) (fun kv H2 e2 hk => ?_) sc_generated.nd
  obtain ⟨d, rfl, hd1, hk⟩ := hk
  have hd0 : H d = none := fresh_back e1 hd1
  have hAd : A ≠ d := fun z => by rw [z, hd1] at hA; cases hA
  have g0 : GrowAt P w n H A d [Vamete.same n] H2 := ⟨e1.trans e2, ⟨xs, e2 _ _ hA, IsAll.ex e2 _ _ rA⟩, hk, ⟨fun t ht => by rw [List.mem_singleton.mp ht]; exact same_mem hn, List.nodup_cons.mpr ⟨List.not_mem_nil, .nil⟩⟩⟩
  refine go_set (n := 4) ev_int (fun av H3 e3 ha => ?_) sc_generated.nd
  obtain rfl := is_int ha
  refine go_while (fun m σ' H' => ∃ (i : Nat) (L : List Vamete.Turn) (o5 o6 : Option V), m = 400 - i ∧ i ≤ L.length ∧ σ' = [some v, some (.ref S), some (.ref A), some (.ref d), some (.int i), o5, o6] ∧ GrowAt P w n H A d L H' ∧ Vamete.growFrom gs ((Vamete.allTurns n).length + 1 - i) i L = Vamete.generated n gs) PassesOwn.never ⟨400, 0, [Vamete.same n], none, none, rfl, Nat.zero_le _, rfl, g0.up e3, rfl⟩ ?_
  rintro m σ' H4 ⟨i, L, o5, o6, rfl, hi, rfl, g4, hG⟩
  have hL := g4.gr.len hn
  have hLn : L.length ≤ (Vamete.allTurns n).length := nodup_len g4.gr.nd g4.gr.mem
  refine ⟨_, et_lt (vr 4 (.int (i : Int) : IsD 0 _ _ _)) ((ev_lenL (f := 1) rfl t.b_len (vr 2 g4.is)).imp fun _ _ _ p => by rw [List.length_map] at p; exact p), fun hlt H5 e5 => ?_, fun hge H5 e5 => ?_⟩
  · have hlt : i < L.length := by have := of_decide_eq_true hlt; omega
    have hg := List.getElem?_eq_getElem hlt
    generalize L[i] = t0 at hg
    have ht0 : t0 ∈ Vamete.allTurns n := g4.gr.mem _ (List.mem_of_getElem? hg)
    have g5 := g4.up e5
    refine ⟨fun σ2 H6 => ∃ (L2 : List Vamete.Turn) (o5 o6 : Option V), i < L2.length ∧ σ2 = [some v, some (.ref S), some (.ref A), some (.ref d), some (.int ((i + 1 : Nat) : Int)), o5, o6] ∧ GrowAt P w n H A d L2 H6 ∧ Vamete.growFrom gs ((Vamete.allTurns n).length + 1 - (i + 1)) (i + 1) L2 = Vamete.generated n gs, ?_, ?_⟩
    · rintro σ2 H6 ⟨L2, o5, o6, h1, rfl, g6, h3⟩
      exact ⟨400 - (i + 1), by omega, i + 1, L2, o5, o6, rfl, h1, rfl, g6, h3⟩
    · refine go_forX (l := gs) (enc := dT) (f := 2) (A := S) (xs := ss) (gt := gName 5) (fun j σ' H' => ∃ o5 o6, σ' = [some v, some (.ref S), some (.ref A), some (.ref d), some (.int i), o5, o6] ∧ GrowAt P w n H A d ((gs.take j).foldl (addOne t0) L) H') PassesOwn.never rfl (vrR 1 S) (g5.ex _ _ hS) (IsAll.ex g5.ex _ _ rS) (pgv sc_generated.nd) ?_ ?_ ?_ ?_
      · intro H6 e6
        exact ⟨o5, o6, rfl, g5.up e6⟩
      · rintro j σ' H' _ ⟨o5, o6, rfl, g6⟩
        exact g6.ex _ _ hS
      · rintro j g vg σ' H6 hj hvj pv ⟨o5, o6, rfl, g6⟩
        have hgm : g ∈ Vamete.allTurns n := hgs _ (List.mem_of_getElem? hj)
        have pv6 : IsD 2 H6 (dT g) vg := by
          obtain ⟨v0, hv0, pv0⟩ := rS.get (i := j) (d := dT g) (by rw [List.getElem?_map, hj]; rfl)
          rw [hvj] at hv0
          cases hv0
          exact pv0.ex' g6.ex
        have hfold : (gs.take (j + 1)).foldl (addOne t0) L = addOne t0 ((gs.take j).foldl (addOne t0) L) g := by
          rw [List.take_add_one, hj, List.foldl_append]
          rfl
        have hget := fold_get (gs.take j) L hg (t0 := t0)
        generalize (gs.take j).foldl (addOne t0) L = M at hfold hget g6
        have hMl := g6.gr.len hn
        refine go_set (n := 6) (ev_call (d_behind t) (hr.mono (by omega)) (ea_cons (ev_ixL (f := 1) (d := dT t0) (vr 2 g6.is) (vr 4 (.int (i : Int) : IsD 0 _ _ _)) (atI_nat (by rw [List.getElem?_map, hget]; rfl))) (ea_cons (vr 5 pv6.up) ea_nil)) ⟨n, g, t0, rfl, turn_wf hn hgm, turn_wf hn ht0, by omega, rfl⟩) (fun ov H7 e7 ho => ?_) sc_generated.nd
        have g7 := g6.up e7
        refine go_if (et_nnotin hr.units (vr 6 (IsD.up ho)) (vrR 3 d) g7.kn) (fun hk H8 e8 => ?_) (fun hk H8 e8 => ?_)
        · have hnot : Vamete.after g t0 ∉ M := by simpa using hk
          have g8 := g7.up e8
          refine go_nput hr.units ev_bl (vrR 3 d) (vr 6 (IsD.up (ho.ex' e8))) g8.kn (by omega) hnot (fun H9 o e9 hk9 tx9 => ?_)
          obtain ⟨x9, ⟨ys, hA9, rA9⟩, k9, gr9⟩ := g8.up e9
          have ho9 : IsD 1 (upd H9 d o) (dT (Vamete.after g t0)) ov := IsD.tx tx9 _ _ (imm_dT _) (IsD.up ((ho.ex' e8).ex' e9))
          have hA9' : upd H9 d o A = some (.lst ys) := by rw [upd_ne hAd]; exact hA9
          refine go_app (xs := ys) (P := Isf 1 (dT (Vamete.after g t0))) (vrR 2 A) hA9' (by rw [rA9.length, List.length_map]; omega) (vr 6 ho9) (fun y HA eA hy => go_nil (go_nil ⟨_, _, rfl, ?_⟩))
          have hAA := eA _ _ hA9'
          have txA : Tx HA (upd HA A (.lst (ys ++ [y]))) := tx_upd fun u h s => by rw [hAA] at h; cases h; exact s
          rw [hfold]
          show GrowAt P w n H A d (if M.contains (Vamete.after g t0) = true then M else M ++ [Vamete.after g t0]) _
          rw [if_neg (by simpa using hnot)]
          refine ⟨Ex.mut ((Ex.mut x9 hd0).trans eA) hA0, ⟨_, upd_same, ?_⟩, ?_, gr9.one (after_mem hn hgm ht0) hnot⟩
          · rw [List.map_append]
            exact IsAll.app (IsAll.tx ((tx9.trans (tx_of eA)).trans txA) _ _ (imms_map imm_dT _) rA9) (.cons (IsD.tx txA _ _ (imm_dT _) hy) .nil)
          · exact (hk9.ex eA).tx txA (upd_ne (Ne.symm hAd))
        · have hin : Vamete.after g t0 ∈ M := by simpa using hk
          refine go_nil (go_nil ⟨_, _, rfl, ?_⟩)
          rw [hfold]
          show GrowAt P w n H A d (if M.contains (Vamete.after g t0) = true then M else M ++ [Vamete.after g t0]) _
          rw [if_pos (by simpa using hin)]
          exact g7.up e8
      · rintro σ' H6 ⟨o5, o6, rfl, g6⟩
        rw [List.take_length] at g6
        refine go_set (n := 4) (ev_add (vr 4 (.int (i : Int) : IsD 0 _ _ _)) ev_int) (fun av H7 e7 ha => ?_) sc_generated.nd
        obtain rfl := is_int ha
        refine go_nil ⟨_, o5, o6, ?_, rfl, g6.up e7, ?_⟩
        · exact (List.getElem?_eq_some_iff.mp (fold_get gs L hg (t0 := t0))).1
        · have e : (Vamete.allTurns n).length + 1 - i = ((Vamete.allTurns n).length + 1 - (i + 1)) + 1 := by omega
          rw [e, grow_at hg] at hG
          exact hG
  · have hge : L.length ≤ i := by have := of_decide_eq_false hge; omega
    rw [grow_end (List.getElem?_eq_none hge)] at hG
    have g5 := g4.up e5
    rw [hG] at g5
    exact go_ret (vr 2 g5.is) fun v7 H7 e7 h7 => hq v7 H7 (g5.ex.trans e7) h7
end
end TG
set_option Elab.async false
set_option linter.all false
set_option maxRecDepth 100000
set_option maxHeartbeats 2000000
namespace TG
open PySem PySem.Spec PyProof.Rows L2
open Evl (Ex ex_l ex_t fresh_back)
section
variable {P : Program} {w : World} {K : PySem.W.Frag} {mg : Str → Option Value} {base : Heap} {CR CD : Addr}
/-! ### dicts with rows for keys -/
def kR (k : List Int) : List L2.Key := k.map Sum.inl
theorem kR_inj {a b : List Int} (h : kR a = kR b) : a = b := map_inj (fun x y e => by injection e) h
def addK (ks : List (List Int)) (k : List Int) : List (List Int) := if k ∈ ks then ks else ks ++ [k]
theorem addK_len (ks : List (List Int)) (k : List Int) : (addK ks k).length ≤ ks.length + 1 := by
  unfold addK
  split
  · omega
  · rw [List.length_append]; exact Nat.le_refl _
def KeyD (H : Hp) (d : Addr) (ks : List (List Int)) : Prop := ∃ kvs : List (List L2.Key × V), H d = some (.dT kvs) ∧ kvs.map (·.1) = ks.map kR
theorem KeyD.ex {H H' : Hp} {d : Addr} {ks : List (List Int)} (h : KeyD H d ks) (e : Ex H H') : KeyD H' d ks := by
  obtain ⟨kvs, h1, h2⟩ := h
  exact ⟨kvs, e _ _ h1, h2⟩
theorem key_any {kvs : List (List L2.Key × V)} {ks : List (List Int)} (h : kvs.map (·.1) = ks.map kR) (k : List Int) : (kvs.any fun kv => decide (kv.1 = kR k)) = decide (k ∈ ks) := by
  have : (kvs.any fun kv => decide (kv.1 = kR k)) = (kvs.map (·.1)).any (fun x => decide (x = kR k)) := by rw [List.any_map]; rfl
  rw [this, h, List.any_map]
  by_cases hk : k ∈ ks
  · rw [decide_eq_true hk, List.any_eq_true]
    exact ⟨k, hk, by simp⟩
  · rw [decide_eq_false hk, List.any_eq_false]
    intro x hx z
    have : kR x = kR k := by simpa using z
    exact hk (kR_inj this ▸ hx)
theorem key_val {kvs : List (List L2.Key × V)} {ks : List (List Int)} (h : kvs.map (·.1) = ks.map kR) (k : List Int) : (valV kvs (kR k)).isSome = decide (k ∈ ks) := by
  rw [← valV_any, key_any h]
theorem key_put {kvs : List (List L2.Key × V)} {ks : List (List Int)} (h : kvs.map (·.1) = ks.map kR) (k : List Int) (v : V) : (putK kvs (kR k) v).map (·.1) = (addK ks k).map kR := by
  unfold putK addK
  rw [key_any h]
  by_cases hk : k ∈ ks
  · rw [decide_eq_true hk, if_pos rfl, if_pos hk, List.map_map, ← h]
    refine List.map_congr_left fun x _ => ?_
    show (if x.1 = kR k then (x.1, v) else x).1 = x.1
    split <;> rfl
  · rw [decide_eq_false hk, if_neg Bool.false_ne_true, if_neg hk, List.map_append, List.map_append, h]
    rfl
section
variable {f g : Nat} {X : Cx} {σ : L2.St} {H H' : Hp} {a b c e o iter : Expr} {pos pos' : Pos} {D : Ends} {rest body : List Stmt} {d : Addr} {k : List Int} {ks : List (List Int)}
theorem row_key {l : List Int} {v : V} (h : Is (dRow l) H v) : ∃ a, v = .ref a ∧ H a = some (.tup ((kR l).map kV)) := by
  obtain ⟨a, e, h⟩ := is_row h
  refine ⟨a, e, ?_⟩
  rw [h]
  unfold kR
  rw [List.map_map]
  rfl
theorem go_kput {P : T} (hu : X.A.units + 64 < cLine) (he : EvE X e σ H P) (ha : EvE X a σ H (RefIs d)) (hb : EvE X b σ H (Is (dRow k))) (hk : KeyD H d ks) (hl : ks.length < 100000)
    (kk : ∀ H1 o, Ex H H1 → KeyD (upd H1 d o) d (addK ks k) → Tx H1 (upd H1 d o) → tSs X rest D σ (upd H1 d o)) (hs : swapsWith e (some (.Subscript a b pos')) pos.line X.env = pure false := by rfl) : tSs X (.Assign [.Subscript a b pos'] e pos :: rest) D σ H :=
  w_Ss (pss_cons (ps_dput (by omega) (pE a) (pE b) (pE e) hs) (pSs rest)) (he H (Ex.refl _) _ fun v H1 e1 p1 => ha H1 e1 _ fun x H2 e2 p2 => hb H2 (e1.trans e2) _ fun y H3 e3 p3 => by
    cases p2
    obtain ⟨kvs, h1, h2⟩ := hk.ex ((e1.trans e2).trans e3)
    obtain ⟨p, rfl, hp⟩ := row_key p3
    have hlen : kvs.length = ks.length := by have := congrArg List.length h2; rw [List.length_map, List.length_map] at this; exact this
    exact ⟨d, _, rfl, DPut.t h1 hp (by rw [hlen]; exact Nat.lt_trans hl (by decide)), kk H3 _ ((e1.trans e2).trans e3) ⟨_, upd_same, key_put h2 k v⟩ (tx_upd fun u h s => by rw [h1] at h; cases h; exact s)⟩)
theorem et_knotin (hu : X.A.units + 64 < cLine) (ha : EvE X a σ H (Is (dRow k))) (hb : EvE X b σ H (RefIs d)) (hk : KeyD H d ks) (hm : behindInMarks .NotIn b = false := by rfl) : EvT X (.Compare a [.NotIn] [b] pos) σ H (!decide (k ∈ ks)) := fun H1 e1 Q q =>
  w_T (pt_cmp (pc_dnotin (by omega) (pE a) (pE b)) hm) (ha H1 e1 _ fun y H2 e2 p2 => hb H2 (e1.trans e2) _ fun x H3 e3 p3 => by
    cases p3
    obtain ⟨kvs, h1, h2⟩ := hk.ex ((e1.trans e2).trans e3)
    obtain ⟨p, rfl, hp⟩ := row_key (IsD.ex e3 _ _ p2)
    refine ⟨d, _, rfl, DGet.t h1 hp, _, rfl, ?_⟩
    rw [key_val h2]
    exact q H3 (e2.trans e3))
/-- a dict laid anew, empty -/
def NewD (H0 : Hp) : T := fun H v => ∃ d, v = .ref d ∧ H0 d = none ∧ H d = some (.dT [])
theorem ev_dnew : EvE X (.Dict [] [] pos) σ H (NewD H) := fun H1 e1 Q q => w_E pe_dnewT fun p hp => q _ _ (Ex.new hp) ⟨p, rfl, fresh_back e1 hp, upd_same⟩
theorem ev_sortedD {p : Pos} (hc : X.calm = true) (hu : X.A.units + 64 < cLine) (hm : X.mg "sorted" = none) (ha : EvE X a σ H (RefIs d)) (hk : KeyD H d ks) (hne : ks.length < 2 ∨ ∀ k ∈ ks, k ≠ []) (hg : Gl X "sorted" := by rfl) (na : starEach [a] X.env = (false, eval a X.env) :: starEach [] X.env := by rfl) : EvE X (.Call (.Name "sorted" p) [a] [] pos) σ H (Is (.list ((ks.mergeSort leRow).map dRow))) :=
  ev_callB (cr_sortedDT hc hu) hm (by decide +kernel) (ea_cons ha ea_nil na) (fun vs H1 e1 ap Q q => by
    obtain ⟨v, rfl, p⟩ := allP1 ap
    cases p
    obtain ⟨kvs, h1, h2⟩ := hk.ex e1
    exact ⟨d, kvs, ks, rfl, h1, h2, hne, fun t vs ht r => q _ _ (Ex.new ht) (.lst upd_same (IsAll.ex (Ex.new ht) _ _ r))⟩) hg (he := na)
end
/-! ### orbit -/
def keysOf (ts : List Vamete.Turn) (r : List Int) : List (List Int) := ts.foldl (fun l t => addK l (Vamete.turned t r)) []
def pOrbit (ts : List Vamete.Turn) (r : List Int) : List (List Int) := (keysOf ts r).mergeSort leRow
theorem turned_len {n : Nat} {t : Vamete.Turn} (h : Wf n t) (r : List Int) : (Vamete.turned t r).length = n := by
  unfold Vamete.turned
  rw [List.length_map, List.length_zip, h.pl, h.sl, Nat.min_self]
theorem keys_fold_len : ∀ (ts : List Vamete.Turn) (r : List Int) (l : List (List Int)), (ts.foldl (fun l t => addK l (Vamete.turned t r)) l).length ≤ l.length + ts.length
  | [], _, l => Nat.le_refl _
  | t :: ts, r, l => by
    rw [List.foldl_cons]
    have := keys_fold_len ts r (addK l (Vamete.turned t r))
    have h2 := addK_len l (Vamete.turned t r)
    rw [List.length_cons]
    omega
theorem keys_each {n : Nat} : ∀ (ts : List Vamete.Turn) (r : List Int) (l : List (List Int)), (∀ t ∈ ts, Wf n t) → (∀ k ∈ l, k.length = n) → l.Nodup → (∀ k ∈ ts.foldl (fun l t => addK l (Vamete.turned t r)) l, k.length = n) ∧ (ts.foldl (fun l t => addK l (Vamete.turned t r)) l).Nodup
  | [], _, l, _, h, nd => ⟨h, nd⟩
  | t :: ts, r, l, hw, h, nd => by
    rw [List.foldl_cons]
    refine keys_each ts r _ (fun t ht => hw t (List.mem_cons_of_mem _ ht)) ?_ ?_
    · intro k hk
      unfold addK at hk
      split at hk
      · exact h k hk
      · rcases List.mem_append.mp hk with hk | hk
        · exact h k hk
        · rw [List.mem_singleton.mp hk]
          exact turned_len (hw t List.mem_cons_self) r
    · unfold addK
      split
      · exact nd
      · rename_i hnot
        rw [List.nodup_append]
        refine ⟨nd, List.nodup_cons.mpr ⟨List.not_mem_nil, .nil⟩, ?_⟩
        intro a ha b hb e
        rw [List.mem_singleton.mp hb] at e
        exact hnot (e ▸ ha)
theorem keys_sort {n : Nat} (ts : List Vamete.Turn) (r : List Int) (hw : ∀ t ∈ ts, Wf n t) : (keysOf ts r).length < 2 ∨ ∀ k ∈ keysOf ts r, k ≠ [] := by
  obtain ⟨h1, h2⟩ := keys_each ts r [] hw (fun _ h => absurd h List.not_mem_nil) .nil
  rcases Nat.eq_zero_or_pos n with rfl | hn
  · refine .inl ?_
    have : (keysOf ts r).length ≤ [([] : List Int)].length := nodup_len h2 fun x hx => by
      rw [List.mem_singleton]
      exact List.eq_nil_of_length_eq_zero (h1 x hx)
    exact Nat.lt_succ_of_le this
  · refine .inr fun k hk z => ?_
    have := h1 k hk
    rw [z] at this
    exact absurd this (by show ¬ 0 = n; omega)
def a_orbit : List T → T → Prop := fun Ps R => ∃ (n : Nat) (ts : List Vamete.Turn) (r : List Int), Ps = [Isf 1 (.list (ts.map dT)), Is (dRow r)] ∧ (∀ t ∈ ts, Wf n t) ∧ r.length = n ∧ n ≤ 1000 ∧ ts.length ≤ 400 ∧ R = Is (.list ((pOrbit ts r).map dRow))
theorem sc_orbit : FnScope ["group", "row", "found", "turn"] ["group", "row"] (defScope s_orbit) := ⟨rfl, rfl, rfl, by decide +kernel, rfl, by decide +kernel, by decide +kernel⟩
theorem d_orbit (t : Txt K mg CR CD) : Def P w K mg base 3 "orbit" ["group", "row"] (Prom a_orbit) := by
  refine def_of t.f_orbit sc_orbit (fun _ _ ⟨_, _, _, h, _⟩ => h ▸ rfl) (fun _ _ _ _ _ _ us hl => match us, hl with | [_, _], _ => rfl) ?_
  intro f cdv A0 outer s H E vs Ps R Q hr hA ap hq
  obtain ⟨n, ts, r, rfl, hw, hl, hn, hts, rfl⟩ := hA
  obtain ⟨v, u, rfl, hv, hu⟩ := allP2 ap
  obtain ⟨S, ss, rfl, hS, rS⟩ := is_list hv
  refine go_set (n := 2) ev_dnew (fun dv H1 e1 hd => ?_) sc_orbit.nd
  obtain ⟨d, rfl, hd0, hd⟩ := hd
  refine go_forX (l := ts) (enc := dT) (f := 1) (A := S) (xs := ss) (gt := gName 3) (fun j σ' H' => ∃ o3, σ' = [some (.ref S), some u, some (.ref d), o3] ∧ Ex H H' ∧ KeyD H' d ((ts.take j).foldl (fun l t => addK l (Vamete.turned t r)) [])) PassesOwn.never rfl (vrR 0 S) (e1 _ _ hS) (IsAll.ex e1 _ _ rS) (pgv sc_orbit.nd) ?_ ?_ ?_ ?_
  · intro H2 e2
    exact ⟨none, rfl, e1.trans e2, [], e2 _ _ hd, rfl⟩
  · rintro j σ' H' _ ⟨o3, rfl, x, kd⟩
    exact x _ _ hS
  · rintro j t1 vt σ' H2 hj hvj pv ⟨o3, rfl, x, kd⟩
    have pv2 : IsD 1 H2 (dT t1) vt := by
      obtain ⟨v0, hv0, pv0⟩ := rS.get (i := j) (d := dT t1) (by rw [List.getElem?_map, hj]; rfl)
      rw [hvj] at hv0
      cases hv0
      exact pv0.ex' x
    have hfold : (ts.take (j + 1)).foldl (fun l t => addK l (Vamete.turned t r)) [] = addK ((ts.take j).foldl (fun l t => addK l (Vamete.turned t r)) []) (Vamete.turned t1 r) := by
      rw [List.take_add_one, hj, List.foldl_append]
      rfl
    have hlen := keys_fold_len (ts.take j) r []
    rw [List.length_take, List.length_nil] at hlen
    refine go_kput hr.units ev_bl (vrR 2 d) (ev_call (d_turned t) (hr.mono (by omega)) (ea_cons (vr 3 pv2) (ea_cons (vr 1 (hu.ex' x)) ea_nil)) ⟨n, 0, t1, r, rfl, hw _ (List.mem_of_getElem? hj), hl, hn, rfl⟩) kd (by omega) (fun H3 o e3 k3 tx => go_nil ⟨_, rfl, Ex.mut (x.trans e3) hd0, ?_⟩)
    rw [hfold]
    exact k3
  · rintro σ' H2 ⟨o3, rfl, x, kd⟩
    rw [List.take_length] at kd
    exact go_ret (ev_sortedD rfl hr.units t.b_sorted (vrR 2 d) kd (keys_sort ts r hw)) fun v7 H7 e7 h7 => hq v7 H7 (x.trans e7) h7
end
end TG
set_option Elab.async false
set_option linter.all false
set_option maxRecDepth 100000
set_option maxHeartbeats 2000000
namespace TG
open PySem PySem.Spec PyProof.Rows L2
open Evl (Ex ex_l ex_t fresh_back)
section
variable {P : Program} {w : World} {K : PySem.W.Frag} {mg : Str → Option Value} {base : Heap} {CR CD : Addr}
/-! ### many_orbits -/
def manyStep (ts : List Vamete.Turn) (s : Nat × List (List Int)) (r : List Int) : Nat × List (List Int) := if r ∈ s.2 then s else (s.1 + 1, (pOrbit ts r).foldl addK s.2)
def pMany (ts : List Vamete.Turn) (rows : List (List Int)) : Nat := (rows.foldl (manyStep ts) (0, [])).1
theorem addK_fold_len : ∀ (l ks : List (List Int)), (l.foldl addK ks).length ≤ ks.length + l.length
  | [], ks => Nat.le_refl _
  | a :: l, ks => by
    rw [List.foldl_cons]
    have := addK_fold_len l (addK ks a)
    have h2 := addK_len ks a
    rw [List.length_cons]
    omega
theorem pOrbit_len (ts : List Vamete.Turn) (r : List Int) : (pOrbit ts r).length ≤ ts.length := by
  unfold pOrbit
  rw [List.length_mergeSort]
  have := keys_fold_len ts r []
  rw [List.length_nil, Nat.zero_add] at this
  exact this
theorem many_len (ts : List Vamete.Turn) : ∀ (rows : List (List Int)) (s : Nat × List (List Int)), (rows.foldl (manyStep ts) s).2.length ≤ s.2.length + rows.length * ts.length
  | [], s => by simp
  | r :: rows, s => by
    rw [List.foldl_cons]
    have h1 := many_len ts rows (manyStep ts s r)
    have h2 : (manyStep ts s r).2.length ≤ s.2.length + ts.length := by
      unfold manyStep
      split
      · omega
      · have := addK_fold_len (pOrbit ts r) s.2
        have := pOrbit_len ts r
        show ((pOrbit ts r).foldl addK s.2).length ≤ _
        omega
    rw [List.length_cons, Nat.add_mul, Nat.one_mul]
    omega
def a_many_orbits : List T → T → Prop := fun Ps R => ∃ (n : Nat) (ts : List Vamete.Turn) (rows : List (List Int)), Ps = [Isf 1 (.list (ts.map dT)), Is (.list (rows.map dRow))] ∧ (∀ t ∈ ts, Wf n t) ∧ (∀ r ∈ rows, r.length = n) ∧ n ≤ 1000 ∧ ts.length ≤ 384 ∧ rows.length ≤ 130 ∧ R = Is (.int (pMany ts rows))
theorem sc_many_orbits : FnScope ["group", "rows", "known", "many", "row", "other"] ["group", "rows"] (defScope s_many_orbits) := ⟨rfl, rfl, rfl, by decide +kernel, rfl, by decide +kernel, by decide +kernel⟩
theorem d_many_orbits (t : Txt K mg CR CD) : Def P w K mg base 4 "many_orbits" ["group", "rows"] (Prom a_many_orbits) := by
  refine def_of t.f_many_orbits sc_many_orbits (fun _ _ ⟨_, _, _, h, _⟩ => h ▸ rfl) (fun _ _ _ _ _ _ us hl => match us, hl with | [_, _], _ => rfl) ?_
  intro f cdv A0 outer s H E vs Ps R Q hr hA ap hq
  obtain ⟨n, ts, rows, rfl, hw, hl, hn, hts, hrs, rfl⟩ := hA
  obtain ⟨v, u, rfl, hv, hu⟩ := allP2 ap
  obtain ⟨S, ss, rfl, hS, rS⟩ := is_list hu
  refine go_set (n := 2) ev_dnew (fun dv H1 e1 hd => ?_) sc_many_orbits.nd
  obtain ⟨d, rfl, hd0, hd⟩ := hd
  refine go_set (n := 3) ev_int (fun av H2 e2 ha => ?_) sc_many_orbits.nd
  obtain rfl := is_int ha
  refine go_forX (l := rows) (enc := dRow) (f := 0) (A := S) (xs := ss) (gt := gName 4) (fun j σ' H' => ∃ o4 o5, σ' = [some v, some (.ref S), some (.ref d), some (.int (((rows.take j).foldl (manyStep ts) (0, [])).1 : Nat)), o4, o5] ∧ Ex H H' ∧ KeyD H' d ((rows.take j).foldl (manyStep ts) (0, [])).2) PassesOwn.never rfl (vrR 1 S) ((e1.trans e2) _ _ hS) (IsAll.ex (e1.trans e2) _ _ rS) (pgv sc_many_orbits.nd) ?_ ?_ ?_ ?_
  · intro H3 e3
    exact ⟨none, none, rfl, (e1.trans e2).trans e3, [], (e2.trans e3) _ _ hd, rfl⟩
  · rintro j σ' H' _ ⟨o4, o5, rfl, x, kd⟩
    exact x _ _ hS
  · rintro j r vr' σ' H3 hj hvj pv ⟨o4, o5, rfl, x, kd⟩
    have hrm := List.mem_of_getElem? hj
    have pv3 : IsD 0 H3 (dRow r) vr' := by
      obtain ⟨v0, hv0, pv0⟩ := rS.get (i := j) (d := dRow r) (by rw [List.getElem?_map, hj]; rfl)
      rw [hvj] at hv0
      cases hv0
      exact pv0.ex' x
    have hfold : (rows.take (j + 1)).foldl (manyStep ts) (0, []) = manyStep ts ((rows.take j).foldl (manyStep ts) (0, [])) r := by
      rw [List.take_add_one, hj, List.foldl_append]
      rfl
    have hlen := many_len ts (rows.take j) (0, [])
    have hlen2 : (rows.take j).length * ts.length ≤ 130 * 384 := Nat.mul_le_mul (by rw [List.length_take]; omega) hts
    simp only [List.length_nil, Nat.zero_add] at hlen
    generalize (rows.take j).foldl (manyStep ts) (0, []) = M at hfold kd hlen
    refine go_if (et_knotin hr.units (vr 4 pv3) (vrR 2 d) kd) (fun hk H4 e4 => ?_) (fun hk H4 e4 => ?_)
    · have hnot : r ∉ M.2 := by simpa using hk
      have hst : manyStep ts M r = (M.1 + 1, (pOrbit ts r).foldl addK M.2) := if_neg hnot
      refine go_set (n := 3) (ev_add (vr 3 (.int (M.1 : Int) : IsD 0 _ _ _)) ev_int) (fun av H5 e5 ha => ?_) sc_many_orbits.nd
      obtain rfl := is_int ha
      have x5 := (x.trans e4).trans e5
      refine go_forL (l := pOrbit ts r) (enc := dRow) (f := 0) (gt := gName 5) PassesOwn.never rfl (ev_call (d_orbit t) (hr.mono (by omega)) (ea_cons (vr 0 (hv.ex' x5)) (ea_cons (vr 4 ((pv3.ex' e4).ex' e5)) ea_nil)) ⟨n, ts, r, rfl, hw, hl _ hrm, hn, by omega, rfl⟩) (pgv sc_many_orbits.nd) (fun B ys H6 e6 hB rB => ?_)
      obtain ⟨kvs, hkv, _⟩ := ((kd.ex e4).ex e5).ex e6
      have hBd : B ≠ d := fun z => by rw [z, hkv] at hB; cases hB
      refine ⟨fun i σ' H' => ∃ o5, σ' = [some v, some (.ref S), some (.ref d), some (.int ((M.1 : Int) + 1)), some vr', o5] ∧ Ex H H' ∧ H' B = some (.lst ys) ∧ Tx H6 H' ∧ KeyD H' d (((pOrbit ts r).take i).foldl addK M.2), ⟨o5, rfl, x5.trans e6, hB, Tx.refl _, ((kd.ex e4).ex e5).ex e6⟩, ?_, ?_, ?_⟩
      · rintro i σ' H' _ ⟨o5, rfl, x7, hB7, tx7, kd7⟩
        exact hB7
      · rintro i r2 v2 σ' H7 hi hvi pvi ⟨o5, rfl, x7, hB7, tx7, kd7⟩
        have hl7 := addK_fold_len ((pOrbit ts r).take i) M.2
        have ho := pOrbit_len ts r
        rw [List.length_take] at hl7
        refine go_kput hr.units ev_bl (vrR 2 d) (vr 5 (IsD.tx tx7 _ _ (imm_row _) pvi)) kd7 (by omega) (fun H8 o e8 k8 tx8 => go_nil ⟨_, rfl, Ex.mut (x7.trans e8) hd0, by rw [upd_ne hBd]; exact e8 _ _ hB7, (tx7.trans (tx_of e8)).trans tx8, ?_⟩)
        rw [List.take_add_one, hi, List.foldl_append]
        exact k8
      · rintro σ' H7 ⟨o5, rfl, x7, hB7, tx7, kd7⟩
        rw [List.take_length] at kd7
        refine go_nil (go_nil ⟨some vr', o5, ?_, x7, ?_⟩)
        · rw [hfold, hst]
          rfl
        · rw [hfold, hst]
          exact kd7
    · have hin : r ∈ M.2 := by simpa using hk
      have hst : manyStep ts M r = M := if_pos hin
      exact go_nil (go_nil ⟨some vr', o5, by rw [hfold, hst]; rfl, x.trans e4, by rw [hfold, hst]; exact kd.ex e4⟩)
  · rintro σ' H3 ⟨o4, o5, rfl, x, kd⟩
    rw [List.take_length]
    exact go_ret (vr 3 (.int _ : IsD 0 _ _ _)) fun v7 H7 e7 h7 => hq v7 H7 (x.trans e7) h7
end
end TG
set_option Elab.async false
set_option linter.all false
set_option maxRecDepth 100000
set_option maxHeartbeats 2000000
namespace TG
open PySem PySem.Spec PyProof.Rows L2
open Evl (Ex ex_l ex_t fresh_back)
section
variable {P : Program} {w : World} {K : PySem.W.Frag} {mg : Str → Option Value} {base : Heap} {CR CD : Addr}
/-! ### steps -/
def stepN : VametBase.Step → Int
  | .add _ => 0
  | .times _ => 1
  | .rest _ => 2
  | .abs => 3
  | .sort => 4
  | .reverse => 5
  | .rotate _ => 6
  | .take _ => 7
  | .drop _ => 8
  | .above _ => 9
  | .once => 10
  | .sum => 11
  | .greatest => 12
  | .least => 13
  | .count => 14
  | .steps => 15
  | .sums => 16
  | .twice => 17
def stepO : VametBase.Step → Int
  | .add c => c
  | .times c => c
  | .rest m => m
  | .rotate k => k
  | .take k => k
  | .drop k => k
  | .above c => c
  | _ => 0
def dStep (s : VametBase.Step) : PyData := .tuple [.int (stepN s), .int (stepO s)]
def okStep : VametBase.Step → Prop
  | .times c => -99 ≤ c ∧ c ≤ 99
  | .rest m => 1 ≤ m
  | _ => True
theorem imm_step (s : VametBase.Step) : imm (dStep s) = true := rfl
theorem ev_negc {X : Cx} {σ : L2.St} {H : Hp} {i : Int} {k : Nat} {p1 pos : Pos} : EvE X (.UnaryOp .USub (.Constant (.int i) k p1) pos) σ H (Is (.int (-i))) := fun H1 e1 Q q =>
  w_E (pe_un un_neg pe_int) ⟨i, rfl, q _ _ (Ex.refl _) (.int _)⟩
/-! ### is_beyond -/
def a_is_beyond : List T → T → Prop := fun Ps R => ∃ r : List Int, Ps = [Is (dRow r)] ∧ r.length ≤ 100000 ∧ R = Is (.bool (!VametBase.within r))
theorem sc_is_beyond : FnScope ["row", "number"] ["row"] (defScope s_is_beyond) := ⟨rfl, rfl, rfl, by decide +kernel, rfl, by decide +kernel, by decide +kernel⟩
theorem d_is_beyond (t : Txt K mg CR CD) : Def P w K mg base 1 "is_beyond" ["row"] (Prom a_is_beyond) := by
  refine def_of t.f_is_beyond sc_is_beyond (fun _ _ ⟨_, h, _⟩ => h ▸ rfl) (fun _ _ _ _ _ _ us hl => match us, hl with | [_], _ => rfl) ?_
  intro f cdv A0 outer s H E vs Ps R Q hr hA ap hq
  obtain ⟨r, rfl, hl, rfl⟩ := hA
  obtain ⟨v, rfl, hv⟩ := allP1 ap
  refine go_ret (ev_or2 (k := decide (40 < r.length)) (l := (r.map fun x => decide (1000000 < (if x < 0 then 0 - x else x))).any id) ((ev_gt (ev_lenT rfl t.b_len (vr 0 hv)) (ev_glob t.c_MOST_NUMBERS)).imp fun _ _ _ p => ?_) fun _ => ev_any (f := 0) rfl t.b_any ?_) (fun v7 H7 e7 h7 => hq v7 H7 e7 ?_)
  · rw [List.length_map] at p
    have : decide ((40 : Int) < (r.length : Int)) = decide (40 < r.length) := by
      by_cases h : 40 < r.length
      · rw [decide_eq_true h, decide_eq_true (by omega)]
      · rw [decide_eq_false h, decide_eq_false (by omega)]
    rw [this] at p
    exact p
  · rw [List.map_map]
    exact ev_lc0 (f := 0) (g := 0) (l := r) (enc := .int) (F := fun x => .bool (decide (1000000 < (if x < 0 then 0 - x else x)))) (j := 1) rfl sc_is_beyond.nd (src_tup (vr 0 hv)) (blkOk_by (N := ["row", "number"]) (sc := defScope s_is_beyond) (by decide +kernel)) hl (fun _ _ => rfl) (fun _ _ _ _ _ => pgv sc_is_beyond.nd) (fun z hz H2 a e2 ha => fun s' H0 C cl fp => ev_gt (ev_abs t.b_abs (vr 1 ha)) (ev_glob t.c_MOST_SIZE))
  · have : (decide (40 < r.length) || (r.map fun x => decide (1000000 < (if x < 0 then 0 - x else x))).any id) = !VametBase.within r := by
      unfold VametBase.within
      rw [Bool.not_and]
      congr 1
      · show decide (40 < r.length) = !decide (r.length ≤ 40)
        by_cases h : 40 < r.length
        · rw [decide_eq_true h, decide_eq_false (by omega)]; rfl
        · rw [decide_eq_false h, decide_eq_true (by omega)]; rfl
      · rw [List.any_map, List.not_all_eq_any_not]
        congr 1
        funext x
        show decide (1000000 < (if x < 0 then 0 - x else x)) = !(decide (0 - (1000000 : Int) ≤ x) && decide (x ≤ 1000000))
        by_cases h : 1000000 < (if x < 0 then 0 - x else x)
        · rw [decide_eq_true h]
          symm
          rw [Bool.not_eq_true', Bool.and_eq_false_iff]
          by_cases hx : x < 0
          · rw [if_pos hx] at h
            exact .inl (decide_eq_false (by omega))
          · rw [if_neg hx] at h
            exact .inr (decide_eq_false (by omega))
        · rw [decide_eq_false h]
          symm
          rw [Bool.not_eq_false', Bool.and_eq_true_iff]
          by_cases hx : x < 0
          · rw [if_pos hx] at h
            exact ⟨decide_eq_true (by omega), decide_eq_true (by omega)⟩
          · rw [if_neg hx] at h
            exact ⟨decide_eq_true (by omega), decide_eq_true (by omega)⟩
    rw [this] at h7
    exact h7
/-! ### once, sums -/
abbrev onceStep (k : List Int) (x : Int) : List Int := if k.contains x then k else k ++ [x]
theorem once_len : ∀ (l k : List Int), (l.foldl onceStep k).length ≤ k.length + l.length
  | [], k => Nat.le_refl _
  | a :: l, k => by
    rw [List.foldl_cons]
    have := once_len l (onceStep k a)
    have h2 : (onceStep k a).length ≤ k.length + 1 := by
      unfold onceStep
      split
      · omega
      · rw [List.length_append]; exact Nat.le_refl _
    rw [List.length_cons]
    omega
def a_once : List T → T → Prop := fun Ps R => ∃ r : List Int, Ps = [Is (dRow r)] ∧ r.length ≤ 1000 ∧ R = Is (dRow (VametBase.onceOnly r))
theorem sc_once : FnScope ["row", "found", "number"] ["row"] (defScope s_once) := ⟨rfl, rfl, rfl, by decide +kernel, rfl, by decide +kernel, by decide +kernel⟩
theorem d_once (t : Txt K mg CR CD) : Def P w K mg base 1 "once" ["row"] (Prom a_once) := by
  refine def_of t.f_once sc_once (fun _ _ ⟨_, h, _⟩ => h ▸ rfl) (fun _ _ _ _ _ _ us hl => match us, hl with | [_], _ => rfl) ?_
  intro f cdv A0 outer s H E vs Ps R Q hr hA ap hq
  obtain ⟨r, rfl, hl, rfl⟩ := hA
  obtain ⟨v, rfl, hv⟩ := allP1 ap
  refine go_set (n := 1) (P := Is (dRow [])) (ev_tup (f := 0) (ds := []) ea_nil (Nat.zero_le _)) (fun fv H1 e1 hf => ?_) sc_once.nd
  refine go_forT (l := r) (enc := .int) (gt := gName 2) PassesOwn.never rfl (vr 0 (hv.ex' e1)) (pgv sc_once.nd) (fun a xs H2 e2 ha rx => ⟨fun i σ' H' => ∃ fv o2, σ' = [some v, some fv, o2] ∧ Ex H2 H' ∧ IsD 0 H' (dRow ((r.take i).foldl onceStep [])) fv, ⟨fv, none, rfl, Ex.refl _, hf.ex' e2⟩, ?_, ?_, ?_⟩)
  · rintro i σ' H' _ ⟨fv, o2, rfl, x, hf⟩
    exact x _ _ ha
  · rintro i z vz σ' H' hi hvi pv ⟨fv, o2, rfl, x, hf⟩
    have hfold : (r.take (i + 1)).foldl onceStep [] = onceStep ((r.take i).foldl onceStep []) z := by
      rw [List.take_add_one, hi, List.foldl_append]; rfl
    have hlen := once_len (r.take i) []
    rw [List.length_take, List.length_nil] at hlen
    generalize (r.take i).foldl onceStep [] = M at hfold hf hlen
    refine go_if (et_notInI (vr 2 (pv.ex' x)) (vr 1 hf)) (fun hk H4 e4 => ?_) (fun hk H4 e4 => ?_)
    · have hc : M.contains z = false := by simpa using hk
      refine go_set (n := 1) (ev_catRow (m := [z]) (vr 1 (hf.ex' e4)) (ev_tup (f := 0) (ds := [.int z]) (ea_cons (vr 2 ((pv.ex' x).ex' e4)) ea_nil) (by show 1 ≤ 1000; omega)) (by show M.length + 1 ≤ 100000; omega)) (fun nv H5 e5 hn => go_nil (go_nil ⟨nv, _, rfl, (x.trans e4).trans e5, ?_⟩)) sc_once.nd
      rw [hfold]
      show IsD 0 H5 (dRow (if M.contains z = true then M else M ++ [z])) nv
      rw [hc]
      exact hn
    · have hc : M.contains z = true := by simpa using hk
      refine go_nil (go_nil ⟨fv, _, rfl, x.trans e4, ?_⟩)
      rw [hfold]
      show IsD 0 H4 (dRow (if M.contains z = true then M else M ++ [z])) fv
      rw [hc]
      exact hf.ex' e4
  · rintro σ' H' ⟨fv, o2, rfl, x, hf⟩
    rw [List.take_length] at hf
    exact go_ret (vr 1 hf) fun v7 H7 e7 h7 => hq v7 H7 ((e1.trans e2).trans (x.trans e7)) h7
theorem running_len : ∀ (l : List Int) (a : Int), (VametBase.runningFrom a l).length = l.length
  | [], _ => rfl
  | x :: l, a => by
    show (VametBase.runningFrom (a + x) l).length + 1 = _
    rw [running_len l]; rfl
theorem running_app : ∀ (l : List Int) (a x : Int), VametBase.runningFrom a (l ++ [x]) = VametBase.runningFrom a l ++ [a + l.sum + x]
  | [], a, x => by
    show [a + x] = [] ++ [a + List.sum [] + x]
    rw [List.sum_nil, Int.add_zero]; rfl
  | y :: l, a, x => by
    show (a + y) :: VametBase.runningFrom (a + y) (l ++ [x]) = (a + y) :: VametBase.runningFrom (a + y) l ++ [a + (y :: l).sum + x]
    rw [running_app l, List.sum_cons, List.cons_append]
    congr 3
    omega
def a_sums : List T → T → Prop := fun Ps R => ∃ r : List Int, Ps = [Is (dRow r)] ∧ r.length ≤ 1000 ∧ R = Is (dRow (VametBase.runningFrom 0 r))
theorem sc_sums : FnScope ["row", "found", "so_far", "number"] ["row"] (defScope s_sums) := ⟨rfl, rfl, rfl, by decide +kernel, rfl, by decide +kernel, by decide +kernel⟩
theorem d_sums (t : Txt K mg CR CD) : Def P w K mg base 1 "sums" ["row"] (Prom a_sums) := by
  refine def_of t.f_sums sc_sums (fun _ _ ⟨_, h, _⟩ => h ▸ rfl) (fun _ _ _ _ _ _ us hl => match us, hl with | [_], _ => rfl) ?_
  intro f cdv A0 outer s H E vs Ps R Q hr hA ap hq
  obtain ⟨r, rfl, hl, rfl⟩ := hA
  obtain ⟨v, rfl, hv⟩ := allP1 ap
  refine go_set (n := 1) (P := Is (dRow [])) (ev_tup (f := 0) (ds := []) ea_nil (Nat.zero_le _)) (fun fv H1 e1 hf => ?_) sc_sums.nd
  refine go_set (n := 2) ev_int (fun sv H2 e2 hs => ?_) sc_sums.nd
  obtain rfl := is_int hs
  refine go_forT (l := r) (enc := .int) (gt := gName 3) PassesOwn.never rfl (vr 0 ((hv.ex' e1).ex' e2)) (pgv sc_sums.nd) (fun a xs H3 e3 ha rx => ⟨fun i σ' H' => ∃ fv o3, σ' = [some v, some fv, some (.int (r.take i).sum), o3] ∧ Ex H3 H' ∧ IsD 0 H' (dRow (VametBase.runningFrom 0 (r.take i))) fv, ⟨fv, none, rfl, Ex.refl _, (hf.ex' e2).ex' e3⟩, ?_, ?_, ?_⟩)
  · rintro i σ' H' _ ⟨fv, o2, rfl, x, hf⟩
    exact x _ _ ha
  · rintro i z vz σ' H' hi hvi pv ⟨fv, o2, rfl, x, hf⟩
    have htake : r.take (i + 1) = r.take i ++ [z] := by rw [List.take_add_one, hi]; rfl
    have hlen := running_len (r.take i) 0
    rw [List.length_take] at hlen
    refine go_set (n := 2) (ev_add (vr 2 (.int _ : IsD 0 _ _ _)) (vr 3 (pv.ex' x))) (fun sv H4 e4 hs => ?_) sc_sums.nd
    obtain rfl := is_int hs
    refine go_set (n := 1) (ev_catRow (m := [_]) (vr 1 (hf.ex' e4)) (ev_tup (f := 0) (ds := [.int _]) (ea_cons (vr 2 (.int _ : IsD 0 _ _ _)) ea_nil) (by show 1 ≤ 1000; omega)) (by rw [hlen]; show min i r.length + 1 ≤ 100000; omega)) (fun nv H5 e5 hn => go_nil ⟨nv, some vz, ?_, (x.trans e4).trans e5, ?_⟩) sc_sums.nd
    · have hsum : (r.take (i + 1)).sum = (r.take i).sum + z := by rw [htake, List.sum_append]; simp
      rw [hsum]
      rfl
    · rw [htake, running_app, Int.zero_add]
      exact hn
  · rintro σ' H' ⟨fv, o2, rfl, x, hf⟩
    rw [List.take_length] at hf
    exact go_ret (vr 1 hf) fun v7 H7 e7 h7 => hq v7 H7 (((e1.trans e2).trans e3).trans (x.trans e7)) h7
end
end TG
set_option Elab.async false
set_option linter.all false
set_option maxRecDepth 100000
set_option maxHeartbeats 2000000
namespace TG
open PySem PySem.Spec PyProof.Rows L2
open Evl (Ex ex_l ex_t fresh_back)
section
variable {P : Program} {w : World} {K : PySem.W.Frag} {mg : Str → Option Value} {base : Heap} {CR CD : Addr}
section
variable {f g : Nat} {X : Cx} {σ : L2.St} {H : Hp} {a iter : Expr} {pos : Pos} {l : List Int}
theorem ev_lcI {G : Int → Int} {x : Str} {px : Pos} {j : Nat} {scope : Scope} {elt : Expr} (hc : X.calm = true) (hN : X.N.Nodup) (h : EvE X iter σ H (Isf f (dRow l))) (ok : BlkOk X.N X.env.scope scope [(x, j)])
    (hl : l.length ≤ 100000)
    (hg : ∀ (s : Shared) (H : Hp) (C : Addr) (cl : List (Str × Addr)) (fp : List Addr), PG (X.blk s H scope (compEnvC scope cl C X.env) fp) (.Name x px) (gName j))
    (hs : ∀ z ∈ l, ∀ H1 v, Ex H H1 → IsD f H1 (.int z) v → EvEb X scope elt ((wipe σ [j]).set j (some v)) H1 (Is (.int (G z))))
    (hf : ∀ x, foldedSetIterable iter X.env x = pure x := by intro _; rfl) :
    EvE X (.ListComp elt [⟨.Name x px, iter, [], 0⟩] scope pos) σ H (Is (dInts (l.map G))) := by
  have := ev_lc0 (pos := pos) (g := 0) (F := fun z => .int (G z)) hc hN (src_tup h) ok hl (fun _ _ => rfl) hg hs hf
  unfold dInts
  rw [List.map_map]
  exact this
theorem ev_lcIf {p : Int → Bool} {x : Str} {px : Pos} {j : Nat} {scope : Scope} {elt test : Expr} (hc : X.calm = true) (hN : X.N.Nodup) (h : EvE X iter σ H (Isf f (dRow l))) (ok : BlkOk X.N X.env.scope scope [(x, j)])
    (hl : l.length ≤ 100000)
    (hg : ∀ (s : Shared) (H : Hp) (C : Addr) (cl : List (Str × Addr)) (fp : List Addr), PG (X.blk s H scope (compEnvC scope cl C X.env) fp) (.Name x px) (gName j))
    (hs : ∀ z ∈ l, ∀ H1 v, Ex H H1 → IsD f H1 (.int z) v → EvTb X scope test ((wipe σ [j]).set j (some v)) H1 (p z) ∧ (p z = true → EvEb X scope elt ((wipe σ [j]).set j (some v)) H1 (Is (.int z))))
    (hf : ∀ x, foldedSetIterable iter X.env x = pure x := by intro _; rfl) :
    EvE X (.ListComp elt [⟨.Name x px, iter, [test], 0⟩] scope pos) σ H (Is (dInts (l.filter p))) :=
  ev_lc1 (pos := pos) (g := 0) (F := PyData.int) hc hN (src_tup h) ok hl (fun _ _ => rfl) hg hs hf
theorem ev_tupI {p : Pos} (hm : X.mg "tuple" = none) (ha : EvE X a σ H (Is (dInts l))) (hg : Gl X "tuple" := by rfl) (na : starEach [a] X.env = (false, eval a X.env) :: starEach [] X.env := by rfl) : EvE X (.Call (.Name "tuple" p) [a] [] pos) σ H (Is (dRow l)) :=
  ev_tupleL hm ha (imms_map (fun _ => rfl) _) hg na
end
/-! ### each -/
def a_each : List T → T → Prop := fun Ps R => ∃ (s : VametBase.Step) (r : List Int), Ps = [Is (.int (stepN s)), Is (.int (stepO s)), Is (dRow r)] ∧ stepN s ≤ 3 ∧ okStep s ∧ r.length ≤ 1000 ∧ R = Is (dRow (VametBase.done s r))
theorem sc_each : FnScope ["step", "own", "row", "number"] ["step", "own", "row"] (defScope s_each) := ⟨rfl, rfl, rfl, by decide +kernel, rfl, by decide +kernel, by decide +kernel⟩
theorem d_each (t : Txt K mg CR CD) : Def P w K mg base 1 "each" ["step", "own", "row"] (Prom a_each) := by
  refine def_of t.f_each sc_each (fun _ _ ⟨_, _, h, _⟩ => h ▸ rfl) (fun _ _ _ _ _ _ us hl => match us, hl with | [_, _, _], _ => rfl) ?_
  intro f cdv A0 outer s H E vs Ps R Q hr hA ap hq
  obtain ⟨s1, r, rfl, hn, hok, hl, rfl⟩ := hA
  obtain ⟨v, u, z, rfl, hv, hu, hz⟩ := allP3 ap
  refine go_ifr (et_eq (vr 0 hv) (ev_glob t.c_ADD)) (fun h0 H1 e1 => ?_) (fun h0 H1 e1 => ?_)
  · obtain ⟨c, rfl⟩ : ∃ c, s1 = .add c := by cases s1 <;> simp [stepN] at h0 ⊢
    exact go_ret (ev_tupI t.b_tuple (ev_lcI (G := fun x => x + c) (j := 3) rfl sc_each.nd (vr 2 (hz.ex' e1)) (blkOk_by (N := ["step", "own", "row", "number"]) (sc := defScope s_each) (by decide +kernel)) (by omega) (fun _ _ _ _ _ => pgv sc_each.nd) (fun y hy H2 w e2 hw => fun s' H0 C cl fp => ev_add (vr 3 hw) (vr 1 ((hu.ex' e1).ex' e2))))) fun v7 H7 e7 h7 => hq v7 H7 (e1.trans e7) h7
  refine go_ifr (et_eq (vr 0 (hv.ex' e1)) (ev_glob t.c_TIMES)) (fun h1 H2 e2 => ?_) (fun h1 H2 e2 => ?_)
  · obtain ⟨c, rfl⟩ : ∃ c, s1 = .times c := by cases s1 <;> simp [stepN] at h1 ⊢
    exact go_ret (ev_tupI t.b_tuple (ev_lcI (G := fun x => x * c) (j := 3) rfl sc_each.nd (vr 2 ((hz.ex' e1).ex' e2)) (blkOk_by (N := ["step", "own", "row", "number"]) (sc := defScope s_each) (by decide +kernel)) (by omega) (fun _ _ _ _ _ => pgv sc_each.nd) (fun y hy H3 w e3 hw => fun s' H0 C cl fp => ev_mul (vr 3 hw) (vr 1 (((hu.ex' e1).ex' e2).ex' e3)) (.inr (by have : -99 ≤ c ∧ c ≤ 99 := hok; show -(2 ^ 64) < c ∧ c < 2 ^ 64; omega))))) fun v7 H7 e7 h7 => hq v7 H7 ((e1.trans e2).trans e7) h7
  refine go_ifr (et_eq (vr 0 ((hv.ex' e1).ex' e2)) (ev_glob t.c_REST)) (fun h2 H3 e3 => ?_) (fun h2 H3 e3 => ?_)
  · obtain ⟨m, rfl⟩ : ∃ m, s1 = .rest m := by cases s1 <;> simp [stepN] at h2 ⊢
    have hm : 1 ≤ m := hok
    refine go_ret (ev_tupI t.b_tuple (ev_lcI (G := fun x => x % (m : Int)) (j := 3) rfl sc_each.nd (vr 2 (((hz.ex' e1).ex' e2).ex' e3)) (blkOk_by (N := ["step", "own", "row", "number"]) (sc := defScope s_each) (by decide +kernel)) (by omega) (fun _ _ _ _ _ => pgv sc_each.nd) (fun y hy H4 w e4 hw => fun s' H0 C cl fp => ev_mod (vr 3 hw) (vr 1 ((((hu.ex' e1).ex' e2).ex' e3).ex' e4)) (by show 0 < (m : Int); omega)))) fun v7 H7 e7 h7 => hq v7 H7 (((e1.trans e2).trans e3).trans e7) ?_
    have : VametBase.done (.rest m) r = r.map fun x => x % (m : Int) := by
      show r.map (VametBase.restOf m) = _
      refine List.map_congr_left fun x _ => ?_
      show (if m = 0 then x else x % (m : Int)) = _
      rw [if_neg (by omega)]
    rw [this]
    exact h7
  · obtain rfl : s1 = .abs := by cases s1 <;> simp [stepN] at h0 h1 h2 hn ⊢
    exact go_ret (ev_tupI t.b_tuple (ev_lcI (G := fun x => if x < 0 then 0 - x else x) (j := 3) rfl sc_each.nd (vr 2 (((hz.ex' e1).ex' e2).ex' e3)) (blkOk_by (N := ["step", "own", "row", "number"]) (sc := defScope s_each) (by decide +kernel)) (by omega) (fun _ _ _ _ _ => pgv sc_each.nd) (fun y hy H4 w e4 hw => fun s' H0 C cl fp => ev_abs t.b_abs (vr 3 hw)))) fun v7 H7 e7 h7 => hq v7 H7 (((e1.trans e2).trans e3).trans e7) h7
/-! ### placed -/
def a_placed : List T → T → Prop := fun Ps R => ∃ (s : VametBase.Step) (r : List Int), Ps = [Is (.int (stepN s)), Is (.int (stepO s)), Is (dRow r)] ∧ 4 ≤ stepN s ∧ stepN s ≤ 10 ∧ r.length ≤ 1000 ∧ R = Is (dRow (VametBase.done s r))
theorem sc_placed : FnScope ["step", "own", "row", "many", "number"] ["step", "own", "row"] (defScope s_placed) := ⟨rfl, rfl, rfl, by decide +kernel, rfl, by decide +kernel, by decide +kernel⟩
theorem d_placed (t : Txt K mg CR CD) : Def P w K mg base 2 "placed" ["step", "own", "row"] (Prom a_placed) := by
  refine def_of t.f_placed sc_placed (fun _ _ ⟨_, _, h, _⟩ => h ▸ rfl) (fun _ _ _ _ _ _ us hl => match us, hl with | [_, _, _], _ => rfl) ?_
  intro f cdv A0 outer s H E vs Ps R Q hr hA ap hq
  obtain ⟨s1, r, rfl, hn0, hn, hl, rfl⟩ := hA
  obtain ⟨v, u, z, rfl, hv, hu, hz⟩ := allP3 ap
  refine go_ifr (et_eq (vr 0 hv) (ev_glob t.c_SORT)) (fun h0 H1 e1 => ?_) (fun h0 H1 e1 => ?_)
  · obtain rfl : s1 = .sort := by cases s1 <;> simp [stepN] at h0 ⊢
    exact go_ret (ev_tupI t.b_tuple (ev_sortedT t.b_sorted (vr 2 (hz.ex' e1)))) fun v7 H7 e7 h7 => hq v7 H7 (e1.trans e7) h7
  replace hv := hv.ex' e1
  replace hu := hu.ex' e1
  replace hz := hz.ex' e1
  refine go_ifr (et_eq (vr 0 hv) (ev_glob t.c_REVERSE)) (fun h1 H2 e2 => ?_) (fun h1 H2 e2 => ?_)
  · obtain rfl : s1 = .reverse := by cases s1 <;> simp [stepN] at h1 ⊢
    exact go_ret (ev_rev (vr 2 (hz.ex' e2))) fun v7 H7 e7 h7 => hq v7 H7 ((e1.trans e2).trans e7) h7
  replace hv := hv.ex' e2
  replace hu := hu.ex' e2
  replace hz := hz.ex' e2
  replace e2 := e1.trans e2
  refine go_ifr (et_eq (vr 0 hv) (ev_glob t.c_ROTATE)) (fun h2 H3 e3 => ?_) (fun h2 H3 e3 => ?_)
  · obtain ⟨k, rfl⟩ : ∃ k, s1 = .rotate k := by cases s1 <;> simp [stepN] at h2 ⊢
    have hk : (k : Int) % (if ((r.map PyData.int).length : Int) > 1 then ((r.map PyData.int).length : Int) else 1) = ((k % Nat.max 1 r.length : Nat) : Int) := by
      rw [List.length_map]
      have : (if (r.length : Int) > 1 then (r.length : Int) else 1) = ((Nat.max 1 r.length : Nat) : Int) := by
        by_cases h : 1 < r.length
        · rw [if_pos (by omega)]
          have : Nat.max 1 r.length = r.length := Nat.max_eq_right (by omega)
          rw [this]
        · rw [if_neg (by omega)]
          have : Nat.max 1 r.length = 1 := Nat.max_eq_left (by omega)
          rw [this]; rfl
      rw [this]
      rfl
    refine go_set (n := 3) (ev_mod (vr 1 (hu.ex' e3)) (ev_max rfl t.b_max ev_int (ev_lenT rfl t.b_len (vr 2 (hz.ex' e3)))) (by split <;> omega)) (fun mv H4 e4 hm => ?_) sc_placed.nd
    have hm : IsD 0 H4 (.int ((k % Nat.max 1 r.length : Nat) : Int)) mv := hk ▸ hm
    refine go_ret (ev_catRow (ev_slR (x := some ((k % Nat.max 1 r.length : Nat) : Int)) (y := none) (vr 2 ((hz.ex' e3).ex' e4)) (eo_some (vr 3 hm)) eo_none) (ev_slR (x := none) (y := some ((k % Nat.max 1 r.length : Nat) : Int)) (vr 2 ((hz.ex' e3).ex' e4)) eo_none (eo_some (vr 3 hm))) ?_) fun v7 H7 e7 h7 => hq v7 H7 ((e2.trans e3).trans (e4.trans e7)) ?_
    · rw [cut_from, cut_to, List.length_drop, List.length_take]; omega
    · rw [cut_from, cut_to] at h7
      exact h7
  replace hv := hv.ex' e3
  replace hu := hu.ex' e3
  replace hz := hz.ex' e3
  replace e3 := e2.trans e3
  refine go_ifr (et_eq (vr 0 hv) (ev_glob t.c_TAKE)) (fun h3 H4 e4 => ?_) (fun h3 H4 e4 => ?_)
  · obtain ⟨k, rfl⟩ : ∃ k, s1 = .take k := by cases s1 <;> simp [stepN] at h3 ⊢
    refine go_ret (ev_slR (x := none) (y := some (k : Int)) (vr 2 (hz.ex' e4)) eo_none (eo_some (vr 1 (hu.ex' e4)))) fun v7 H7 e7 h7 => hq v7 H7 (e3.trans (e4.trans e7)) ?_
    rw [cut_to] at h7
    exact h7
  replace hv := hv.ex' e4
  replace hu := hu.ex' e4
  replace hz := hz.ex' e4
  replace e4 := e3.trans e4
  refine go_ifr (et_eq (vr 0 hv) (ev_glob t.c_DROP)) (fun h4 H5 e5 => ?_) (fun h4 H5 e5 => ?_)
  · obtain ⟨k, rfl⟩ : ∃ k, s1 = .drop k := by cases s1 <;> simp [stepN] at h4 ⊢
    refine go_ret (ev_slR (x := some (k : Int)) (y := none) (vr 2 (hz.ex' e5)) (eo_some (vr 1 (hu.ex' e5))) eo_none) fun v7 H7 e7 h7 => hq v7 H7 (e4.trans (e5.trans e7)) ?_
    rw [cut_from] at h7
    exact h7
  replace hv := hv.ex' e5
  replace hu := hu.ex' e5
  replace hz := hz.ex' e5
  replace e5 := e4.trans e5
  refine go_ifr (et_eq (vr 0 hv) (ev_glob t.c_ABOVE)) (fun h5 H6 e6 => ?_) (fun h5 H6 e6 => ?_)
  · obtain ⟨c, rfl⟩ : ∃ c, s1 = .above c := by cases s1 <;> simp [stepN] at h5 ⊢
    exact go_ret (ev_tupI t.b_tuple (ev_lcIf (p := fun x => decide (c < x)) (j := 4) rfl sc_placed.nd (vr 2 (hz.ex' e6)) (blkOk_by (N := ["step", "own", "row", "many", "number"]) (sc := defScope s_placed) (by decide +kernel)) (by omega) (fun _ _ _ _ _ => pgv sc_placed.nd) (fun y hy H7 w e7 hw => ⟨fun s' H0 C cl fp => et_gt (vr 4 hw) (vr 1 ((hu.ex' e6).ex' e7)), fun _ s' H0 C cl fp => vr 4 hw⟩))) fun v7 H7 e7 h7 => hq v7 H7 (e5.trans (e6.trans e7)) h7
  · obtain rfl : s1 = .once := by cases s1 <;> simp [stepN] at h0 h1 h2 h3 h4 h5 hn hn0 ⊢
    exact go_ret (ev_call (d_once t) hr (ea_cons (vr 2 (hz.ex' e6)) ea_nil) ⟨r, rfl, hl, rfl⟩) fun v7 H7 e7 h7 => hq v7 H7 (e5.trans (e6.trans e7)) h7
end
end TG
set_option Elab.async false
set_option linter.all false
set_option maxRecDepth 100000
set_option maxHeartbeats 2000000
namespace TG
open PySem PySem.Spec PyProof.Rows L2
open Evl (Ex ex_l ex_t fresh_back)
section
variable {P : Program} {w : World} {K : PySem.W.Frag} {mg : Str → Option Value} {base : Heap} {CR CD : Addr}
/-! ### greatest, least -/
theorem fold_max : ∀ (l : List Int) (x : Int), (l.foldl (fun a b => if a < b then b else a) x ∈ x :: l) ∧ ∀ y ∈ x :: l, y ≤ l.foldl (fun a b => if a < b then b else a) x
  | [], x => ⟨List.mem_cons_self, fun y hy => by rw [List.mem_singleton.mp hy]; exact Int.le_refl _⟩
  | a :: l, x => by
    rw [List.foldl_cons]
    obtain ⟨h1, h2⟩ := fold_max l (if x < a then a else x)
    refine ⟨?_, fun y hy => ?_⟩
    · rcases List.mem_cons.mp h1 with h | h
      · rw [h]
        split
        · exact List.mem_cons_of_mem _ List.mem_cons_self
        · exact List.mem_cons_self
      · exact List.mem_cons_of_mem _ (List.mem_cons_of_mem _ h)
    · have hle := h2 _ List.mem_cons_self
      rcases List.mem_cons.mp hy with rfl | hy
      · refine Int.le_trans ?_ hle
        split <;> omega
      rcases List.mem_cons.mp hy with rfl | hy
      · refine Int.le_trans ?_ hle
        split <;> omega
      · exact h2 y (List.mem_cons_of_mem _ hy)
theorem fold_min : ∀ (l : List Int) (x : Int), (l.foldl (fun a b => if b < a then b else a) x ∈ x :: l) ∧ ∀ y ∈ x :: l, l.foldl (fun a b => if b < a then b else a) x ≤ y
  | [], x => ⟨List.mem_cons_self, fun y hy => by rw [List.mem_singleton.mp hy]; exact Int.le_refl _⟩
  | a :: l, x => by
    rw [List.foldl_cons]
    obtain ⟨h1, h2⟩ := fold_min l (if a < x then a else x)
    refine ⟨?_, fun y hy => ?_⟩
    · rcases List.mem_cons.mp h1 with h | h
      · rw [h]
        split
        · exact List.mem_cons_of_mem _ List.mem_cons_self
        · exact List.mem_cons_self
      · exact List.mem_cons_of_mem _ (List.mem_cons_of_mem _ h)
    · have hle := h2 _ List.mem_cons_self
      rcases List.mem_cons.mp hy with rfl | hy
      · refine Int.le_trans hle ?_
        split <;> omega
      rcases List.mem_cons.mp hy with rfl | hy
      · refine Int.le_trans hle ?_
        split <;> omega
      · exact h2 y (List.mem_cons_of_mem _ hy)
theorem greatest_eq (l : List Int) : (VametBase.sorted l).drop ((VametBase.sorted l).length - 1) = (VametBase.greatestOf l).toList := by
  cases l with
  | nil => rfl
  | cons x l =>
    obtain ⟨h1, h2⟩ := fold_max l x
    show _ = [l.foldl (fun a b => if a < b then b else a) x]
    generalize l.foldl (fun a b => if a < b then b else a) x = m at h1 h2
    have hp := sorted_perm (x :: l)
    have hs := sorted_pw (x :: l)
    generalize VametBase.sorted (x :: l) = S at hp hs
    have hne : S ≠ [] := fun z => by rw [z] at hp; have := hp.length_eq; simp at this
    have hd := List.dropLast_concat_getLast hne
    generalize S.dropLast = I at hd
    generalize S.getLast hne = z at hd
    subst hd
    have : (I ++ [z]).length - 1 = I.length := by rw [List.length_append]; rfl
    rw [this, List.drop_left]
    have hz : z ≤ m := h2 z (hp.mem_iff.mp (List.mem_append_right _ List.mem_cons_self))
    have hm : m ∈ I ++ [z] := hp.mem_iff.mpr h1
    rw [List.pairwise_append] at hs
    rcases List.mem_append.mp hm with hm | hm
    · have := hs.2.2 m hm z List.mem_cons_self
      rw [Int.le_antisymm hz this]
    · rw [List.mem_singleton.mp hm]
theorem least_eq (l : List Int) : (VametBase.sorted l).take 1 = (VametBase.leastOf l).toList := by
  cases l with
  | nil => rfl
  | cons x l =>
    obtain ⟨h1, h2⟩ := fold_min l x
    show _ = [l.foldl (fun a b => if b < a then b else a) x]
    generalize l.foldl (fun a b => if b < a then b else a) x = m at h1 h2
    have hp := sorted_perm (x :: l)
    have hs := sorted_pw (x :: l)
    generalize VametBase.sorted (x :: l) = S at hp hs
    cases S with
    | nil => have := hp.length_eq; simp at this
    | cons z S =>
      show [z] = [m]
      have hz : m ≤ z := h2 z (hp.mem_iff.mp List.mem_cons_self)
      have hm : m ∈ z :: S := hp.mem_iff.mpr h1
      rw [List.pairwise_cons] at hs
      rcases List.mem_cons.mp hm with hm | hm
      · rw [hm]
      · rw [Int.le_antisymm hz (hs.1 m hm)]
theorem zip_take : ∀ (l : List Int), (l.take (l.length - 1)).zip (l.drop 1) = l.zip (l.drop 1)
  | [] => rfl
  | [a] => rfl
  | a :: b :: l => by
    have := zip_take (b :: l)
    have e : (a :: b :: l).length - 1 = ((b :: l).length - 1) + 1 := by simp
    rw [e, List.take_succ_cons]
    show (a, b) :: ((b :: l).take ((b :: l).length - 1)).zip l = (a, b) :: (b :: l).zip l
    exact congrArg ((a, b) :: ·) this
/-! ### told -/
def a_told : List T → T → Prop := fun Ps R => ∃ (s : VametBase.Step) (r : List Int), Ps = [Is (.int (stepN s)), Is (dRow r)] ∧ 11 ≤ stepN s ∧ r.length ≤ 1000 ∧ R = Is (dRow (VametBase.done s r))
theorem sc_told : FnScope ["step", "row", "one", "other"] ["step", "row"] (defScope s_told) := ⟨rfl, rfl, rfl, by decide +kernel, rfl, by decide +kernel, by decide +kernel⟩
theorem d_told (t : Txt K mg CR CD) : Def P w K mg base 2 "told" ["step", "row"] (Prom a_told) := by
  refine def_of t.f_told sc_told (fun _ _ ⟨_, _, h, _⟩ => h ▸ rfl) (fun _ _ _ _ _ _ us hl => match us, hl with | [_, _], _ => rfl) ?_
  intro f cdv A0 outer s H E vs Ps R Q hr hA ap hq
  obtain ⟨s1, r, rfl, hn, hl, rfl⟩ := hA
  obtain ⟨v, z, rfl, hv, hz⟩ := allP2 ap
  refine go_ifr (et_eq (vr 0 hv) (ev_glob t.c_SUM)) (fun h0 H1 e1 => ?_) (fun h0 H1 e1 => ?_)
  · obtain rfl : s1 = .sum := by cases s1 <;> simp [stepN] at h0 ⊢
    exact go_ret (ev_tup (f := 0) (ds := [.int (VametBase.total r)]) (ea_cons (ev_sumT rfl t.b_sum (vr 1 (hz.ex' e1))) ea_nil) (by show 1 ≤ 1000; omega)) fun v7 H7 e7 h7 => hq v7 H7 (e1.trans e7) h7
  replace hv := hv.ex' e1
  replace hz := hz.ex' e1
  refine go_ifr (et_eq (vr 0 hv) (ev_glob t.c_GREATEST)) (fun h1 H2 e2 => ?_) (fun h1 H2 e2 => ?_)
  · obtain rfl : s1 = .greatest := by cases s1 <;> simp [stepN] at h1 ⊢
    refine go_ret (ev_tupI t.b_tuple (ev_slI (x := some (-1)) (y := none) (ev_sortedT t.b_sorted (vr 1 (hz.ex' e2))) (eo_some ev_negc) eo_none)) fun v7 H7 e7 h7 => hq v7 H7 ((e1.trans e2).trans e7) ?_
    rw [cut_fromNeg, greatest_eq] at h7
    exact h7
  replace hv := hv.ex' e2
  replace hz := hz.ex' e2
  replace e2 := e1.trans e2
  refine go_ifr (et_eq (vr 0 hv) (ev_glob t.c_LEAST_steps)) (fun h2 H3 e3 => ?_) (fun h2 H3 e3 => ?_)
  · obtain rfl : s1 = .least := by cases s1 <;> simp [stepN] at h2 ⊢
    refine go_ret (ev_tupI t.b_tuple (ev_slI (x := none) (y := some ((1 : Nat) : Int)) (ev_sortedT t.b_sorted (vr 1 (hz.ex' e3))) eo_none (eo_some ev_int))) fun v7 H7 e7 h7 => hq v7 H7 ((e2.trans e3).trans e7) ?_
    rw [cut_to, least_eq] at h7
    exact h7
  replace hv := hv.ex' e3
  replace hz := hz.ex' e3
  replace e3 := e2.trans e3
  refine go_ifr (et_eq (vr 0 hv) (ev_glob t.c_COUNT)) (fun h3 H4 e4 => ?_) (fun h3 H4 e4 => ?_)
  · obtain rfl : s1 = .count := by cases s1 <;> simp [stepN] at h3 ⊢
    refine go_ret (ev_tup (f := 0) (ds := [.int (r.map PyData.int).length]) (ea_cons (ev_lenT rfl t.b_len (vr 1 (hz.ex' e4))) ea_nil) (by show 1 ≤ 1000; omega)) fun v7 H7 e7 h7 => hq v7 H7 ((e3.trans e4).trans e7) ?_
    rw [List.length_map] at h7
    exact h7
  replace hv := hv.ex' e4
  replace hz := hz.ex' e4
  replace e4 := e3.trans e4
  refine go_ifr (et_eq (vr 0 hv) (ev_glob t.c_STEPS)) (fun h4 H5 e5 => ?_) (fun h4 H5 e5 => ?_)
  · obtain rfl : s1 = .steps := by cases s1 <;> simp [stepN] at h4 ⊢
    refine go_ret (ev_tupleL t.b_tuple (ev_lcP (f := 0) (g := 0) (l := cutD r none (some (-1))) (m := cutD r (some ((1 : Nat) : Int)) none) (enc := .int) (enc2 := .int) (F := fun x => .int (x.2 - x.1)) (j := 2) (k := 3) rfl sc_told.nd (src_zip t.b_zip (ev_slR (vr 1 (hz.ex' e5)) eo_none (eo_some ev_negc)) (ev_slR (vr 1 (hz.ex' e5)) (eo_some ev_int) eo_none)) (blkOk_by (N := ["step", "row", "one", "other"]) (sc := defScope s_told) (by decide +kernel)) (by decide) (by rw [cut_toNeg, List.length_take]; omega) (fun _ _ => rfl) (fun _ _ _ _ _ => pg2 rfl sc_told.nd) (fun y hy H6 w x e6 hw hx => fun s' H0 C cl fp => ev_sub (vr 3 hx) (vr 2 hw))) (imms_map (fun _ => rfl) _)) fun v7 H7 e7 h7 => hq v7 H7 ((e4.trans e5).trans e7) ?_
    rw [cut_toNeg, cut_from, zip_take] at h7
    show IsD 0 H7 (.tuple (((r.zip (r.drop 1)).map fun x => x.2 - x.1).map .int)) v7
    rw [List.map_map]
    exact h7
  replace hv := hv.ex' e5
  replace hz := hz.ex' e5
  replace e5 := e4.trans e5
  refine go_ifr (et_eq (vr 0 hv) (ev_glob t.c_SUMS)) (fun h5 H6 e6 => ?_) (fun h5 H6 e6 => ?_)
  · obtain rfl : s1 = .sums := by cases s1 <;> simp [stepN] at h5 ⊢
    exact go_ret (ev_call (d_sums t) hr (ea_cons (vr 1 (hz.ex' e6)) ea_nil) ⟨r, rfl, hl, rfl⟩) fun v7 H7 e7 h7 => hq v7 H7 ((e5.trans e6).trans e7) h7
  · obtain rfl : s1 = .twice := by cases s1 <;> simp [stepN] at h0 h1 h2 h3 h4 h5 hn ⊢
    exact go_ret (ev_catRow (vr 1 (hz.ex' e6)) (vr 1 (hz.ex' e6)) (by omega)) fun v7 H7 e7 h7 => hq v7 H7 ((e5.trans e6).trans e7) h7
/-! ### done -/
def a_done : List T → T → Prop := fun Ps R => ∃ (s : VametBase.Step) (r : List Int), Ps = [Is (.int (stepN s)), Is (.int (stepO s)), Is (dRow r)] ∧ okStep s ∧ r.length ≤ 1000 ∧ R = Is (dRow (VametBase.done s r))
theorem sc_done : FnScope ["step", "own", "row"] ["step", "own", "row"] (defScope s_done) := ⟨rfl, rfl, rfl, by decide +kernel, rfl, by decide +kernel, by decide +kernel⟩
theorem d_done (t : Txt K mg CR CD) : Def P w K mg base 3 "done" ["step", "own", "row"] (Prom a_done) := by
  refine def_of t.f_done sc_done (fun _ _ ⟨_, _, h, _⟩ => h ▸ rfl) (fun _ _ _ _ _ _ us hl => match us, hl with | [_, _, _], _ => rfl) ?_
  intro f cdv A0 outer s H E vs Ps R Q hr hA ap hq
  obtain ⟨s1, r, rfl, hok, hl, rfl⟩ := hA
  obtain ⟨v, u, z, rfl, hv, hu, hz⟩ := allP3 ap
  refine go_ifr (et_le (vr 0 hv) (ev_glob t.c_ABS)) (fun h0 H1 e1 => ?_) (fun h0 H1 e1 => ?_)
  · exact go_ret (ev_call (d_each t) (hr.mono (by omega)) (ea_cons (vr 0 (hv.ex' e1)) (ea_cons (vr 1 (hu.ex' e1)) (ea_cons (vr 2 (hz.ex' e1)) ea_nil))) ⟨s1, r, rfl, of_decide_eq_true h0, hok, hl, rfl⟩) fun v7 H7 e7 h7 => hq v7 H7 (e1.trans e7) h7
  have h0 := of_decide_eq_false h0
  refine go_ifr (et_le (vr 0 (hv.ex' e1)) (ev_glob t.c_ONCE)) (fun h1 H2 e2 => ?_) (fun h1 H2 e2 => ?_)
  · exact go_ret (ev_call (d_placed t) (hr.mono (by omega)) (ea_cons (vr 0 ((hv.ex' e1).ex' e2)) (ea_cons (vr 1 ((hu.ex' e1).ex' e2)) (ea_cons (vr 2 ((hz.ex' e1).ex' e2)) ea_nil))) ⟨s1, r, rfl, by omega, of_decide_eq_true h1, hl, rfl⟩) fun v7 H7 e7 h7 => hq v7 H7 ((e1.trans e2).trans e7) h7
  have h1 := of_decide_eq_false h1
  exact go_ret (ev_call (d_told t) (hr.mono (by omega)) (ea_cons (vr 0 ((hv.ex' e1).ex' e2)) (ea_cons (vr 2 ((hz.ex' e1).ex' e2)) ea_nil)) ⟨s1, r, rfl, by omega, hl, rfl⟩) fun v7 H7 e7 h7 => hq v7 H7 ((e1.trans e2).trans e7) h7
/-! ### run -/
theorem done_len (s : VametBase.Step) (r : List Int) : (VametBase.done s r).length ≤ 2 * r.length + 1 := by
  cases s with
  | add c => show (r.map _).length ≤ _; rw [List.length_map]; omega
  | times c => show (r.map _).length ≤ _; rw [List.length_map]; omega
  | rest m => show (r.map _).length ≤ _; rw [List.length_map]; omega
  | abs => show (r.map _).length ≤ _; rw [List.length_map]; omega
  | sort => show (VametBase.sorted r).length ≤ _; rw [(sorted_perm r).length_eq]; omega
  | reverse => show r.reverse.length ≤ _; rw [List.length_reverse]; omega
  | rotate k => show (r.drop _ ++ r.take _).length ≤ _; rw [List.length_append, List.length_drop, List.length_take]; omega
  | take k => show (r.take k).length ≤ _; rw [List.length_take]; omega
  | drop k => show (r.drop k).length ≤ _; rw [List.length_drop]; omega
  | above c => show (r.filter _).length ≤ _; have := List.length_filter_le (fun x => decide (c < x)) r; omega
  | once => show (r.foldl onceStep []).length ≤ _; have := once_len r []; rw [List.length_nil] at this; omega
  | sum => show 1 ≤ _; omega
  | greatest => show (VametBase.greatestOf r).toList.length ≤ _; rw [← greatest_eq, List.length_drop, (sorted_perm r).length_eq]; omega
  | least => show (VametBase.leastOf r).toList.length ≤ _; rw [← least_eq, List.length_take, (sorted_perm r).length_eq]; omega
  | count => show 1 ≤ _; omega
  | steps => show ((r.zip (r.drop 1)).map _).length ≤ _; rw [List.length_map, List.length_zip, List.length_drop]; omega
  | sums => show (VametBase.runningFrom 0 r).length ≤ _; rw [running_len]; omega
  | twice => show (r ++ r).length ≤ _; rw [List.length_append]; omega
def dOpt : Option (List Int) → PyData
  | none => .none
  | some r => dRow r
theorem imm_opt (o : Option (List Int)) : imm (dOpt o) = true := by
  cases o with
  | none => rfl
  | some r => exact imm_row r
def dProg (p : VametBase.Program) : PyData := .list (p.map dStep)
def okProg (p : VametBase.Program) : Prop := ∀ s ∈ p, okStep s
theorem within_len {r : List Int} (h : VametBase.within r = true) : r.length ≤ 40 := of_decide_eq_true (Bool.and_eq_true_iff.mp h).1
def a_run : List T → T → Prop := fun Ps R => ∃ (p : VametBase.Program) (r : List Int), Ps = [Is (dProg p), Is (dRow r)] ∧ okProg p ∧ r.length ≤ 40 ∧ R = Is (dOpt (VametBase.run p r))
theorem sc_run : FnScope ["program", "row", "found", "step", "own"] ["program", "row"] (defScope s_run) := ⟨rfl, rfl, rfl, by decide +kernel, rfl, by decide +kernel, by decide +kernel⟩
theorem d_run (t : Txt K mg CR CD) : Def P w K mg base 4 "run" ["program", "row"] (Prom a_run) := by
  refine def_of t.f_run sc_run (fun _ _ ⟨_, _, h, _⟩ => h ▸ rfl) (fun _ _ _ _ _ _ us hl => match us, hl with | [_, _], _ => rfl) ?_
  intro f cdv A0 outer s H E vs Ps R Q hr hA ap hq
  obtain ⟨p, r, rfl, hok, hl, rfl⟩ := hA
  obtain ⟨v, u, rfl, hv, hu⟩ := allP2 ap
  obtain ⟨S, ss, rfl, hS, rS⟩ := is_list hv
  refine go_set (n := 2) (vr 1 hu) (fun fv H1 e1 hf => ?_) sc_run.nd
  refine go_forX (l := p) (enc := dStep) (f := 0) (A := S) (xs := ss) (gt := gTup K 2 (gCons (gName 3) (gCons (gName 4) gNil))) (fun j σ' H' => ∃ fv o3 o4 r', σ' = [some (.ref S), some u, some fv, o3, o4] ∧ Ex H H' ∧ IsD 0 H' (dRow r') fv ∧ r'.length ≤ 40 ∧ VametBase.run (p.drop j) r' = VametBase.run p r) PassesOwn.never rfl (vrR 0 S) (e1 _ _ hS) (IsAll.ex e1 _ _ rS) (pg2 rfl sc_run.nd) ?_ ?_ ?_ ?_
  · intro H2 e2
    exact ⟨fv, none, none, r, rfl, e1.trans e2, hf.ex' e2, hl, rfl⟩
  · rintro j σ' H' _ ⟨fv, o3, o4, r', rfl, x, hf, hl', hrun⟩
    exact x _ _ hS
  · rintro j s1 vs1 σ' H2 hj hvj pv ⟨fv, o3, o4, r', rfl, x, hf, hl', hrun⟩
    have pv2 : IsD 0 H2 (dStep s1) vs1 := by
      obtain ⟨v0, hv0, pv0⟩ := rS.get (i := j) (d := dStep s1) (by rw [List.getElem?_map, hj]; rfl)
      rw [hvj] at hv0
      cases hv0
      exact pv0.ex' x
    obtain ⟨a, xs, rfl, ha, rx⟩ := is_tuple pv2
    cases rx with
    | cons r1 r2 =>
    cases r2 with
    | cons r2 r3 =>
    cases r3
    refine ⟨a, _, rfl, ha.sq, rfl, _, _, rfl, _, _, rfl, rfl, ?_⟩
    have hdrop : p.drop j = s1 :: p.drop (j + 1) := by
      have hlt := (List.getElem?_eq_some_iff.mp hj)
      obtain ⟨h1, h2⟩ := hlt
      rw [List.drop_eq_getElem_cons h1, h2]
    rw [hdrop] at hrun
    have hrun2 : (if VametBase.within (VametBase.done s1 r') then VametBase.run (p.drop (j + 1)) (VametBase.done s1 r') else none) = VametBase.run p r := hrun
    have hdl := done_len s1 r'
    refine go_set (n := 2) (ev_call (d_done t) (hr.mono (by omega)) (ea_cons (vr 3 r1) (ea_cons (vr 4 r2) (ea_cons (vr 2 hf) ea_nil))) ⟨s1, r', rfl, hok _ (List.mem_of_getElem? hj), by omega, rfl⟩) (fun nv H3 e3 hn => ?_) sc_run.nd
    refine go_if (et_val (ev_call (d_is_beyond t) (hr.mono (by omega)) (ea_cons (vr 2 hn) ea_nil) ⟨_, rfl, by omega, rfl⟩)) (fun hb H4 e4 => ?_) (fun hb H4 e4 => ?_)
    · have hb : VametBase.within (VametBase.done s1 r') = false := by simpa using hb
      rw [hb, if_neg Bool.false_ne_true] at hrun2
      refine go_ret ev_non fun v7 H7 e7 h7 => hq v7 H7 ((x.trans e3).trans (e4.trans e7)) ?_
      rw [← hrun2]
      exact h7
    · have hb : VametBase.within (VametBase.done s1 r') = true := by simpa using hb
      rw [hb, if_pos rfl] at hrun2
      exact go_nil (go_nil ⟨nv, _, _, _, rfl, (x.trans e3).trans e4, hn.ex' e4, within_len hb, hrun2⟩)
  · rintro σ' H2 ⟨fv, o3, o4, r', rfl, x, hf, hl', hrun⟩
    rw [List.drop_length] at hrun
    refine go_ret (vr 2 hf) fun v7 H7 e7 h7 => hq v7 H7 (x.trans e7) ?_
    rw [← hrun]
    exact h7
end
end TG
set_option Elab.async false
set_option linter.all false
set_option maxRecDepth 100000
set_option maxHeartbeats 2000000
namespace TG
open PySem PySem.Spec PyProof.Rows L2
open Evl (Ex ex_l ex_t fresh_back)
section
variable {P : Program} {w : World} {K : PySem.W.Frag} {mg : Str → Option Value} {base : Heap} {CR CD : Addr}
open VametBase (readStep readNat readInt readProgram readTimes readCond readRel readRelation readRow readListed readPair)
/-! ### number_at, is_within, has_own, is_own -/
def dOptI : Option Int → PyData
  | none => .none
  | some i => .int i
def inB (o : Option Int) (lo hi : Int) : Bool := match o with
  | none => false
  | some i => decide (lo ≤ i) && decide (i ≤ hi)
theorem at_of {l : List Int} {k : Nat} {z : Int} (h : l[k]? = some z) : (l.map PyData.int)[k]? = some (.int z) := by rw [List.getElem?_map, h]; rfl
def a_number_at : List T → T → Prop := fun Ps R => ∃ (f : Nat) (l : List Int) (k : Nat), Ps = [Isf f (dInts l), Is (dN k)] ∧ R = Is (dOptI (l[k]?))
theorem sc_number_at : FnScope ["numbers", "at"] ["numbers", "at"] (defScope s_number_at) := ⟨rfl, rfl, rfl, by decide +kernel, rfl, by decide +kernel, by decide +kernel⟩
theorem d_number_at (t : Txt K mg CR CD) : Def P w K mg base 1 "number_at" ["numbers", "at"] (Prom a_number_at) := by
  refine def_of t.f_number_at sc_number_at (fun _ _ ⟨_, _, _, h, _⟩ => h ▸ rfl) (fun _ _ _ _ _ _ us hl => match us, hl with | [_, _], _ => rfl) ?_
  intro f cdv A0 outer s H E vs Ps R Q hr hA ap hq
  obtain ⟨ff, l, k, rfl, rfl⟩ := hA
  obtain ⟨v, u, rfl, hv, hu⟩ := allP2 ap
  refine go_ifr (et_lt (vr 1 hu) (ev_lenL (f := ff) rfl t.b_len (vr 0 hv))) (fun h0 H1 e1 => ?_) (fun h0 H1 e1 => ?_)
  · have h0 := of_decide_eq_true h0
    rw [List.length_map] at h0
    have hk : k < l.length := by omega
    have hg := List.getElem?_eq_getElem hk
    rw [hg] at hq
    exact go_ret (ev_i (ev_ixL (f := ff) (vr 0 (hv.ex' e1)) (vr 1 (hu.ex' e1)) (atI_nat (at_of hg)))) fun v7 H7 e7 h7 => hq v7 H7 (e1.trans e7) h7
  · have h0 := of_decide_eq_false h0
    rw [List.length_map] at h0
    have hk : l.length ≤ k := by omega
    rw [List.getElem?_eq_none hk] at hq
    exact go_ret ev_non fun v7 H7 e7 h7 => hq v7 H7 (e1.trans e7) h7
def a_is_within : List T → T → Prop := fun Ps R => ∃ (o : Option Int) (lo hi : Int), Ps = [Is (dOptI o), Is (.int lo), Is (.int hi)] ∧ R = Is (.bool (inB o lo hi))
theorem sc_is_within : FnScope ["number", "low", "high"] ["number", "low", "high"] (defScope s_is_within) := ⟨rfl, rfl, rfl, by decide +kernel, rfl, by decide +kernel, by decide +kernel⟩
theorem d_is_within (t : Txt K mg CR CD) : Def P w K mg base 1 "is_within" ["number", "low", "high"] (Prom a_is_within) := by
  refine def_of t.f_is_within sc_is_within (fun _ _ ⟨_, _, _, h, _⟩ => h ▸ rfl) (fun _ _ _ _ _ _ us hl => match us, hl with | [_, _, _], _ => rfl) ?_
  intro f cdv A0 outer s H E vs Ps R Q hr hA ap hq
  obtain ⟨o, lo, hi, rfl, rfl⟩ := hA
  obtain ⟨v, u, z, rfl, hv, hu, hz⟩ := allP3 ap
  cases o with
  | none => exact go_ret (ev_and2 (k := false) (l := false) (ev_notN (vr 0 hv)) (fun h => absurd h Bool.false_ne_true)) fun v7 H7 e7 h7 => hq v7 H7 e7 h7
  | some i => exact go_ret (ev_and2 (k := true) (ev_notN (vr 0 hv)) (fun h => ev_chain_lele (vr 1 hu) (vr 0 hv) (fun _ => vr 2 hz))) fun v7 H7 e7 h7 => hq v7 H7 e7 h7
def hasOwn (k : Int) : Bool := [0, 1, 2, 6, 7, 8, 9].contains k
def a_has_own : List T → T → Prop := fun Ps R => ∃ k : Int, Ps = [Is (.int k)] ∧ R = Is (.bool (hasOwn k))
theorem sc_has_own : FnScope ["step"] ["step"] (defScope s_has_own) := ⟨rfl, rfl, rfl, by decide +kernel, rfl, by decide +kernel, by decide +kernel⟩
theorem d_has_own (t : Txt K mg CR CD) : Def P w K mg base 1 "has_own" ["step"] (Prom a_has_own) := by
  refine def_of t.f_has_own sc_has_own (fun _ _ ⟨_, h, _⟩ => h ▸ rfl) (fun _ _ _ _ _ _ us hl => match us, hl with | [_], _ => rfl) ?_
  intro f cdv A0 outer s H E vs Ps R Q hr hA ap hq
  obtain ⟨k, rfl, rfl⟩ := hA
  obtain ⟨v, rfl, hv⟩ := allP1 ap
  exact go_ret (ev_inI (l := [0, 1, 2, 6, 7, 8, 9]) (g := 0) (vr 0 hv) (ev_tup (f := 0) (ds := [.int 0, .int 1, .int 2, .int 6, .int 7, .int 8, .int 9]) (ea_cons (ev_glob t.c_ADD) (ea_cons (ev_glob t.c_TIMES) (ea_cons (ev_glob t.c_REST) (ea_cons (ev_glob t.c_ROTATE) (ea_cons (ev_glob t.c_TAKE) (ea_cons (ev_glob t.c_DROP) (ea_cons (ev_glob t.c_ABOVE) ea_nil))))))) (by show 7 ≤ 1000; omega))) fun v7 H7 e7 h7 => hq v7 H7 e7 h7
def isOwn (k : Int) (o : Option Int) : Bool := if k = 2 then inB o 1 9 else if [6, 7, 8].contains k then inB o 0 9 else inB o (0 - 99) 99
def a_is_own : List T → T → Prop := fun Ps R => ∃ (k : Int) (o : Option Int), Ps = [Is (.int k), Is (dOptI o)] ∧ R = Is (.bool (isOwn k o))
theorem sc_is_own : FnScope ["step", "number"] ["step", "number"] (defScope s_is_own) := ⟨rfl, rfl, rfl, by decide +kernel, rfl, by decide +kernel, by decide +kernel⟩
theorem d_is_own (t : Txt K mg CR CD) : Def P w K mg base 2 "is_own" ["step", "number"] (Prom a_is_own) := by
  refine def_of t.f_is_own sc_is_own (fun _ _ ⟨_, _, h, _⟩ => h ▸ rfl) (fun _ _ _ _ _ _ us hl => match us, hl with | [_, _], _ => rfl) ?_
  intro f cdv A0 outer s H E vs Ps R Q hr hA ap hq
  obtain ⟨k, o, rfl, rfl⟩ := hA
  obtain ⟨v, u, rfl, hv, hu⟩ := allP2 ap
  unfold isOwn at hq
  refine go_ifr (et_eq (vr 0 hv) (ev_glob t.c_REST)) (fun h0 H1 e1 => ?_) (fun h0 H1 e1 => ?_)
  · rw [if_pos (of_decide_eq_true h0)] at hq
    exact go_ret (ev_call (d_is_within t) hr (ea_cons (vr 1 (hu.ex' e1)) (ea_cons ev_int (ea_cons (ev_glob t.c_MOST_REST) ea_nil))) ⟨o, 1, 9, rfl, rfl⟩) fun v7 H7 e7 h7 => hq v7 H7 (e1.trans e7) h7
  rw [if_neg (of_decide_eq_false h0)] at hq
  refine go_ifr (et_inI (l := [6, 7, 8]) (g := 0) (vr 0 (hv.ex' e1)) (ev_tup (f := 0) (ds := [.int 6, .int 7, .int 8]) (ea_cons (ev_glob t.c_ROTATE) (ea_cons (ev_glob t.c_TAKE) (ea_cons (ev_glob t.c_DROP) ea_nil))) (by show 3 ≤ 1000; omega))) (fun h1 H2 e2 => ?_) (fun h1 H2 e2 => ?_)
  · rw [if_pos h1] at hq
    exact go_ret (ev_call (d_is_within t) hr (ea_cons (vr 1 ((hu.ex' e1).ex' e2)) (ea_cons ev_int (ea_cons (ev_glob t.c_MOST_MANY) ea_nil))) ⟨o, 0, 9, rfl, rfl⟩) fun v7 H7 e7 h7 => hq v7 H7 ((e1.trans e2).trans e7) h7
  · rw [if_neg (by rw [h1]; exact Bool.false_ne_true)] at hq
    exact go_ret (ev_call (d_is_within t) hr (ea_cons (vr 1 ((hu.ex' e1).ex' e2)) (ea_cons (ev_sub ev_int (ev_glob t.c_MOST_OWN)) (ea_cons (ev_glob t.c_MOST_OWN) ea_nil))) ⟨o, 0 - 99, 99, rfl, rfl⟩) fun v7 H7 e7 h7 => hq v7 H7 ((e1.trans e2).trans e7) h7
/-! ### step_at -/
theorem drop_some {l : List Int} {k : Nat} {z : Int} (h : l[k]? = some z) : l.drop k = z :: l.drop (k + 1) := by
  obtain ⟨h1, h2⟩ := List.getElem?_eq_some_iff.mp h
  rw [List.drop_eq_getElem_cons h1, h2]
theorem drop_none {l : List Int} {k : Nat} (h : l[k]? = none) : l.drop k = [] := List.drop_eq_nil_of_le (List.getElem?_eq_none_iff.mp h)
theorem step_bad {z : Int} {r : List Int} (h : inB (some z) 0 17 = false) : readStep (z :: r) = none := by
  have h : ¬ (0 ≤ z ∧ z ≤ 17) := fun ⟨a, b⟩ => by
    have : inB (some z) 0 17 = true := by show (decide _ && decide _) = true; rw [decide_eq_true a, decide_eq_true b]; rfl
    rw [this] at h; cases h
  unfold VametBase.readStep
  split <;> first | rfl | (rename_i e; injection e with e1 _; omega) | (rename_i e _; injection e with e1 _; omega)
theorem cases18 {z : Int} (h : inB (some z) 0 17 = true) : z = 0 ∨ z = 1 ∨ z = 2 ∨ z = 3 ∨ z = 4 ∨ z = 5 ∨ z = 6 ∨ z = 7 ∨ z = 8 ∨ z = 9 ∨ z = 10 ∨ z = 11 ∨ z = 12 ∨ z = 13 ∨ z = 14 ∨ z = 15 ∨ z = 16 ∨ z = 17 := by
  have h : (decide (0 ≤ z) && decide (z ≤ 17)) = true := h
  rw [Bool.and_eq_true_iff] at h
  have h1 := of_decide_eq_true h.1
  have h2 := of_decide_eq_true h.2
  omega
theorem step_plain {z : Int} (h : inB (some z) 0 17 = true) (ho : hasOwn z = false) : ∃ s, (∀ r, readStep (z :: r) = some (s, r)) ∧ stepN s = z ∧ stepO s = 0 ∧ okStep s := by
  rcases cases18 h with rfl | rfl | rfl | rfl | rfl | rfl | rfl | rfl | rfl | rfl | rfl | rfl | rfl | rfl | rfl | rfl | rfl | rfl <;>
    first
    | exact absurd ho (by decide)
    | exact ⟨.abs, fun r => rfl, rfl, rfl, trivial⟩
    | exact ⟨.sort, fun r => rfl, rfl, rfl, trivial⟩
    | exact ⟨.reverse, fun r => rfl, rfl, rfl, trivial⟩
    | exact ⟨.once, fun r => rfl, rfl, rfl, trivial⟩
    | exact ⟨.sum, fun r => rfl, rfl, rfl, trivial⟩
    | exact ⟨.greatest, fun r => rfl, rfl, rfl, trivial⟩
    | exact ⟨.least, fun r => rfl, rfl, rfl, trivial⟩
    | exact ⟨.count, fun r => rfl, rfl, rfl, trivial⟩
    | exact ⟨.steps, fun r => rfl, rfl, rfl, trivial⟩
    | exact ⟨.sums, fun r => rfl, rfl, rfl, trivial⟩
    | exact ⟨.twice, fun r => rfl, rfl, rfl, trivial⟩
theorem step_own {z : Int} (h : inB (some z) 0 17 = true) (ho : hasOwn z = true) : (∀ o, isOwn z (some o) = true → ∃ s, stepN s = z ∧ stepO s = o ∧ okStep s ∧ ∀ r, readStep (z :: o :: r) = some (s, r)) ∧ (∀ o, isOwn z (some o) = false → ∀ r, readStep (z :: o :: r) = none) ∧ readStep [z] = none := by
  have B : ∀ {lo hi o : Int}, inB (some o) lo hi = true → lo ≤ o ∧ o ≤ hi := fun {lo hi o} h => by
    have h : (decide (lo ≤ o) && decide (o ≤ hi)) = true := h
    rw [Bool.and_eq_true_iff] at h
    exact ⟨of_decide_eq_true h.1, of_decide_eq_true h.2⟩
  have N : ∀ {lo hi o : Int}, inB (some o) lo hi = false → ¬ (lo ≤ o ∧ o ≤ hi) := fun {lo hi o} h ⟨a, b⟩ => by
    have : inB (some o) lo hi = true := by show (decide _ && decide _) = true; rw [decide_eq_true a, decide_eq_true b]; rfl
    rw [this] at h; cases h
  have I1 : ∀ (o : Int) (r : List Int), (0 - 99 ≤ o ∧ o ≤ 99) → readInt VametBase.TOLD (o :: r) = some (o, r) := fun o r h => if_pos h
  have I2 : ∀ (o : Int) (r : List Int), ¬ (0 - 99 ≤ o ∧ o ≤ 99) → readInt VametBase.TOLD (o :: r) = none := fun o r h => if_neg h
  have I3 : ∀ (lo : Nat) (o : Int) (r : List Int), ((lo : Int) ≤ o ∧ o ≤ 9) → readNat lo VametBase.SMALL (o :: r) = some (o.toNat, r) := fun lo o r h => if_pos h
  have I4 : ∀ (lo : Nat) (o : Int) (r : List Int), ¬ ((lo : Int) ≤ o ∧ o ≤ 9) → readNat lo VametBase.SMALL (o :: r) = none := fun lo o r h => if_neg h
  rcases cases18 h with rfl | rfl | rfl | rfl | rfl | rfl | rfl | rfl | rfl | rfl | rfl | rfl | rfl | rfl | rfl | rfl | rfl | rfl
  · refine ⟨fun o h => ⟨.add o, rfl, rfl, trivial, fun r => ?_⟩, fun o h r => ?_, rfl⟩
    · show (readInt VametBase.TOLD (o :: r)).map _ = _
      rw [I1 _ _ (B h)]; rfl
    · show (readInt VametBase.TOLD (o :: r)).map _ = _
      rw [I2 _ _ (N h)]; rfl
  · refine ⟨fun o h => ⟨.times o, rfl, rfl, ?_, fun r => ?_⟩, fun o h r => ?_, rfl⟩
    · have := B (lo := 0 - 99) (hi := 99) h
      exact ⟨by omega, this.2⟩
    · show (readInt VametBase.TOLD (o :: r)).map _ = _
      rw [I1 _ _ (B h)]; rfl
    · show (readInt VametBase.TOLD (o :: r)).map _ = _
      rw [I2 _ _ (N h)]; rfl
  · refine ⟨fun o h => ⟨.rest o.toNat, rfl, ?_, ?_, fun r => ?_⟩, fun o h r => ?_, rfl⟩
    · have := B (lo := 1) (hi := 9) h; show ((o.toNat : Nat) : Int) = o; omega
    · have := B (lo := 1) (hi := 9) h; show 1 ≤ o.toNat; omega
    · show (readNat 1 VametBase.SMALL (o :: r)).map _ = _
      rw [I3 1 _ _ (B h)]; rfl
    · show (readNat 1 VametBase.SMALL (o :: r)).map _ = _
      rw [I4 1 _ _ (N h)]; rfl
  · exact absurd ho (by decide)
  · exact absurd ho (by decide)
  · exact absurd ho (by decide)
  · refine ⟨fun o h => ⟨.rotate o.toNat, rfl, ?_, trivial, fun r => ?_⟩, fun o h r => ?_, rfl⟩
    · have := B (lo := 0) (hi := 9) h; show ((o.toNat : Nat) : Int) = o; omega
    · show (readNat 0 VametBase.SMALL (o :: r)).map _ = _
      rw [I3 0 _ _ (B h)]; rfl
    · show (readNat 0 VametBase.SMALL (o :: r)).map _ = _
      rw [I4 0 _ _ (N h)]; rfl
  · refine ⟨fun o h => ⟨.take o.toNat, rfl, ?_, trivial, fun r => ?_⟩, fun o h r => ?_, rfl⟩
    · have := B (lo := 0) (hi := 9) h; show ((o.toNat : Nat) : Int) = o; omega
    · show (readNat 0 VametBase.SMALL (o :: r)).map _ = _
      rw [I3 0 _ _ (B h)]; rfl
    · show (readNat 0 VametBase.SMALL (o :: r)).map _ = _
      rw [I4 0 _ _ (N h)]; rfl
  · refine ⟨fun o h => ⟨.drop o.toNat, rfl, ?_, trivial, fun r => ?_⟩, fun o h r => ?_, rfl⟩
    · have := B (lo := 0) (hi := 9) h; show ((o.toNat : Nat) : Int) = o; omega
    · show (readNat 0 VametBase.SMALL (o :: r)).map _ = _
      rw [I3 0 _ _ (B h)]; rfl
    · show (readNat 0 VametBase.SMALL (o :: r)).map _ = _
      rw [I4 0 _ _ (N h)]; rfl
  · refine ⟨fun o h => ⟨.above o, rfl, rfl, trivial, fun r => ?_⟩, fun o h r => ?_, rfl⟩
    · show (readInt VametBase.TOLD (o :: r)).map _ = _
      rw [I1 _ _ (B h)]; rfl
    · show (readInt VametBase.TOLD (o :: r)).map _ = _
      rw [I2 _ _ (N h)]; rfl
  all_goals exact absurd ho (by decide)
end
end TG
set_option Elab.async false
set_option linter.all false
set_option maxRecDepth 100000
set_option maxHeartbeats 2000000
namespace TG
open PySem PySem.Spec PyProof.Rows L2
open Evl (Ex ex_l ex_t fresh_back)
section
variable {P : Program} {w : World} {K : PySem.W.Frag} {mg : Str → Option Value} {base : Heap} {CR CD : Addr}
open VametBase (readStep readNat readInt readProgram readTimes readCond readRel readRelation readRow readListed readPair)
/-! ### where readers stop -/
theorem inB_iff {lo hi o : Int} : inB (some o) lo hi = true ↔ lo ≤ o ∧ o ≤ hi := by
  show (decide (lo ≤ o) && decide (o ≤ hi)) = true ↔ _
  rw [Bool.and_eq_true_iff, decide_eq_true_iff, decide_eq_true_iff]
theorem inB_not {lo hi o : Int} (h : inB (some o) lo hi = false) : ¬ (lo ≤ o ∧ o ≤ hi) := fun z => by rw [inB_iff.mpr z] at h; cases h
theorem getl {l : List Int} {k : Nat} {z : Int} (h : l[k]? = some z) : k < l.length := (List.getElem?_eq_some_iff.mp h).1
theorem step_pos {l : List Int} {k : Nat} {s : VametBase.Step} {r : List Int} (h : readStep (l.drop k) = some (s, r)) : okStep s ∧ ∃ j, k < j ∧ j ≤ l.length ∧ r = l.drop j := by
  cases hk : l[k]? with
  | none => rw [drop_none hk] at h; cases h
  | some z =>
    rw [drop_some hk] at h
    have hl := getl hk
    cases hb : inB (some z) 0 17 with
    | false => rw [step_bad hb] at h; cases h
    | true =>
      cases ho : hasOwn z with
      | false =>
        obtain ⟨s', h1, _, _, h4⟩ := step_plain hb ho
        rw [h1] at h
        injection h with h
        injection h with e1 e2
        subst e1
        exact ⟨h4, k + 1, by omega, by omega, e2.symm⟩
      | true =>
        obtain ⟨g1, g2, g3⟩ := step_own hb ho
        cases hk2 : l[k + 1]? with
        | none => rw [drop_none hk2, g3] at h; cases h
        | some o =>
          rw [drop_some hk2] at h
          have hl2 := getl hk2
          cases hi : isOwn z (some o) with
          | false => rw [g2 o hi] at h; cases h
          | true =>
            obtain ⟨s', _, _, h3, h4⟩ := g1 o hi
            rw [h4] at h
            injection h with h
            injection h with e1 e2
            subst e1
            exact ⟨h3, k + 2, by omega, by omega, e2.symm⟩
theorem times_pos {l : List Int} : ∀ (m k : Nat) {p : VametBase.Program} {r : List Int}, k ≤ l.length → readTimes readStep m (l.drop k) = some (p, r) → okProg p ∧ p.length = m ∧ ∃ j, k ≤ j ∧ j ≤ l.length ∧ r = l.drop j
  | 0, k, p, r, hk, h => by
    have h : some (([] : VametBase.Program), l.drop k) = some (p, r) := h
    injection h with h
    injection h with e1 e2
    subst e1
    exact ⟨fun s hs => absurd hs List.not_mem_nil, rfl, k, Nat.le_refl _, hk, e2.symm⟩
  | m + 1, k, p, r, hk, h => by
    have h : ((readStep (l.drop k)).bind fun u => (readTimes readStep m u.2).map fun v => (u.1 :: v.1, v.2)) = some (p, r) := h
    obtain ⟨⟨s, r1⟩, h1, h2⟩ := Option.bind_eq_some_iff.mp h
    obtain ⟨ok, j, hj1, hj2, rfl⟩ := step_pos h1
    obtain ⟨⟨p2, r2⟩, h3, h4⟩ := Option.map_eq_some_iff.mp h2
    injection h4 with e1 e2
    simp only at e1 e2 h3
    subst e2
    obtain ⟨ok2, hl, j2, a1, a2, a3⟩ := times_pos m j hj2 h3
    rw [← e1]
    refine ⟨fun s' hs' => ?_, by rw [List.length_cons, hl], j2, by omega, a2, a3⟩
    rcases List.mem_cons.mp hs' with rfl | hs'
    · exact ok
    · exact ok2 _ hs'
theorem prog_read {l : List Int} {k : Nat} {z : Int} (hk : l[k]? = some z) : readProgram (l.drop k) = if inB (some z) 0 8 then readTimes readStep z.toNat (l.drop (k + 1)) else none := by
  rw [drop_some hk]
  show ((if VametBase.int 0 ≤ z ∧ z ≤ VametBase.int VametBase.STEPS then some (z.toNat, l.drop (k + 1)) else none).bind fun n => readTimes readStep n.1 n.2) = _
  by_cases h : (0 : Int) ≤ z ∧ z ≤ 8
  · rw [inB_iff.mpr h, if_pos rfl]
    have : VametBase.int 0 ≤ z ∧ z ≤ VametBase.int VametBase.STEPS := h
    rw [if_pos this]
    rfl
  · have h2 : inB (some z) 0 8 = false := by
      cases hh : inB (some z) 0 8 with
      | false => rfl
      | true => exact absurd (inB_iff.mp hh) h
    rw [h2, if_neg Bool.false_ne_true]
    have : ¬ (VametBase.int 0 ≤ z ∧ z ≤ VametBase.int VametBase.STEPS) := h
    rw [if_neg this]
    rfl
theorem prog_none {l : List Int} {k : Nat} (hk : l[k]? = none) : readProgram (l.drop k) = none := by
  rw [drop_none hk]
  rfl
theorem prog_pos {l : List Int} {k : Nat} {p : VametBase.Program} {r : List Int} (h : readProgram (l.drop k) = some (p, r)) : okProg p ∧ p.length ≤ 8 ∧ ∃ j, k < j ∧ j ≤ l.length ∧ r = l.drop j := by
  cases hk : l[k]? with
  | none => rw [prog_none hk] at h; cases h
  | some z =>
    rw [prog_read hk] at h
    have hl := getl hk
    cases hb : inB (some z) 0 8 with
    | false => rw [hb] at h; cases h
    | true =>
      rw [hb, if_pos rfl] at h
      obtain ⟨h1, h2, j, h3, h4, h5⟩ := times_pos z.toNat (k + 1) (by omega) h
      have := inB_iff.mp hb
      exact ⟨h1, by omega, j, by omega, h4, h5⟩
theorem drop_place {l : List Int} {j : Nat} (h : j ≤ l.length) : l.length - (l.drop j).length = j := by rw [List.length_drop]; omega
/-! ### step_at -/
def dStepAt (l : List Int) (k : Nat) : PyData := match readStep (l.drop k) with
  | none => .none
  | some (s, r) => .tuple [dStep s, dN (l.length - r.length)]
theorem ev_dN1 {X : Cx} {σ : L2.St} {H : Hp} {e : Expr} {pos p2 : Pos} {n k : Nat} {c : Int} (hc : c = (k : Int)) (h : EvE X e σ H (Is (dN n))) {k2 : Nat} : EvE X (.BinOp e .Add (.Constant (.int c) k2 p2) pos) σ H (Is (dN (n + k))) := by
  subst hc
  exact ev_add h ev_int
def a_step_at : List T → T → Prop := fun Ps R => ∃ (l : List Int) (k : Nat), Ps = [Is (dInts l), Is (dN k)] ∧ R = Is (dStepAt l k)
theorem sc_step_at : FnScope ["numbers", "at", "step", "own"] ["numbers", "at"] (defScope s_step_at) := ⟨rfl, rfl, rfl, by decide +kernel, rfl, by decide +kernel, by decide +kernel⟩
theorem d_step_at (t : Txt K mg CR CD) : Def P w K mg base 3 "step_at" ["numbers", "at"] (Prom a_step_at) := by
  refine def_of t.f_step_at sc_step_at (fun _ _ ⟨_, _, h, _⟩ => h ▸ rfl) (fun _ _ _ _ _ _ us hl => match us, hl with | [_, _], _ => rfl) ?_
  intro f cdv A0 outer s H E vs Ps R Q hr hA ap hq
  obtain ⟨l, k, rfl, rfl⟩ := hA
  obtain ⟨v, u, rfl, hv, hu⟩ := allP2 ap
  unfold dStepAt at hq
  refine go_set (n := 2) (ev_call (d_number_at t) (hr.mono (by omega)) (ea_cons (vr 0 hv) (ea_cons (vr 1 hu) ea_nil)) ⟨0, l, k, rfl, rfl⟩) (fun sv H1 e1 hs => ?_) sc_step_at.nd
  have hv := hv.ex' e1
  have hu := hu.ex' e1
  refine go_ifr (et_not (et_val (ev_call (d_is_within t) (hr.mono (by omega)) (ea_cons (vr 2 hs) (ea_cons ev_int (ea_cons (ev_glob t.c_TWICE) ea_nil))) ⟨l[k]?, 0, 17, rfl, rfl⟩))) (fun h0 H2 e2 => ?_) (fun h0 H2 e2 => ?_)
  · have h0 : inB (l[k]?) 0 17 = false := by simpa using h0
    have : readStep (l.drop k) = none := by
      cases hk : l[k]? with
      | none => rw [drop_none hk]; rfl
      | some z => rw [hk] at h0; rw [drop_some hk]; exact step_bad h0
    rw [this] at hq
    exact go_ret ev_non fun v7 H7 e7 h7 => hq v7 H7 ((e1.trans e2).trans e7) h7
  have h0 : inB (l[k]?) 0 17 = true := by simpa using h0
  have hv := hv.ex' e2
  have hu := hu.ex' e2
  replace hs := hs.ex' e2
  replace e2 := e1.trans e2
  cases hk : l[k]? with
  | none => rw [hk] at h0; exact absurd h0 Bool.false_ne_true
  | some z =>
  rw [hk] at hs h0
  have hlk := getl hk
  rw [drop_some hk] at hq
  refine go_ifr (et_not (et_val (ev_call (d_has_own t) (hr.mono (by omega)) (ea_cons (vr 2 hs) ea_nil) ⟨z, rfl, rfl⟩))) (fun h1 H3 e3 => ?_) (fun h1 H3 e3 => ?_)
  · have h1 : hasOwn z = false := by simpa using h1
    obtain ⟨s', g1, g2, g3, _⟩ := step_plain h0 h1
    rw [g1] at hq
    refine go_ret (ev_tup (f := 0) (ds := [.tuple [.int z, .int 0], dN (k + 1)]) (ea_cons (ev_tup (f := 0) (ds := [.int z, .int 0]) (ea_cons (vr 2 (hs.ex' e3)) (ea_cons ev_int ea_nil)) (by show 2 ≤ 1000; omega)) (ea_cons (ev_dN1 (k := 1) rfl (vr 1 (hu.ex' e3))) ea_nil)) (by show 2 ≤ 1000; omega)) fun v7 H7 e7 h7 => hq v7 H7 ((e2.trans e3).trans e7) ?_
    show IsD 0 H7 (.tuple [.tuple [.int (stepN s'), .int (stepO s')], dN (l.length - (l.drop (k + 1)).length)]) v7
    rw [g2, g3, drop_place (by omega)]
    exact h7
  have h1 : hasOwn z = true := by simpa using h1
  obtain ⟨g1, g2, g3⟩ := step_own h0 h1
  refine go_set (n := 3) (ev_call (d_number_at t) (hr.mono (by omega)) (ea_cons (vr 0 (hv.ex' e3)) (ea_cons (ev_dN1 (k := 1) rfl (vr 1 (hu.ex' e3))) ea_nil)) ⟨0, l, k + 1, rfl, rfl⟩) (fun ov H4 e4 ho => ?_) sc_step_at.nd
  refine go_ifr (et_not (et_val (ev_call (d_is_own t) (hr.mono (by omega)) (ea_cons (vr 2 ((hs.ex' e3).ex' e4)) (ea_cons (vr 3 ho) ea_nil)) ⟨z, l[k + 1]?, rfl, rfl⟩))) (fun h2 H5 e5 => ?_) (fun h2 H5 e5 => ?_)
  · have h2 : isOwn z (l[k + 1]?) = false := by simpa using h2
    have : readStep (z :: l.drop (k + 1)) = none := by
      cases hk2 : l[k + 1]? with
      | none => rw [drop_none hk2]; exact g3
      | some o => rw [hk2] at h2; rw [drop_some hk2]; exact g2 o h2 _
    rw [this] at hq
    exact go_ret ev_non fun v7 H7 e7 h7 => hq v7 H7 ((e2.trans e3).trans (e4.trans (e5.trans e7))) h7
  have h2 : isOwn z (l[k + 1]?) = true := by simpa using h2
  cases hk2 : l[k + 1]? with
  | none =>
    rw [hk2] at h2
    have : isOwn z none = false := by unfold isOwn; split <;> (try split) <;> rfl
    rw [this] at h2; cases h2
  | some o =>
  rw [hk2] at h2 ho
  have hlk2 := getl hk2
  obtain ⟨s', a1, a2, _, a4⟩ := g1 o h2
  rw [drop_some hk2, a4] at hq
  refine go_ret (ev_tup (f := 0) (ds := [.tuple [.int z, .int o], dN (k + 2)]) (ea_cons (ev_tup (f := 0) (ds := [.int z, .int o]) (ea_cons (vr 2 (((hs.ex' e3).ex' e4).ex' e5)) (ea_cons (vr 3 (ho.ex' e5)) ea_nil)) (by show 2 ≤ 1000; omega)) (ea_cons (ev_dN1 (k := 2) rfl (vr 1 (((hu.ex' e3).ex' e4).ex' e5))) ea_nil)) (by show 2 ≤ 1000; omega)) fun v7 H7 e7 h7 => hq v7 H7 ((e2.trans e3).trans (e4.trans (e5.trans e7))) ?_
  show IsD 0 H7 (.tuple [.tuple [.int (stepN s'), .int (stepO s')], dN (l.length - (l.drop (k + 1 + 1)).length)]) v7
  rw [a1, a2, drop_place (by omega)]
  exact h7
end
end TG
set_option Elab.async false
set_option linter.all false
set_option maxRecDepth 100000
set_option maxHeartbeats 2000000
namespace TG
open PySem PySem.Spec PyProof.Rows L2
open Evl (Ex ex_l ex_t fresh_back)
section
variable {P : Program} {w : World} {K : PySem.W.Frag} {mg : Str → Option Value} {base : Heap} {CR CD : Addr}
open VametBase (readStep readNat readInt readProgram readTimes readCond readRel readRelation readRow readListed readPair)
/-! ### program_at, program_of -/
def dProgAt (l : List Int) (k : Nat) : PyData := match readProgram (l.drop k) with
  | none => .none
  | some (p, r) => .tuple [dProg p, dN (l.length - r.length)]
def a_program_at : List T → T → Prop := fun Ps R => ∃ (l : List Int) (k : Nat), Ps = [Is (dInts l), Is (dN k)] ∧ R = Is (dProgAt l k)
theorem sc_program_at : FnScope ["numbers", "at", "many", "found", "here", "turn", "step"] ["numbers", "at"] (defScope s_program_at) := ⟨rfl, rfl, rfl, by decide +kernel, rfl, by decide +kernel, by decide +kernel⟩
theorem d_program_at (t : Txt K mg CR CD) : Def P w K mg base 4 "program_at" ["numbers", "at"] (Prom a_program_at) := by
  refine def_of t.f_program_at sc_program_at (fun _ _ ⟨_, _, h, _⟩ => h ▸ rfl) (fun _ _ _ _ _ _ us hl => match us, hl with | [_, _], _ => rfl) ?_
  intro f cdv A0 outer s H E vs Ps R Q hr hA ap hq
  obtain ⟨l, k, rfl, rfl⟩ := hA
  obtain ⟨v, u, rfl, hv, hu⟩ := allP2 ap
  unfold dProgAt at hq
  refine go_set (n := 2) (ev_call (d_number_at t) (hr.mono (by omega)) (ea_cons (vr 0 hv) (ea_cons (vr 1 hu) ea_nil)) ⟨0, l, k, rfl, rfl⟩) (fun sv H1 e1 hs => ?_) sc_program_at.nd
  have hv := hv.ex' e1
  have hu := hu.ex' e1
  refine go_ifr (et_not (et_val (ev_call (d_is_within t) (hr.mono (by omega)) (ea_cons (vr 2 hs) (ea_cons ev_int (ea_cons (ev_glob t.c_MOST_STEPS) ea_nil))) ⟨l[k]?, 0, 8, rfl, rfl⟩))) (fun h0 H2 e2 => ?_) (fun h0 H2 e2 => ?_)
  · have h0 : inB (l[k]?) 0 8 = false := by simpa using h0
    have : readProgram (l.drop k) = none := by
      cases hk : l[k]? with
      | none => exact prog_none hk
      | some z => rw [hk] at h0; rw [prog_read hk, h0]; rfl
    rw [this] at hq
    exact go_ret ev_non fun v7 H7 e7 h7 => hq v7 H7 ((e1.trans e2).trans e7) h7
  have h0 : inB (l[k]?) 0 8 = true := by simpa using h0
  have hv := hv.ex' e2
  have hu := hu.ex' e2
  replace hs := hs.ex' e2
  replace e2 := e1.trans e2
  cases hk : l[k]? with
  | none => rw [hk] at h0; exact absurd h0 Bool.false_ne_true
  | some z =>
  rw [hk] at hs h0
  have hlk := getl hk
  have hz := inB_iff.mp h0
  rw [prog_read hk, h0, if_pos rfl] at hq
  obtain rfl := is_int hs
  have hzn : z = ((z.toNat : Nat) : Int) := by omega
  refine go_set (n := 3) (P := NewL 0 H2 []) ev_nil (fun fv H3 e3 hf => ?_) sc_program_at.nd
  obtain ⟨A, ys, rfl, h0A, hA, rA⟩ := hf
  refine go_set (n := 4) (ev_dN1 (k := 1) rfl (vr 1 (hu.ex' e3))) (fun jv H4 e4 hj => ?_) sc_program_at.nd
  obtain rfl := is_int hj
  refine go_forR0 (gt := gName 5) (n := z.toNat) PassesOwn.never rfl t.b_range (vr 2 (show IsD 0 H4 (dN z.toNat) (.int z) from by rw [hzn]; exact .int _)) (by omega) (pgv sc_program_at.nd) (fun H5 e5 => ⟨fun i σ' H' => ∃ (j : Nat) (ps : VametBase.Program) (o5 o6 : Option V), σ' = [some v, some u, some (.int z), some (.ref A), some (.int (j : Int)), o5, o6] ∧ Acc 0 H2 A (ps.map dStep) H' ∧ ps.length = i ∧ j ≤ l.length ∧ readTimes readStep z.toNat (l.drop (k + 1)) = (readTimes readStep (z.toNat - i) (l.drop j)).map (fun w => (ps ++ w.1, w.2)), ⟨k + 1, [], none, none, rfl, ⟨(e3.trans e4).trans e5, ys, (e4.trans e5) _ _ hA, IsAll.ex (e4.trans e5) _ _ rA⟩, rfl, by omega, ?_⟩, ?_, ?_⟩)
  · rw [Nat.sub_zero]
    cases readTimes readStep z.toNat (l.drop (k + 1)) with
    | none => rfl
    | some w => rfl
  · rintro i σ' H6 hi ⟨j, ps, o5, o6, rfl, ac, hps, hj, hread⟩
    have x6 := ac.ex
    have hsucc : z.toNat - i = (z.toNat - (i + 1)) + 1 := by omega
    have hbind : readTimes readStep (z.toNat - i) (l.drop j) = ((readStep (l.drop j)).bind fun u => (readTimes readStep (z.toNat - (i + 1)) u.2).map fun v => (u.1 :: v.1, v.2)) := by
      rw [hsucc]; rfl
    rw [hbind] at hread
    refine go_set (n := 6) (ev_call (d_step_at t) (hr.mono (by omega)) (ea_cons (vr 0 (hv.ex' x6)) (ea_cons (vr 4 (.int (j : Int) : IsD 0 _ _ _)) ea_nil)) ⟨l, j, rfl, rfl⟩) (fun tv H7 e7 ht => ?_) sc_program_at.nd
    unfold dStepAt at ht
    cases hst : readStep (l.drop j) with
    | none =>
      rw [hst] at ht hread
      have hread : readTimes readStep z.toNat (l.drop (k + 1)) = none := hread
      rw [hread] at hq
      refine go_ifr (et_as (et_isN (vr 6 ht)) (k' := true) rfl) (fun _ H8 e8 => ?_) (fun h H8 e8 => absurd h (by decide))
      exact go_ret ev_non fun v7 H9 e9 h7 => hq v7 H9 (((e2.trans x6).trans e7).trans (e8.trans e9)) h7
    | some sr =>
      obtain ⟨s1, r1⟩ := sr
      obtain ⟨ok1, j1, hj1, hj2, rfl⟩ := step_pos hst
      rw [hst] at ht hread
      replace ht : IsD 0 H7 (.tuple [dStep s1, dN (l.length - (l.drop j1).length)]) tv := ht
      rw [drop_place hj2] at ht
      refine go_ifr (et_as (et_isN (vr 6 ht)) (k' := false) rfl) (fun h H8 e8 => absurd h (by decide)) (fun _ H8 e8 => ?_)
      refine go_accApp (d := dStep s1) h0A ((ac.up e7).up e8) (vrR 3 A) (ev_ixT (f := 0) (vr 6 (ht.ex' e8)) ev_int rfl) (by rw [List.length_map]; omega) (imms_map imm_step _) (imm_step _) (fun H9 a9 tx9 => ?_)
      have ht9 : IsD 0 H9 (.tuple [dStep s1, dN j1]) tv := IsD.tx tx9 _ _ rfl (ht.ex' e8)
      refine go_set (n := 4) (ev_ixT (f := 0) (vr 6 ht9) ev_int rfl) (fun jv HA eA hj => ?_) sc_program_at.nd
      obtain rfl := is_int hj
      refine go_nil ⟨j1, ps ++ [s1], _, some tv, rfl, ?_, ?_, hj2, ?_⟩
      · rw [List.map_append]
        exact a9.up eA
      · rw [List.length_append, hps]; rfl
      · rw [hread]
        show ((readTimes readStep (z.toNat - (i + 1)) (l.drop j1)).map fun v => (s1 :: v.1, v.2)).map _ = _
        rw [Option.map_map]
        congr 1
        funext w
        show (ps ++ s1 :: w.1, w.2) = (ps ++ [s1] ++ w.1, w.2)
        rw [List.append_assoc]; rfl
  · rintro σ' H6 ⟨j, ps, o5, o6, rfl, ac, hps, hj, hread⟩
    rw [Nat.sub_self] at hread
    have hread : readTimes readStep z.toNat (l.drop (k + 1)) = some (ps ++ [], l.drop j) := hread
    rw [hread, List.append_nil] at hq
    refine go_ret (ev_tup (f := 0) (ds := [dProg ps, dN j]) (ea_cons (vrP 3 (Is (dProg ps)) ac.is) (ea_cons (vr 4 (.int (j : Int) : IsD 0 _ _ _)) ea_nil)) (by show 2 ≤ 1000; omega)) fun v7 H7 e7 h7 => hq v7 H7 ((e2.trans ac.ex).trans e7) ?_
    show IsD 0 H7 (.tuple [dProg ps, dN (l.length - (l.drop j).length)]) v7
    rw [drop_place hj]
    exact h7
/-- a whole program -/
def dWhole {A : Type} (enc : A → PyData) : Option A → PyData
  | none => .none
  | some a => enc a
theorem whole_of {A : Type} {rd : VametBase.Reader A} {l : List Int} : VametBase.whole rd l = (match rd l with | some (u, []) => some u | _ => none) := rfl
def a_program_of : List T → T → Prop := fun Ps R => ∃ (l : List Int), Ps = [Is (dInts l)] ∧ R = Is (dWhole dProg (VametBase.whole readProgram l))
theorem sc_program_of : FnScope ["numbers", "found"] ["numbers"] (defScope s_program_of) := ⟨rfl, rfl, rfl, by decide +kernel, rfl, by decide +kernel, by decide +kernel⟩
theorem d_program_of (t : Txt K mg CR CD) : Def P w K mg base 5 "program_of" ["numbers"] (Prom a_program_of) := by
  refine def_of t.f_program_of sc_program_of (fun _ _ ⟨_, h, _⟩ => h ▸ rfl) (fun _ _ _ _ _ _ us hl => match us, hl with | [_], _ => rfl) ?_
  intro f cdv A0 outer s H E vs Ps R Q hr hA ap hq
  obtain ⟨l, rfl, rfl⟩ := hA
  obtain ⟨v, rfl, hv⟩ := allP1 ap
  refine go_set (n := 1) (ev_call (d_program_at t) (hr.mono (by omega)) (ea_cons (vr 0 hv) (ea_cons (ev_int (k := 0)) ea_nil)) ⟨l, 0, rfl, rfl⟩) (fun fv H1 e1 hf => ?_) sc_program_of.nd
  have hv := hv.ex' e1
  unfold dProgAt at hf
  rw [List.drop_zero] at hf
  unfold VametBase.whole at hq
  cases hp : readProgram l with
  | none =>
    rw [hp] at hf hq
    refine go_ifr (et_or (k := true) (l := true) (et_as (et_isN (vr 1 hf)) rfl) (fun h => absurd h (by decide))).et (fun _ H2 e2 => ?_) (fun h H2 e2 => absurd h (by decide))
    exact go_ret ev_non fun v7 H7 e7 h7 => hq v7 H7 ((e1.trans e2).trans e7) h7
  | some pr =>
    obtain ⟨p, r⟩ := pr
    have hpos := prog_pos (l := l) (k := 0) (by rw [List.drop_zero]; exact hp)
    obtain ⟨_, _, j, hj1, hj2, rfl⟩ := hpos
    rw [hp] at hf hq
    replace hf : IsD 0 H1 (.tuple [dProg p, dN (l.length - (l.drop j).length)]) fv := hf
    rw [drop_place hj2] at hf
    refine go_ifr (et_or (k := false) (l := decide (j < l.length)) (et_as (et_isN (vr 1 hf)) rfl) (fun _ => et_or1 (et_as (et_lt (ev_ixT (f := 0) (d := dN j) (vr 1 hf) ev_int rfl) (ev_lenL (f := 0) rfl t.b_len (vr 0 hv))) (by rw [List.length_map]; by_cases h : j < l.length <;> simp [h])))).et (fun h H2 e2 => ?_) (fun h H2 e2 => ?_)
    · have h : j < l.length := by simpa using h
      cases hd : l.drop j with
      | nil => have := List.drop_eq_nil_iff.mp hd; omega
      | cons a r =>
        rw [hd] at hq
        exact go_ret ev_non fun v7 H7 e7 h7 => hq v7 H7 ((e1.trans e2).trans e7) h7
    · have h : l.length ≤ j := by simpa using h
      rw [List.drop_eq_nil_of_le h] at hq
      exact go_ret (ev_ixT (f := 0) (d := dProg p) (vr 1 (hf.ex' e2)) ev_int rfl) fun v7 H7 e7 h7 => hq v7 H7 ((e1.trans e2).trans e7) h7
/-! ### row_of -/
theorem ints_read : ∀ (n : Nat) (x : List Int), readTimes (readInt VametBase.TOLD) n x = if n ≤ x.length ∧ ∀ y ∈ x.take n, inB (some y) (0 - 99) 99 = true then some (x.take n, x.drop n) else none
  | 0, x => by
    rw [if_pos ⟨Nat.zero_le _, fun y hy => by rw [List.take_zero] at hy; exact absurd hy List.not_mem_nil⟩]
    rfl
  | n + 1, [] => by
    rw [if_neg (by simp)]
    rfl
  | n + 1, a :: x => by
    show ((readInt VametBase.TOLD (a :: x)).bind fun u => (readTimes (readInt VametBase.TOLD) n u.2).map fun v => (u.1 :: v.1, v.2)) = _
    have e0 : readInt VametBase.TOLD (a :: x) = if 0 - 99 ≤ a ∧ a ≤ 99 then some (a, x) else none := rfl
    rw [e0]
    by_cases ha : 0 - 99 ≤ a ∧ a ≤ 99
    · rw [if_pos ha]
      show (readTimes (readInt VametBase.TOLD) n x).map (fun v => (a :: v.1, v.2)) = _
      rw [ints_read n x]
      by_cases hx : n ≤ x.length ∧ ∀ y ∈ x.take n, inB (some y) (0 - 99) 99 = true
      · rw [if_pos hx, if_pos]
        · rfl
        · refine ⟨by rw [List.length_cons]; omega, fun y hy => ?_⟩
          rw [List.take_succ_cons] at hy
          rcases List.mem_cons.mp hy with rfl | hy
          · exact inB_iff.mpr ha
          · exact hx.2 y hy
      · rw [if_neg hx, if_neg]
        · rfl
        · rintro ⟨h1, h2⟩
          exact hx ⟨by rw [List.length_cons] at h1; omega, fun y hy => h2 y (by rw [List.take_succ_cons]; exact List.mem_cons_of_mem _ hy)⟩
    · rw [if_neg ha, if_neg]
      · rfl
      · rintro ⟨h1, h2⟩
        exact ha (inB_iff.mp (h2 a (by rw [List.take_succ_cons]; exact List.mem_cons_self)))
theorem row_read (m : Int) (x : List Int) : VametBase.whole readRow (m :: x) = if inB (some m) 0 8 = true ∧ (x.length : Int) = m ∧ ∀ y ∈ x, inB (some y) (0 - 99) 99 = true then some x else none := by
  have e : readRow (m :: x) = ((if (0 : Int) ≤ m ∧ m ≤ 8 then some (m.toNat, x) else none).bind fun n => readTimes (readInt VametBase.TOLD) n.1 n.2) := rfl
  unfold VametBase.whole
  rw [e]
  by_cases hm : (0 : Int) ≤ m ∧ m ≤ 8
  · rw [if_pos hm]
    have eb : ((some (m.toNat, x)).bind fun n => readTimes (readInt VametBase.TOLD) n.1 n.2) = readTimes (readInt VametBase.TOLD) m.toNat x := rfl
    rw [eb, ints_read]
    by_cases hx : m.toNat ≤ x.length ∧ ∀ y ∈ x.take m.toNat, inB (some y) (0 - 99) 99 = true
    · rw [if_pos hx]
      by_cases hl : (x.length : Int) = m
      · have : m.toNat = x.length := by omega
        rw [this, List.take_length] at hx
        rw [this, List.take_length, List.drop_length, if_pos ⟨inB_iff.mpr hm, hl, hx.2⟩]
      · rw [if_neg fun z => hl z.2.1]
        cases hd : x.drop m.toNat with
        | nil => have := List.drop_eq_nil_iff.mp hd; omega
        | cons a r => rfl
    · rw [if_neg hx, if_neg]
      rintro ⟨_, h2, h3⟩
      exact hx ⟨by omega, fun y hy => h3 y (List.mem_of_mem_take hy)⟩
  · rw [if_neg hm, if_neg fun z => hm (inB_iff.mp z.1)]
    rfl
def a_row_of : List T → T → Prop := fun Ps R => ∃ (l : List Int), Ps = [Is (dInts l)] ∧ l.length ≤ 1000 ∧ R = Is (dOpt (VametBase.whole readRow l))
theorem sc_row_of : FnScope ["numbers", "many", "number"] ["numbers"] (defScope s_row_of) := ⟨rfl, rfl, rfl, by decide +kernel, rfl, by decide +kernel, by decide +kernel⟩
theorem d_row_of (t : Txt K mg CR CD) : Def P w K mg base 2 "row_of" ["numbers"] (Prom a_row_of) := by
  refine def_of t.f_row_of sc_row_of (fun _ _ ⟨_, h, _⟩ => h ▸ rfl) (fun _ _ _ _ _ _ us hl => match us, hl with | [_], _ => rfl) ?_
  intro f cdv A0 outer s H E vs Ps R Q hr hA ap hq
  obtain ⟨l, rfl, hl, rfl⟩ := hA
  obtain ⟨v, rfl, hv⟩ := allP1 ap
  refine go_set (n := 1) (ev_call (d_number_at t) hr (ea_cons (vr 0 hv) (ea_cons (ev_int (k := 0)) ea_nil)) ⟨0, l, 0, rfl, rfl⟩) (fun sv H1 e1 hs => ?_) sc_row_of.nd
  have hv := hv.ex' e1
  cases l with
  | nil =>
    refine go_ifr (et_or (k := true) (l := true) (et_as (et_not (et_val (ev_call (d_is_within t) hr (ea_cons (vr 1 hs) (ea_cons ev_int (ea_cons (ev_glob t.c_MOST_ROW) ea_nil))) ⟨none, 0, 8, rfl, rfl⟩))) rfl) (fun h => absurd h (by decide))).et (fun _ H2 e2 => ?_) (fun h H2 e2 => absurd h (by decide))
    exact go_ret ev_non fun v7 H7 e7 h7 => hq v7 H7 ((e1.trans e2).trans e7) h7
  | cons m x =>
    rw [row_read] at hq
    replace hs : IsD 0 H1 (.int m) sv := hs
    refine go_ifr (et_or (k := !inB (some m) 0 8) (l := !decide ((((m :: x).map PyData.int).length : Int) = m + 1)) (et_not (et_val (ev_call (d_is_within t) hr (ea_cons (vr 1 hs) (ea_cons ev_int (ea_cons (ev_glob t.c_MOST_ROW) ea_nil))) ⟨some m, 0, 8, rfl, rfl⟩))) (fun _ => et_or1 (et_ne (ev_lenL (f := 0) rfl t.b_len (vr 0 hv)) (ev_add (vr 1 hs) ev_int)))).et (fun h H2 e2 => ?_) (fun h H2 e2 => ?_)
    · rw [if_neg] at hq
      · exact go_ret ev_non fun v7 H7 e7 h7 => hq v7 H7 ((e1.trans e2).trans e7) h7
      · rintro ⟨a, b, _⟩
        rw [a, decide_eq_true (by rw [List.length_map, List.length_cons]; omega)] at h
        exact absurd h (by decide)
    · obtain ⟨h1, h2⟩ := Bool.or_eq_false_iff.mp h
      have h1 : inB (some m) 0 8 = true := by simpa using h1
      have h2 : (x.length : Int) = m := by
        have := of_decide_eq_true (p := _) (by simpa using h2)
        omega
      have hcut : cutD (m :: x) (some ((1 : Nat) : Int)) none = x := by rw [cut_from]; rfl
      refine go_ifr (et_not (et_val (ev_all (f := 0) (bs := x.map fun y => inB (some y) (0 - 99) 99) rfl t.b_all ?_))) (fun h3 H3 e3 => ?_) (fun h3 H3 e3 => ?_)
      · rw [List.map_map]
        refine ev_lc0 (f := 0) (g := 0) (l := x) (enc := .int) (F := fun y => .bool (inB (some y) (0 - 99) 99)) (j := 2) rfl sc_row_of.nd ?_ (blkOk_by (N := ["numbers", "many", "number"]) (sc := defScope s_row_of) (by decide +kernel)) (by rw [List.length_cons] at hl; omega) (fun _ _ => rfl) (fun _ _ _ _ _ => pgv sc_row_of.nd) (fun y hy H3 w e3 hw => fun s' H0 C cl fp => ev_call (d_is_within t) hr (ea_cons (vr 2 hw) (ea_cons (ev_sub ev_int (ev_glob t.c_MOST_OWN)) (ea_cons (ev_glob t.c_MOST_OWN) ea_nil))) ⟨some y, 0 - 99, 99, rfl, rfl⟩)
        exact src_list (ev_as (ev_slI (l := m :: x) (x := some ((1 : Nat) : Int)) (y := none) (vr 0 (hv.ex' e2)) (eo_some ev_int) eo_none) (by rw [hcut]; rfl))
      · rw [if_neg] at hq
        · exact go_ret ev_non fun v7 H7 e7 h7 => hq v7 H7 ((e1.trans e2).trans (e3.trans e7)) h7
        · rintro ⟨_, _, z⟩
          have : (x.map fun y => inB (some y) (0 - 99) 99).all id = true := by
            rw [List.all_map, List.all_eq_true]
            exact fun y hy => z y hy
          rw [this] at h3
          exact absurd h3 (by decide)
      · have h3 : ∀ y ∈ x, inB (some y) (0 - 99) 99 = true := by
          have : (x.map fun y => inB (some y) (0 - 99) 99).all id = true := by
            cases hh : (x.map fun y => inB (some y) (0 - 99) 99).all id with
            | true => rfl
            | false => rw [hh] at h3; cases h3
          rw [List.all_map, List.all_eq_true] at this
          exact fun y hy => this y hy
        rw [if_pos ⟨h1, h2, h3⟩] at hq
        exact go_ret (ev_tupI t.b_tuple (ev_as (ev_slI (l := m :: x) (x := some ((1 : Nat) : Int)) (y := none) (vr 0 ((hv.ex' e2).ex' e3)) (eo_some ev_int) eo_none) (by rw [hcut]))) fun v7 H7 e7 h7 => hq v7 H7 ((e1.trans e2).trans (e3.trans e7)) h7
/-! ### program_numbers -/
theorem flat_step (s : VametBase.Step) : VametBase.flatStep s = if hasOwn (stepN s) then [stepN s, stepO s] else [stepN s] := by
  cases s <;> rfl
def a_program_numbers : List T → T → Prop := fun Ps R => ∃ p : VametBase.Program, Ps = [Is (dProg p)] ∧ p.length ≤ 1000 ∧ R = Is (dInts (VametBase.flatProgram p))
theorem sc_program_numbers : FnScope ["program", "found", "step", "own"] ["program"] (defScope s_program_numbers) := ⟨rfl, rfl, rfl, by decide +kernel, rfl, by decide +kernel, by decide +kernel⟩
theorem d_program_numbers (t : Txt K mg CR CD) : Def P w K mg base 2 "program_numbers" ["program"] (Prom a_program_numbers) := by
  refine def_of t.f_program_numbers sc_program_numbers (fun _ _ ⟨_, h, _⟩ => h ▸ rfl) (fun _ _ _ _ _ _ us hl => match us, hl with | [_], _ => rfl) ?_
  intro f cdv A0 outer s H E vs Ps R Q hr hA ap hq
  obtain ⟨p, rfl, hl, rfl⟩ := hA
  obtain ⟨v, rfl, hv⟩ := allP1 ap
  obtain ⟨S, ss, rfl, hS, rS⟩ := is_list hv
  refine go_set (n := 1) (P := NewL 0 H [.int (p.map dStep).length]) (ev_lstN (f := 0) (ds := [.int (p.map dStep).length]) (ea_cons (ev_lenL (f := 0) rfl t.b_len (vr 0 hv)) ea_nil) (by show 1 ≤ 1000; omega)) (fun fv H1 e1 hf => ?_) sc_program_numbers.nd
  obtain ⟨A, xs, rfl, hA0, hA, rA⟩ := hf
  rw [List.length_map] at rA
  refine go_forX (l := p) (enc := dStep) (f := 0) (A := S) (xs := ss) (gt := gTup K 2 (gCons (gName 2) (gCons (gName 3) gNil))) (fun j σ' H' => ∃ o3 o4, σ' = [some (.ref S), some (.ref A), o3, o4] ∧ Acc 0 H A (((p.length : Int) :: (p.take j).flatMap VametBase.flatStep).map .int) H') PassesOwn.never rfl (vrR 0 S) (e1 _ _ hS) (IsAll.ex e1 _ _ rS) (pg2 rfl sc_program_numbers.nd) ?_ ?_ ?_ ?_
  · intro H2 e2
    exact ⟨none, none, rfl, e1.trans e2, xs, e2 _ _ hA, IsAll.ex e2 _ _ rA⟩
  · rintro j σ' H' _ ⟨o3, o4, rfl, ac⟩
    exact ac.ex _ _ hS
  · rintro j s1 vs1 σ' H2 hj hvj pv ⟨o3, o4, rfl, ac⟩
    have hjl : j < p.length := (List.getElem?_eq_some_iff.mp hj).1
    have pv2 : IsD 0 H2 (dStep s1) vs1 := by
      obtain ⟨v0, hv0, pv0⟩ := rS.get (i := j) (d := dStep s1) (by rw [List.getElem?_map, hj]; rfl)
      rw [hvj] at hv0
      cases hv0
      exact pv0.ex' ac.ex
    obtain ⟨a, ys, rfl, ha, rx⟩ := is_tuple pv2
    cases rx with
    | cons r1 r2 =>
    cases r2 with
    | cons r2 r3 =>
    cases r3
    have hlen : ((p.take j).flatMap VametBase.flatStep).length ≤ 2 * j := by
      have : ∀ q : VametBase.Program, (q.flatMap VametBase.flatStep).length ≤ 2 * q.length := by
        intro q
        induction q with
        | nil => exact Nat.le_refl _
        | cons b q ih =>
          rw [List.flatMap_cons, List.length_append, List.length_cons, flat_step]
          have : (if hasOwn (stepN b) then [stepN b, stepO b] else [stepN b]).length ≤ 2 := by
            split
            · show 2 ≤ 2; omega
            · show 1 ≤ 2; omega
          omega
      have := this (p.take j)
      rw [List.length_take] at this
      omega
    have htake := take_succ_map VametBase.flatStep hj
    rw [flat_step s1] at htake
    refine ⟨a, _, rfl, ha.sq, rfl, _, _, rfl, _, _, rfl, rfl, ?_⟩
    refine go_accApp hA0 ac (vrR 1 A) (vr 2 r1) (by rw [List.length_map, List.length_cons]; omega) (imms_map (fun _ => rfl) _) rfl (fun H3 a3 tx3 => ?_)
    obtain rfl := is_int r1
    obtain rfl := is_int r2
    refine go_if (et_val (ev_call (d_has_own t) (hr.mono (by omega)) (ea_cons (vr 2 (.int _ : IsD 0 _ _ _)) ea_nil) ⟨stepN s1, rfl, rfl⟩)) (fun h H4 e4 => ?_) (fun h H4 e4 => ?_)
    · rw [h, if_pos rfl] at htake
      refine go_accApp hA0 (a3.up e4) (vrR 1 A) (vr 3 (.int _ : IsD 0 _ _ _)) (by rw [List.length_append, List.length_map, List.length_cons]; show _ + 1 < _; omega) (imms_app (imms_map (fun _ => rfl) _) rfl) rfl (fun H5 a5 tx5 => go_nil (go_nil ⟨_, _, rfl, ?_⟩))
      rw [htake, ← List.cons_append, List.map_append]
      rw [List.append_assoc] at a5
      exact a5
    · rw [h, if_neg Bool.false_ne_true] at htake
      refine go_nil (go_nil ⟨_, _, rfl, ?_⟩)
      rw [htake, ← List.cons_append, List.map_append]
      exact a3.up e4
  · rintro σ' H2 ⟨o3, o4, rfl, ac⟩
    rw [List.take_length] at ac
    exact go_ret (vrP 1 (Is (dInts (VametBase.flatProgram p))) ac.is) fun v7 H7 e7 h7 => hq v7 H7 (ac.ex.trans e7) h7
/-! ### condition_at -/
def condN : VametBase.Cond → Int
  | .any => 0
  | .some => 1
  | .rising => 2
  | .plus => 3
  | .unlike => 4
  | .atLeast _ => 5
def condO : VametBase.Cond → Int
  | .atLeast k => k
  | _ => 0
def dCondAt (l : List Int) : PyData := match readCond l with
  | none => .none
  | some (c, r) => .tuple [.int (condN c), .int (condO c), dN (l.length - r.length)]
theorem cond_bad {z : Int} {r : List Int} (h : inB (some z) 0 5 = false) : readCond (z :: r) = none := by
  have h := inB_not h
  unfold VametBase.readCond
  split <;> first | rfl | (rename_i e; injection e with e1 _; omega) | (rename_i e _; injection e with e1 _; omega)
theorem cond_plain {z : Int} (h : inB (some z) 0 5 = true) (h2 : z < 5) : ∃ c, (∀ r, readCond (z :: r) = some (c, r)) ∧ condN c = z ∧ condO c = 0 := by
  have h := inB_iff.mp h
  have : z = 0 ∨ z = 1 ∨ z = 2 ∨ z = 3 ∨ z = 4 := by omega
  rcases this with rfl | rfl | rfl | rfl | rfl
  · exact ⟨.any, fun _ => rfl, rfl, rfl⟩
  · exact ⟨.some, fun _ => rfl, rfl, rfl⟩
  · exact ⟨.rising, fun _ => rfl, rfl, rfl⟩
  · exact ⟨.plus, fun _ => rfl, rfl, rfl⟩
  · exact ⟨.unlike, fun _ => rfl, rfl, rfl⟩
theorem cond_five (o : Int) (r : List Int) : readCond (5 :: o :: r) = if inB (some o) 0 9 then some (.atLeast o.toNat, r) else none := by
  show (readNat 0 VametBase.SMALL (o :: r)).map _ = _
  have e : readNat 0 VametBase.SMALL (o :: r) = if (0 : Int) ≤ o ∧ o ≤ 9 then some (o.toNat, r) else none := rfl
  rw [e]
  by_cases h : (0 : Int) ≤ o ∧ o ≤ 9
  · rw [if_pos h, inB_iff.mpr h, if_pos rfl]; rfl
  · rw [if_neg h]
    cases hh : inB (some o) 0 9 with
    | false => rfl
    | true => exact absurd (inB_iff.mp hh) h
def a_condition_at : List T → T → Prop := fun Ps R => ∃ (l : List Int), Ps = [Is (dInts l)] ∧ R = Is (dCondAt l)
theorem sc_condition_at : FnScope ["numbers", "condition"] ["numbers"] (defScope s_condition_at) := ⟨rfl, rfl, rfl, by decide +kernel, rfl, by decide +kernel, by decide +kernel⟩
theorem d_condition_at (t : Txt K mg CR CD) : Def P w K mg base 2 "condition_at" ["numbers"] (Prom a_condition_at) := by
  refine def_of t.f_condition_at sc_condition_at (fun _ _ ⟨_, h, _⟩ => h ▸ rfl) (fun _ _ _ _ _ _ us hl => match us, hl with | [_], _ => rfl) ?_
  intro f cdv A0 outer s H E vs Ps R Q hr hA ap hq
  obtain ⟨l, rfl, rfl⟩ := hA
  obtain ⟨v, rfl, hv⟩ := allP1 ap
  unfold dCondAt at hq
  refine go_set (n := 1) (ev_call (d_number_at t) hr (ea_cons (vr 0 hv) (ea_cons (ev_int (k := 0)) ea_nil)) ⟨0, l, 0, rfl, rfl⟩) (fun sv H1 e1 hs => ?_) sc_condition_at.nd
  have hv := hv.ex' e1
  refine go_ifr (et_not (et_val (ev_call (d_is_within t) hr (ea_cons (vr 1 hs) (ea_cons ev_int (ea_cons (ev_glob t.c_AS_MANY) ea_nil))) ⟨l[0]?, 0, 5, rfl, rfl⟩))) (fun h0 H2 e2 => ?_) (fun h0 H2 e2 => ?_)
  · have h0 : inB (l[0]?) 0 5 = false := by simpa using h0
    have : readCond l = none := by
      cases l with
      | nil => rfl
      | cons z r => exact cond_bad h0
    rw [this] at hq
    exact go_ret ev_non fun v7 H7 e7 h7 => hq v7 H7 ((e1.trans e2).trans e7) h7
  have h0 : inB (l[0]?) 0 5 = true := by simpa using h0
  have hv := hv.ex' e2
  replace hs := hs.ex' e2
  replace e2 := e1.trans e2
  cases l with
  | nil => exact absurd h0 Bool.false_ne_true
  | cons z x =>
  replace hs : IsD 0 H2 (.int z) sv := hs
  have h0 : inB (some z) 0 5 = true := h0
  refine go_ifr (et_lt (vr 1 hs) (ev_glob t.c_AS_MANY)) (fun h1 H3 e3 => ?_) (fun h1 H3 e3 => ?_)
  · obtain ⟨c, g1, g2, g3⟩ := cond_plain h0 (of_decide_eq_true h1)
    rw [g1] at hq
    refine go_ret (ev_tup (f := 0) (ds := [.int z, .int 0, .int 1]) (ea_cons (vr 1 (hs.ex' e3)) (ea_cons ev_int (ea_cons ev_int ea_nil))) (by show 3 ≤ 1000; omega)) fun v7 H7 e7 h7 => hq v7 H7 ((e2.trans e3).trans e7) ?_
    show IsD 0 H7 (.tuple [.int (condN c), .int (condO c), dN ((z :: x).length - x.length)]) v7
    have : (z :: x).length - x.length = 1 := by rw [List.length_cons]; omega
    rw [g2, g3, this]
    exact h7
  have h1 := of_decide_eq_false h1
  obtain rfl : z = 5 := by have := inB_iff.mp h0; omega
  refine go_ifr (et_not (et_val (ev_call (d_is_within t) hr (ea_cons (ev_call (d_number_at t) hr (ea_cons (vr 0 (hv.ex' e3)) (ea_cons (ev_int (k := 1)) ea_nil)) ⟨0, 5 :: x, 1, rfl, rfl⟩) (ea_cons ev_int (ea_cons (ev_glob t.c_MOST_MANY) ea_nil))) ⟨x[0]?, 0, 9, rfl, rfl⟩))) (fun h2 H4 e4 => ?_) (fun h2 H4 e4 => ?_)
  · have h2 : inB (x[0]?) 0 9 = false := by simpa using h2
    have : readCond (5 :: x) = none := by
      cases x with
      | nil => rfl
      | cons o r => rw [cond_five]; have h2 : inB (some o) 0 9 = false := h2; rw [h2]; rfl
    rw [this] at hq
    exact go_ret ev_non fun v7 H7 e7 h7 => hq v7 H7 ((e2.trans e3).trans (e4.trans e7)) h7
  have h2 : inB (x[0]?) 0 9 = true := by simpa using h2
  cases x with
  | nil => exact absurd h2 Bool.false_ne_true
  | cons o r =>
  have h2 : inB (some o) 0 9 = true := h2
  rw [cond_five, h2, if_pos rfl] at hq
  have ho := inB_iff.mp h2
  refine go_ret (ev_tup (f := 0) (ds := [.int 5, .int o, .int 2]) (ea_cons (vr 1 ((hs.ex' e3).ex' e4)) (ea_cons (ev_ixL (f := 0) (d := .int o) (vr 0 ((hv.ex' e3).ex' e4)) (ev_int (k := ((1 : Nat) : Int))) (atI_nat rfl)) (ea_cons ev_int ea_nil))) (by show 3 ≤ 1000; omega)) fun v7 H7 e7 h7 => hq v7 H7 ((e2.trans e3).trans (e4.trans e7)) ?_
  show IsD 0 H7 (.tuple [.int 5, .int ((o.toNat : Nat) : Int), dN ((5 :: o :: r).length - r.length)]) v7
  have e1 : (5 :: o :: r).length - r.length = 2 := by rw [List.length_cons, List.length_cons]; omega
  have e2 : ((o.toNat : Nat) : Int) = o := by omega
  rw [e1, e2]
  exact h7
end
end TG
set_option Elab.async false
set_option linter.all false
set_option maxRecDepth 100000
set_option maxHeartbeats 2000000
namespace TG
open PySem PySem.Spec PyProof.Rows L2
open Evl (Ex ex_l ex_t fresh_back)
section
variable {P : Program} {w : World} {K : PySem.W.Frag} {mg : Str → Option Value} {base : Heap} {CR CD : Addr}
/-! ### == of the data at hand -/
theorem eqvAll_inj {α : Type} [DecidableEq α] {F : α → PyData} (h : ∀ a b, PyData.eqv (F a) (F b) = decide (a = b)) : ∀ l m : List α, PyData.eqvAll (l.map F) (m.map F) = decide (l = m)
  | [], [] => by rw [List.map_nil, PyData.eqvAll]; simp
  | [], b :: m => by rw [List.map_nil, List.map_cons, PyData.eqvAll]; simp
  | a :: l, [] => by rw [List.map_nil, List.map_cons, PyData.eqvAll]; simp
  | a :: l, b :: m => by
    rw [List.map_cons, List.map_cons, PyData.eqvAll, h, eqvAll_inj h l m]
    by_cases h1 : a = b
    · subst h1
      by_cases h2 : l = m
      · subst h2; simp
      · simp [h2]
    · simp [h1]
theorem eqv_int (i j : Int) : PyData.eqv (.int i) (.int j) = decide (i = j) := by
  rw [PyData.eqv]
  by_cases h : i = j
  · subst h; simp
  · rw [decide_eq_false h]; exact beq_eq_false_iff_ne.mpr h
theorem eqv_row (a b : List Int) : PyData.eqv (dRow a) (dRow b) = decide (a = b) := by
  unfold dRow
  rw [PyData.eqv]
  exact eqvAll_inj eqv_int a b
theorem eqv_ints (a b : List Int) : PyData.eqv (dInts a) (dInts b) = decide (a = b) := by
  unfold dInts
  rw [PyData.eqv]
  exact eqvAll_inj eqv_int a b
theorem dStep_inj {s s' : VametBase.Step} (h1 : stepN s = stepN s') (h2 : stepO s = stepO s') : s = s' := by
  cases s <;> cases s' <;> simp [stepN, stepO] at h1 h2 ⊢ <;> omega
theorem eqv_step (s s' : VametBase.Step) : PyData.eqv (dStep s) (dStep s') = decide (s = s') := by
  unfold dStep
  rw [PyData.eqv, PyData.eqvAll, PyData.eqvAll, PyData.eqvAll, eqv_int, eqv_int, Bool.and_true]
  by_cases h : s = s'
  · subst h; simp
  · rw [decide_eq_false h]
    by_cases h1 : stepN s = stepN s'
    · have h2 : ¬ stepO s = stepO s' := fun z => h (dStep_inj h1 z)
      rw [decide_eq_false h2, Bool.and_false]
    · rw [decide_eq_false h1, Bool.false_and]
theorem eqv_prog (a b : VametBase.Program) : PyData.eqv (dProg a) (dProg b) = decide (a = b) := by
  unfold dProg
  rw [PyData.eqv]
  exact eqvAll_inj eqv_step a b
theorem eqv_opt (a b : Option (List Int)) : PyData.eqv (dOpt a) (dOpt b) = decide (a = b) := by
  cases a with
  | none =>
    cases b with
    | none => show PyData.eqv .none .none = _; rw [PyData.eqv]; simp
    | some b => show PyData.eqv .none (.tuple _) = _; rw [PyData.eqv]; simp
  | some a =>
    cases b with
    | none => show PyData.eqv (.tuple _) .none = _; rw [PyData.eqv]; simp
    | some b =>
      show PyData.eqv (dRow a) (dRow b) = _
      rw [eqv_row]
      simp
theorem eqv_nat (a b : Nat) : PyData.eqv (dN a) (dN b) = decide (a = b) := by
  unfold dN
  rw [eqv_int]
  by_cases h : a = b
  · subst h; simp
  · rw [decide_eq_false h, decide_eq_false (by omega)]
theorem eqv_dB (a b : Bool) : PyData.eqv (dB a) (dB b) = decide (a = b) := by
  unfold dB
  rw [eqv_int]
  cases a <;> cases b <;> rfl
theorem eqv_turn (a b : Vamete.Turn) : PyData.eqv (dT a) (dT b) = decide (a = b) := by
  unfold dT
  rw [PyData.eqv, PyData.eqvAll, PyData.eqvAll, PyData.eqvAll, PyData.eqv, PyData.eqv, eqvAll_inj eqv_nat, eqvAll_inj eqv_dB, Bool.and_true]
  cases a with
  | mk p s =>
  cases b with
  | mk q r =>
  by_cases h1 : p = q
  · subst h1
    by_cases h2 : s = r
    · subst h2; simp
    · simp [h2]
  · simp [h1]
/-- data that == takes: no text, no dict, not deep -/
def Fine (n : Nat) (d : PyData) : Prop := PyData.canLay0 d = true ∧ d.depth ≤ n
theorem fine_all {n : Nat} : ∀ {l : List PyData}, (∀ d ∈ l, Fine n d) → PyData.canLayAll0 l = true ∧ PyData.depthAll l ≤ n
  | [], _ => ⟨rfl, by rw [PyData.depthAll]; omega⟩
  | d :: l, h => by
    obtain ⟨a, b⟩ := fine_all fun x hx => h x (List.mem_cons_of_mem _ hx)
    obtain ⟨a1, b1⟩ := h d List.mem_cons_self
    refine ⟨?_, ?_⟩
    · rw [PyData.canLayAll0, a, a1]; rfl
    · rw [PyData.depthAll]; omega
theorem Fine.up {n m : Nat} {d : PyData} (h : Fine n d) (hm : n ≤ m) : Fine m d := ⟨h.1, Nat.le_trans h.2 hm⟩
theorem Fine.sh {n : Nat} {d : PyData} (h : Fine n d) (hn : n ≤ 64) : SeqAt.shaped d = true := by
  unfold SeqAt.shaped
  rw [h.1, decide_eq_true (Nat.le_trans h.2 hn)]
  rfl
theorem fine_int (i : Int) : Fine 0 (.int i) := ⟨rfl, by rw [PyData.depth]; omega⟩
theorem fine_tup {n : Nat} {l : List PyData} (h : ∀ d ∈ l, Fine n d) : Fine (n + 1) (.tuple l) := by
  obtain ⟨a, b⟩ := fine_all h
  refine ⟨by rw [PyData.canLay0]; exact a, by rw [PyData.depth]; omega⟩
theorem fine_lst {n : Nat} {l : List PyData} (h : ∀ d ∈ l, Fine n d) : Fine (n + 1) (.list l) := by
  obtain ⟨a, b⟩ := fine_all h
  refine ⟨by rw [PyData.canLay0]; exact a, by rw [PyData.depth]; omega⟩
theorem fine_map {α : Type} {n : Nat} {F : α → PyData} (h : ∀ a, Fine n (F a)) (l : List α) : ∀ d ∈ l.map F, Fine n d := fun d hd => by
  obtain ⟨a, _, rfl⟩ := List.mem_map.mp hd
  exact h a
theorem fine_row (r : List Int) : Fine 1 (dRow r) := fine_tup (fine_map fine_int r)
theorem fine_ints (r : List Int) : Fine 1 (dInts r) := fine_lst (fine_map fine_int r)
theorem fine_step (s : VametBase.Step) : Fine 1 (dStep s) := fine_tup fun d hd => by
  rcases List.mem_cons.mp hd with rfl | hd
  · exact fine_int _
  · rw [List.mem_singleton.mp hd]; exact fine_int _
theorem fine_prog (p : VametBase.Program) : Fine 2 (dProg p) := fine_lst (fine_map fine_step p)
theorem fine_none : Fine 0 .none := ⟨rfl, by rw [PyData.depth]; omega⟩
theorem fine_opt (o : Option (List Int)) : Fine 1 (dOpt o) := by
  cases o with
  | none => exact fine_none.up (by omega)
  | some r => exact fine_row r
theorem fine_turn (t : Vamete.Turn) : Fine 2 (dT t) := fine_tup fun d hd => by
  rcases List.mem_cons.mp hd with rfl | hd
  · exact fine_tup (fine_map (fun n => fine_int _) _)
  · rw [List.mem_singleton.mp hd]; exact fine_tup (fine_map (fun n => fine_int _) _)
/-! ### objects -/
section
variable {f g : Nat} {X : Cx} {σ : L2.St} {H H' : Hp} {a e o : Expr} {es : List Expr} {R : T} {pos pos' : Pos} {D : Ends} {rest : List Stmt} {x : Addr}
/-- just that value -/
def Eqv (v : V) : T := fun _ u => u = v
instance (v : V) : Sta (Eqv v) := ⟨fun _ h => h⟩
theorem vrV (n : Nat) {x : Str} (v : V) (h : σ[n]? = some (some v) := by rfl) (hN : X.N[n]? = some x := by rfl) (hv : Vis X.env.scope x := by first | exact Or.inl rfl | exact Or.inr (Or.inl rfl) | exact Or.inr (Or.inr rfl)) (hd : (x == ("__debug__" : Str)) = false := by decide)
    (hcd : (x == ("__classdict__" : Str)) = false := by decide) : EvE X (.Name x pos) σ H (Eqv v) := ev_var h rfl hN hv hd hcd
/-- all but what stands at x stays -/
def Exx (x : Addr) (H H' : Hp) : Prop := ∀ b o, b ≠ x → H b = some o → H' b = some o
theorem Exx.of (e : Ex H H') : Exx x H H' := fun b o _ h => e b o h
theorem Exx.trans {H1 H2 : Hp} (a : Exx x H H1) (b : Exx x H1 H2) : Exx x H H2 := fun c o h1 h2 => b c o h1 (a c o h1 h2)
theorem Exx.upd (o : HO) : Exx x H (upd H x o) := fun b u hb h => by rw [upd_ne hb]; exact h
theorem go_fld {P : T} {C dx : Addr} {fs : List (Str × V)} {fl : Str} (ho : EvE X o σ H (RefIs x)) (he : EvE X e σ H P) (hx : H x = some (.ins C dx fs)) (hC : Cls X.K C) (hN : NoAttr X.K C fl) (hl : fs.length < 1000) (k : ∀ y H1, Ex H H1 → P H1 y → tSs X rest D σ (upd H1 x (.ins C dx (putF fl y fs))))
    (hs : swapsWith e (some (.Attribute o fl pos')) pos.line X.env = pure false := by rfl) [s : Sta P] : tSs X (.Assign [.Attribute o fl pos'] e pos :: rest) D σ H :=
  w_Ss (pss_cons (ps_fld (pE o) (pE e) hs) (pSs rest)) (he H (Ex.refl H) _ fun y H1 e1 py => ho H1 e1 _ fun v H2 e2 pv => by
    cases pv
    exact ⟨x, C, dx, fs, rfl, (e1.trans e2) _ _ hx, hC, hN, hl, k y H2 (e1.trans e2) (s.mono e2 py)⟩)
/-- a class with its __init__'s promise -/
def MkS (P : Program) (w : World) (K : PySem.W.Frag) (mg : Str → Option Value) (base : Heap) (C : Addr) (k : Nat) (ps : List Str) (sp : Sp) : Prop := ∃ f fd, Mk K C f ∧ Binds K fd ps [] ∧ FnOk P w K mg base CX0 k f fd ps sp
theorem ev_make {n : Str} {p : Pos} {C : Addr} {k : Nat} {ps : List Str} {sp : Sp} {Ps : List T} (M : MkS X.prog X.w X.K X.mg X.base C k ps sp) (hr : Room (k + 1) X.A) (hm : X.mg n = some (.ref C)) (ha : EvA X (e :: es) σ H Ps)
    (hsp : ∀ vs H1, Ex H H1 → AllP H1 Ps vs → ∀ x dx, H1 x = none → H1 dx = none → dx ≠ x → ∀ Q : Hp → Prop, (∀ H2, Ex H1 H2 → R H2 (.ref x) → Q H2) → sp (.ref x :: vs) (upd (upd H1 dx (.own x)) x (.ins C dx [])) (fun v H2 => v = .non ∧ Q H2) E0)
    (hg : Gl X n := by rfl) (hdb : (n == ("__debug__" : Str)) = false := by decide) (he : starEach (e :: es) X.env = (false, eval e X.env) :: starEach es X.env := by rfl) (hpl : (backTo pos (starEach es X.env)).any (·.1) = false := by rfl) : EvE X (.Call (.Name n p) (e :: es) [] pos) σ H R := fun H1 e1 Q q => by
  obtain ⟨f, fd, M, hb, F⟩ := M
  exact w_E (pe_make M F hr hg hm hb .nil pass0 (pA (e :: es)) hdb he hpl) (ha H1 e1 _ fun vs H2 e2 ap x dx hx hdx hne => by
    rw [List.append_nil]
    exact hsp vs H2 (e1.trans e2) ap x dx hx hdx hne (fun H3 => Q (.ref x) H3) fun H3 e3 r => q _ H3 (e2.trans e3) r)
theorem ev_make0 {n : Str} {p : Pos} {C : Addr} {k : Nat} {ps : List Str} {sp : Sp} (M : MkS X.prog X.w X.K X.mg X.base C k ps sp) (hr : Room (k + 1) X.A) (hm : X.mg n = some (.ref C))
    (hsp : ∀ H1, Ex H H1 → ∀ x dx, H1 x = none → H1 dx = none → dx ≠ x → ∀ Q : Hp → Prop, (∀ H2, Ex H1 H2 → R H2 (.ref x) → Q H2) → sp [.ref x] (upd (upd H1 dx (.own x)) x (.ins C dx [])) (fun v H2 => v = .non ∧ Q H2) E0)
    (hg : Gl X n := by rfl) (hdb : (n == ("__debug__" : Str)) = false := by decide) : EvE X (.Call (.Name n p) [] [] pos) σ H R := fun H1 e1 Q q => by
  obtain ⟨f, fd, M, hb, F⟩ := M
  exact w_E (pe_make0 M F hr hg hm hb .nil pass0 hdb) (fun x dx hx hdx hne => by
    show sp [.ref x] _ _ _
    exact hsp H1 e1 x dx hx hdx hne (fun H3 => Q (.ref x) H3) fun H3 e3 r => q _ H3 e3 r)
end
/-! ### a def by any promise -/
def SBody (P : Program) (w : World) (K : PySem.W.Frag) (mg : Str → Option Value) (base : Heap) (N : List Str) (qual : Str) (st : Stmt) (k : Nat) (sp : Sp) : Prop :=
  ∀ (f : Addr) (cdv : Value) (A0 : Around) (outer : List Env) (s : Shared) (H : Hp) (E : XK) (vs : List V) (Q : VK), Room k (A0.deeper (envOfC qual (defScope st) s.heap.objs.size f cdv)) → sp vs H Q E →
    tSs (cxOf CX0 P w K mg base N qual (defScope st) f cdv A0 outer s H E).nox (defBody st) { nx := fun _ H' => Q .non H', rt := Q } (start N vs) H
theorem def_ofS {name qual : Str} {st : Stmt} {N ps : List Str} {k : Nat} {sp : Sp} (F : ∃ f fd, mg name = some (.ref f) ∧ Fun K name qual st f fd) (S : FnScope N ps (defScope st)) (hl : ∀ vs H Q E, sp vs H Q E → vs.length = ps.length)
    (hb : ∀ (kV doc pm : Value) (an : Option Addr) (cdv ct : Value) (us : List Value), us.length = ps.length → bindArgs (PySem.W.fnOf name qual (defArgs st) (defBody st) (defScope st) .none kV doc pm an cdv ct) ⟨us, []⟩ = pure (ps.zip us))
    (h : SBody P w K mg base N qual st k sp) : Def P w K mg base (k + 1) name ps sp := by
  obtain ⟨f, fd, hm, F⟩ := F
  exact ⟨f, fd, hm, F.kp, F.binds hb, F.ok S hl fun cdv A0 outer s H vs Q E hr hs => ⟨_, pSs _, h f cdv A0 outer s H E vs Q hr hs⟩⟩
theorem defM_ofS {name qual : Str} {st : Stmt} {N ps : List Str} {k : Nat} {sp : Sp} {C : Addr} (c : Cls K C) (F : ∃ f fd, Meth K C name f ∧ Fun K name qual st f fd) (S : FnScope N ps (defScope st)) (hl : ∀ vs H Q E, sp vs H Q E → vs.length = ps.length)
    (hb : ∀ (kV doc pm : Value) (an : Option Addr) (cdv ct : Value) (us : List Value), us.length = ps.length → bindArgs (PySem.W.fnOf name qual (defArgs st) (defBody st) (defScope st) .none kV doc pm an cdv ct) ⟨us, []⟩ = pure (ps.zip us))
    (h : SBody P w K mg base N qual st k sp) : DefM P w K mg base C (k + 1) name ps sp := by
  obtain ⟨f, fd, hm, F⟩ := F
  exact ⟨c, f, fd, hm, F.binds hb, F.ok S hl fun cdv A0 outer s H vs Q E hr hs => ⟨_, pSs _, h f cdv A0 outer s H E vs Q hr hs⟩⟩
theorem mk_ofS {name qual : Str} {st : Stmt} {N ps : List Str} {k : Nat} {sp : Sp} {C : Addr} (F : ∃ f fd, Mk K C f ∧ Fun K name qual st f fd) (S : FnScope N ps (defScope st)) (hl : ∀ vs H Q E, sp vs H Q E → vs.length = ps.length)
    (hb : ∀ (kV doc pm : Value) (an : Option Addr) (cdv ct : Value) (us : List Value), us.length = ps.length → bindArgs (PySem.W.fnOf name qual (defArgs st) (defBody st) (defScope st) .none kV doc pm an cdv ct) ⟨us, []⟩ = pure (ps.zip us))
    (h : SBody P w K mg base N qual st k sp) : MkS P w K mg base C (k + 1) ps sp := by
  obtain ⟨f, fd, hm, F⟩ := F
  exact ⟨f, fd, hm, F.binds hb, F.ok S hl fun cdv A0 outer s H vs Q E hr hs => ⟨_, pSs _, h f cdv A0 outer s H E vs Q hr hs⟩⟩
theorem pl {f : Str} {v : V} {n : Nat} : ∀ {fs : List (Str × V)}, fs.length ≤ n → (putF f v fs).length ≤ n + 1
  | [], _ => by show 1 ≤ n + 1; omega
  | (g, x) :: r, h => by
    show (if g = f then (g, v) :: r else (g, x) :: putF f v r).length ≤ n + 1
    rw [List.length_cons] at h
    split
    · rw [List.length_cons]; omega
    · have := pl (f := f) (v := v) (n := r.length) (fs := r) (Nat.le_refl _)
      rw [List.length_cons]; omega
theorem pl0 : ([] : List (Str × V)).length ≤ 0 := Nat.le_refl _
/-! ### Relation -/
def s_relInit (CR : Addr) : Sp := fun vs H Q _ => ∃ x dx c o b s a, vs = [.ref x, c, o, b, s, a] ∧ H x = some (.ins CR dx []) ∧ ∀ H' fs, Exx x H H' → H' x = some (.ins CR dx fs) →
  fs.lookup ("condition" : Str) = some c → fs.lookup ("own" : Str) = some o → fs.lookup ("before" : Str) = some b → fs.lookup ("stands" : Str) = some s → fs.lookup ("after" : Str) = some a → fs.lookup ("holds" : Str) = none → Q .non H'
theorem sc_Relation_init : FnScope ["self", "condition", "own", "before", "stands", "after"] ["self", "condition", "own", "before", "stands", "after"] (defScope s_Relation_init) := ⟨rfl, rfl, rfl, by decide +kernel, rfl, by decide +kernel, by decide +kernel⟩
theorem d_Relation_init (t : Txt K mg CR CD) : MkS P w K mg base CR 1 ["self", "condition", "own", "before", "stands", "after"] (s_relInit CR) := by
  refine mk_ofS t.m_Relation_init sc_Relation_init (fun vs H Q E h => by obtain ⟨x, dx, c, o, b, s, a, rfl, _⟩ := h; rfl) (fun _ _ _ _ _ _ us hl => match us, hl with | [_, _, _, _, _, _], _ => rfl) ?_
  intro f cdv A0 outer s H E vs Q hr hs
  obtain ⟨x, dx, c, o, b, s, a, rfl, hx, hq⟩ := hs
  refine go_fld (P := Eqv c) (vrR 0 x) (vrV 1 c) hx t.cl_Relation t.n_Relation_condition (by decide) (fun y H1 e1 hy => ?_)
  cases hy
  refine go_fld (P := Eqv o) (vrR 0 x) (vrV 2 o) upd_same t.cl_Relation t.n_Relation_own (Nat.lt_of_le_of_lt (pl pl0) (by decide)) (fun y H2 e2 hy => ?_)
  cases hy
  refine go_fld (P := Eqv b) (vrR 0 x) (vrV 3 b) upd_same t.cl_Relation t.n_Relation_before (Nat.lt_of_le_of_lt (pl (pl pl0)) (by decide)) (fun y H3 e3 hy => ?_)
  cases hy
  refine go_fld (P := Eqv s) (vrR 0 x) (vrV 4 s) upd_same t.cl_Relation t.n_Relation_stands (Nat.lt_of_le_of_lt (pl (pl (pl pl0))) (by decide)) (fun y H4 e4 hy => ?_)
  cases hy
  refine go_fld (P := Eqv a) (vrR 0 x) (vrV 5 a) upd_same t.cl_Relation t.n_Relation_after (Nat.lt_of_le_of_lt (pl (pl (pl (pl pl0)))) (by decide)) (fun y H5 e5 hy => go_nil ?_)
  cases hy
  refine hq _ _ (((((((((Exx.of e1).trans (.upd _)).trans (.of e2)).trans (.upd _)).trans (.of e3)).trans (.upd _)).trans (.of e4)).trans (.upd _)).trans ((Exx.of e5).trans (.upd _))) upd_same ?_ ?_ ?_ ?_ ?_ ?_ <;> (repeat (first | rw [lookup_putF, if_pos rfl] | rw [lookup_putF, if_neg (by decide)])) <;> rfl
end
end TG
set_option Elab.async false
set_option linter.all false
set_option maxRecDepth 100000
set_option maxHeartbeats 2000000
namespace TG
open PySem PySem.Spec PyProof.Rows L2
open Evl (Ex ex_l ex_t fresh_back)
section
variable {P : Program} {w : World} {K : PySem.W.Frag} {mg : Str → Option Value} {base : Heap} {CR CD : Addr}
open VametBase (readStep readNat readInt readProgram readTimes readCond readRel readRelation readRow readListed readPair)
/-- a relation object -/
def RelP (CR : Addr) (q : VametBase.Relation) : T := fun H v => ∃ x dx fs vb va, v = .ref x ∧ H x = some (.ins CR dx fs) ∧ fs.lookup ("condition" : Str) = some (.int (condN q.cond)) ∧ fs.lookup ("own" : Str) = some (.int (condO q.cond)) ∧
  fs.lookup ("before" : Str) = some vb ∧ IsD 0 H (dProg q.input) vb ∧ fs.lookup ("stands" : Str) = some (.int (VametBase.relNumber q.rel)) ∧ fs.lookup ("after" : Str) = some va ∧ IsD 0 H (dProg q.output) va ∧ fs.lookup ("holds" : Str) = none
instance (CR : Addr) (q : VametBase.Relation) : Sta (RelP CR q) := ⟨fun e ⟨x, dx, fs, vb, va, h0, h1, h2, h3, h4, h5, h6, h7, h8, h9⟩ => ⟨x, dx, fs, vb, va, h0, e _ _ h1, h2, h3, h4, h5.ex' e, h6, h7, h8.ex' e, h9⟩⟩
section
variable {X : Cx} {σ : L2.St} {H : Hp} {o : Expr} {pos : Pos} {q : VametBase.Relation} {K : PySem.W.Frag} {mg : Str → Option Value} {CR CD : Addr}
theorem ev_rcond (t : Txt X.K mg CR CD) (ho : EvE X o σ H (RelP CR q)) (hb : attributeBase o "condition" X.env (eval o X.env) = eval o X.env := by rfl) : EvE X (.Attribute o "condition" pos) σ H (Is (.int (condN q.cond))) :=
  ev_fld ho (fun H1 v _ ⟨x, dx, fs, vb, va, h0, h1, h2, h3, h4, h5, h6, h7, h8, h9⟩ => ⟨x, CR, dx, fs, _, h0, h1, t.cl_Relation, t.n_Relation_condition, h2, .int _⟩) hb
theorem ev_rown (t : Txt X.K mg CR CD) (ho : EvE X o σ H (RelP CR q)) (hb : attributeBase o "own" X.env (eval o X.env) = eval o X.env := by rfl) : EvE X (.Attribute o "own" pos) σ H (Is (.int (condO q.cond))) :=
  ev_fld ho (fun H1 v _ ⟨x, dx, fs, vb, va, h0, h1, h2, h3, h4, h5, h6, h7, h8, h9⟩ => ⟨x, CR, dx, fs, _, h0, h1, t.cl_Relation, t.n_Relation_own, h3, .int _⟩) hb
theorem ev_rbefore (t : Txt X.K mg CR CD) (ho : EvE X o σ H (RelP CR q)) (hb : attributeBase o "before" X.env (eval o X.env) = eval o X.env := by rfl) : EvE X (.Attribute o "before" pos) σ H (Is (dProg q.input)) :=
  ev_fld ho (fun H1 v _ ⟨x, dx, fs, vb, va, h0, h1, h2, h3, h4, h5, h6, h7, h8, h9⟩ => ⟨x, CR, dx, fs, _, h0, h1, t.cl_Relation, t.n_Relation_before, h4, h5⟩) hb
theorem ev_rstands (t : Txt X.K mg CR CD) (ho : EvE X o σ H (RelP CR q)) (hb : attributeBase o "stands" X.env (eval o X.env) = eval o X.env := by rfl) : EvE X (.Attribute o "stands" pos) σ H (Is (.int (VametBase.relNumber q.rel))) :=
  ev_fld ho (fun H1 v _ ⟨x, dx, fs, vb, va, h0, h1, h2, h3, h4, h5, h6, h7, h8, h9⟩ => ⟨x, CR, dx, fs, _, h0, h1, t.cl_Relation, t.n_Relation_stands, h6, .int _⟩) hb
theorem ev_rafter (t : Txt X.K mg CR CD) (ho : EvE X o σ H (RelP CR q)) (hb : attributeBase o "after" X.env (eval o X.env) = eval o X.env := by rfl) : EvE X (.Attribute o "after" pos) σ H (Is (dProg q.output)) :=
  ev_fld ho (fun H1 v _ ⟨x, dx, fs, vb, va, h0, h1, h2, h3, h4, h5, h6, h7, h8, h9⟩ => ⟨x, CR, dx, fs, _, h0, h1, t.cl_Relation, t.n_Relation_after, h7, h8⟩) hb
theorem ex_made {H1 H' : Hp} {x dx : Addr} {o : HO} {o2 : HO} (hx : H1 x = none) (hdx : H1 dx = none) (e : Exx x (upd (upd H1 dx o) x o2) H') : Ex H1 H' := fun b u h => by
  have hb : b ≠ x := fun z => by rw [z, hx] at h; cases h
  have hd : b ≠ dx := fun z => by rw [z, hdx] at h; cases h
  exact e b u hb (by rw [upd_ne hb, upd_ne hd]; exact h)
theorem ev_mkRel {e1 e2 e3 e4 e5 : Expr} {p : Pos} {w : World} (t : Txt X.K X.mg CR CD) (hr : Room 2 X.A) (h : EvA X [e1, e2, e3, e4, e5] σ H [Is (.int (condN q.cond)), Is (.int (condO q.cond)), Is (dProg q.input), Is (.int (VametBase.relNumber q.rel)), Is (dProg q.output)])
    (hg : Gl X "Relation" := by rfl) (he : starEach [e1, e2, e3, e4, e5] X.env = (false, eval e1 X.env) :: starEach [e2, e3, e4, e5] X.env := by rfl) (hpl : (backTo pos (starEach [e2, e3, e4, e5] X.env)).any (·.1) = false := by rfl) : EvE X (.Call (.Name "Relation" p) [e1, e2, e3, e4, e5] [] pos) σ H (RelP CR q) :=
  ev_make (d_Relation_init (base := X.base) t) hr t.g_Relation h (fun vs H1 e1 ap x dx hx hdx hne Q k => by
    obtain ⟨c, o, b, s, a, rfl, hc, ho, hb, hs, ha⟩ := allP5 ap
    obtain rfl := is_int hc
    obtain rfl := is_int ho
    obtain rfl := is_int hs
    refine ⟨x, dx, _, _, b, _, a, rfl, upd_same, fun H' fs ex hxx l1 l2 l3 l4 l5 l6 => ⟨rfl, k H' (ex_made hx hdx ex) ?_⟩⟩
    exact ⟨x, dx, fs, b, a, rfl, hxx, l1, l2, l3, hb.ex' (ex_made hx hdx ex), l4, l5, ha.ex' (ex_made hx hdx ex), l6⟩) hg (he := he) (hpl := hpl)
end
/-! ### holds -/
theorem rises_sorted : ∀ l : List Int, VametBase.rises l = true ↔ l.Pairwise (· ≤ ·)
  | [] => ⟨fun _ => .nil, fun _ => rfl⟩
  | [a] => ⟨fun _ => List.pairwise_singleton _ _, fun _ => rfl⟩
  | a :: b :: l => by
    show (decide (a ≤ b) && VametBase.rises (b :: l)) = true ↔ _
    rw [Bool.and_eq_true_iff, decide_eq_true_iff, rises_sorted (b :: l)]
    constructor
    · rintro ⟨h1, h2⟩
      refine List.pairwise_cons.mpr ⟨fun y hy => ?_, h2⟩
      rcases List.mem_cons.mp hy with rfl | hy
      · exact h1
      · exact Int.le_trans h1 ((List.pairwise_cons.mp h2).1 y hy)
    · intro h
      obtain ⟨h1, h2⟩ := List.pairwise_cons.mp h
      exact ⟨h1 b List.mem_cons_self, h2⟩
theorem rises_eq (l : List Int) : decide (l = VametBase.sorted l) = VametBase.rises l := by
  cases h : VametBase.rises l with
  | true => exact decide_eq_true (sorted_uniq (.refl l) ((rises_sorted l).mp h))
  | false =>
    refine decide_eq_false fun z => ?_
    have : l.Pairwise (· ≤ ·) := by rw [z]; exact sorted_pw l
    rw [(rises_sorted l).mpr this] at h
    cases h
theorem once_mem : ∀ (l k : List Int) (x : Int), x ∈ l.foldl onceStep k ↔ x ∈ k ∨ x ∈ l
  | [], k, x => by simp
  | a :: l, k, x => by
    rw [List.foldl_cons, once_mem l]
    unfold onceStep
    by_cases h : k.contains a = true
    · rw [if_pos h]
      have ha : a ∈ k := by simpa using h
      constructor
      · rintro (h | h)
        · exact .inl h
        · exact .inr (List.mem_cons_of_mem _ h)
      · rintro (h | h)
        · exact .inl h
        · rcases List.mem_cons.mp h with rfl | h
          · exact .inl ha
          · exact .inr h
    · rw [if_neg h, List.mem_append, List.mem_singleton, List.mem_cons, or_assoc]
theorem once_nodup : ∀ (l k : List Int), k.Nodup → (l.foldl onceStep k).Nodup
  | [], k, h => h
  | a :: l, k, h => by
    rw [List.foldl_cons]
    refine once_nodup l _ ?_
    unfold onceStep
    split
    · exact h
    · rename_i hc
      have hc : a ∉ k := by simpa using hc
      rw [List.nodup_append]
      refine ⟨h, List.nodup_cons.mpr ⟨List.not_mem_nil, .nil⟩, ?_⟩
      intro x hx y hy e
      rw [List.mem_singleton.mp hy] at e
      exact hc (e ▸ hx)
def a_Relation_holds (CR : Addr) : List T → T → Prop := fun Ps R => ∃ (q : VametBase.Relation) (r : List Int), Ps = [RelP CR q, Is (dRow r)] ∧ r.length ≤ 1000 ∧ R = Is (.bool (VametBase.fitsCond q.cond r))
theorem sc_Relation_holds : FnScope ["self", "row", "number"] ["self", "row"] (defScope s_Relation_holds) := ⟨rfl, rfl, rfl, by decide +kernel, rfl, by decide +kernel, by decide +kernel⟩
theorem dec_int_nat {a b : Nat} : decide ((a : Int) = (b : Int)) = decide (a = b) := by
  by_cases h : a = b
  · subst h; simp
  · rw [decide_eq_false h, decide_eq_false (by omega)]
theorem d_Relation_holds (t : Txt K mg CR CD) : DefM P w K mg base CR 1 "holds" ["self", "row"] (Prom (a_Relation_holds CR)) := by
  refine defM_of t.cl_Relation t.m_Relation_holds sc_Relation_holds (fun _ _ ⟨_, _, h, _⟩ => h ▸ rfl) (fun _ _ _ _ _ _ us hl => match us, hl with | [_, _], _ => rfl) ?_
  intro f cdv A0 outer s H E vs Ps R Q hr hA ap hq
  obtain ⟨q, r, rfl, hl, rfl⟩ := hA
  obtain ⟨v, u, rfl, hv, hu⟩ := allP2 ap
  have mono : ∀ {H H' : Hp} {v : V}, Ex H H' → RelP CR q H v → RelP CR q H' v := fun e h => Sta.mono e h
  obtain ⟨c, i, rl, oo⟩ := q
  refine go_ifr (et_eq (ev_rcond t (vrP 0 (RelP CR ⟨c, i, rl, oo⟩) hv)) (ev_glob t.c_HAS_NUMBERS)) (fun h0 H1 e1 => ?_) (fun h0 H1 e1 => ?_)
  · obtain rfl : c = .some := by cases c <;> simp [condN] at h0 ⊢
    refine go_ret (ev_gt (ev_lenT rfl t.b_len (vr 1 (hu.ex' e1))) ev_int) fun v7 H7 e7 h7 => hq v7 H7 (e1.trans e7) ?_
    rw [List.length_map] at h7
    have : decide ((0 : Int) < (r.length : Int)) = !r.isEmpty := by cases r <;> simp <;> omega
    rw [this] at h7
    exact h7
  replace hv := mono e1 hv
  replace hu := hu.ex' e1
  refine go_ifr (et_eq (ev_rcond t (vrP 0 (RelP CR ⟨c, i, rl, oo⟩) hv)) (ev_glob t.c_RISING)) (fun h1 H2 e2 => ?_) (fun h1 H2 e2 => ?_)
  · obtain rfl : c = .rising := by cases c <;> simp [condN] at h1 ⊢
    refine go_ret (ev_eqD (f := 0) (g := 0) (d1 := dInts r) (d2 := dInts (VametBase.sorted r)) hr.units (ev_listT t.b_list (vr 1 (hu.ex' e2))) (ev_sortedT t.b_sorted (vr 1 (hu.ex' e2))) ((fine_ints r).sh (by omega)) ((fine_ints _).sh (by omega))) fun v7 H7 e7 h7 => hq v7 H7 ((e1.trans e2).trans e7) ?_
    rw [eqv_ints, rises_eq] at h7
    exact h7
  replace hv := mono e2 hv
  replace hu := hu.ex' e2
  replace e2 := e1.trans e2
  refine go_ifr (et_eq (ev_rcond t (vrP 0 (RelP CR ⟨c, i, rl, oo⟩) hv)) (ev_glob t.c_NOT_BELOW)) (fun h2 H3 e3 => ?_) (fun h2 H3 e3 => ?_)
  · obtain rfl : c = .plus := by cases c <;> simp [condN] at h2 ⊢
    refine go_ret (ev_all (f := 0) (bs := r.map fun x => decide (0 ≤ x)) rfl t.b_all ?_) fun v7 H7 e7 h7 => hq v7 H7 ((e2.trans e3).trans e7) ?_
    · rw [List.map_map]
      exact ev_lc0 (f := 0) (g := 0) (l := r) (enc := .int) (F := fun x => .bool (decide (0 ≤ x))) (j := 2) rfl sc_Relation_holds.nd (src_tup (vr 1 (hu.ex' e3))) (blkOk_by (N := ["self", "row", "number"]) (sc := defScope s_Relation_holds) (by decide +kernel)) (by omega) (fun _ _ => rfl) (fun _ _ _ _ _ => pgv sc_Relation_holds.nd) (fun z hz H4 w e4 hw => fun s' H0 C cl fp => ev_ge (vr 2 hw) ev_int)
    · rw [List.all_map] at h7
      exact h7
  replace hv := mono e3 hv
  replace hu := hu.ex' e3
  replace e3 := e2.trans e3
  refine go_ifr (et_eq (ev_rcond t (vrP 0 (RelP CR ⟨c, i, rl, oo⟩) hv)) (ev_glob t.c_UNLIKE)) (fun h3 H4 e4 => ?_) (fun h3 H4 e4 => ?_)
  · obtain rfl : c = .unlike := by cases c <;> simp [condN] at h3 ⊢
    refine go_ret (ev_eq (ev_lenSet (ks := VametBase.onceOnly r) t.b_len (ev_set rfl t.b_set (vr 1 (hu.ex' e4)) hl) (once_nodup r [] .nil) (fun k => by rw [show VametBase.onceOnly r = r.foldl onceStep [] from rfl, once_mem]; simp)) (ev_lenT rfl t.b_len (vr 1 (hu.ex' e4)))) fun v7 H7 e7 h7 => hq v7 H7 ((e3.trans e4).trans e7) ?_
    rw [List.length_map, dec_int_nat] at h7
    exact h7
  replace hv := mono e4 hv
  replace hu := hu.ex' e4
  replace e4 := e3.trans e4
  refine go_ifr (et_eq (ev_rcond t (vrP 0 (RelP CR ⟨c, i, rl, oo⟩) hv)) (ev_glob t.c_AS_MANY)) (fun h4 H5 e5 => ?_) (fun h4 H5 e5 => ?_)
  · obtain ⟨k, rfl⟩ : ∃ k, c = .atLeast k := by cases c <;> simp [condN] at h4 ⊢
    refine go_ret (ev_ge (ev_lenT rfl t.b_len (vr 1 (hu.ex' e5))) (ev_rown t (vrP 0 (RelP CR ⟨.atLeast k, i, rl, oo⟩) (mono e5 hv)))) fun v7 H7 e7 h7 => hq v7 H7 ((e4.trans e5).trans e7) ?_
    rw [List.length_map] at h7
    have : decide (condO (.atLeast k) ≤ (r.length : Int)) = decide (k ≤ r.length) := by
      by_cases h : k ≤ r.length
      · rw [decide_eq_true h]; exact decide_eq_true (by show (k : Int) ≤ r.length; omega)
      · rw [decide_eq_false h]; exact decide_eq_false (by show ¬ (k : Int) ≤ r.length; omega)
    rw [this] at h7
    exact h7
  · obtain rfl : c = .any := by cases c <;> simp [condN] at h0 h1 h2 h3 h4 ⊢
    exact go_ret ev_bl fun v7 H7 e7 h7 => hq v7 H7 ((e4.trans e5).trans e7) h7
end
end TG
set_option Elab.async false
set_option linter.all false
set_option maxRecDepth 100000
set_option maxHeartbeats 2000000
namespace TG
open PySem PySem.Spec PyProof.Rows L2
open Evl (Ex ex_l ex_t fresh_back)
section
variable {P : Program} {w : World} {K : PySem.W.Frag} {mg : Str → Option Value} {base : Heap} {CR CD : Addr}
open VametBase (readStep readNat readInt readProgram readTimes readCond readRel readRelation readRow readListed readPair)
theorem ev_lenR {X : Cx} {σ : L2.St} {H : Hp} {a : Expr} {pos p : Pos} {f : Nat} {l : List Int} {x : Str} (hx : x = "len") (hm : X.mg x = none) (ha : EvE X a σ H (Isf f (dRow l))) (hg : Gl X x := by rfl) (hs : starEach [a] X.env = (false, eval a X.env) :: starEach [] X.env := by rfl) : EvE X (.Call (.Name x p) [a] [] pos) σ H (Is (dN l.length)) :=
  ev_as (ev_lenT hx hm ha hg hs) (by rw [List.length_map]; rfl)
/-! ### do_stand -/
def a_do_stand : List T → T → Prop := fun Ps R => ∃ (rl : VametBase.Rel) (a b : List Int), Ps = [Is (.int (VametBase.relNumber rl)), Is (dRow a), Is (dRow b)] ∧ a.length ≤ 1000 ∧ b.length ≤ 1000 ∧ R = Is (.bool (VametBase.stands rl a b))
theorem sc_do_stand : FnScope ["stands", "left", "right", "one", "other"] ["stands", "left", "right"] (defScope s_do_stand) := ⟨rfl, rfl, rfl, by decide +kernel, rfl, by decide +kernel, by decide +kernel⟩
theorem d_do_stand (t : Txt K mg CR CD) : Def P w K mg base 1 "do_stand" ["stands", "left", "right"] (Prom a_do_stand) := by
  refine def_of t.f_do_stand sc_do_stand (fun _ _ ⟨_, _, _, h, _⟩ => h ▸ rfl) (fun _ _ _ _ _ _ us hl => match us, hl with | [_, _, _], _ => rfl) ?_
  intro f cdv A0 outer s H E vs Ps R Q hr hA ap hq
  obtain ⟨rl, a, b, rfl, hla, hlb, rfl⟩ := hA
  obtain ⟨v, u, z, rfl, hv, hu, hz⟩ := allP3 ap
  refine go_ifr (et_eq (vr 0 hv) (ev_glob t.c_EQUAL)) (fun h0 H1 e1 => ?_) (fun h0 H1 e1 => ?_)
  · obtain rfl : rl = .equal := by cases rl <;> simp [VametBase.relNumber] at h0 ⊢
    refine go_ret (ev_eqD (f := 0) (g := 0) hr.units (vr 1 (hu.ex' e1)) (vr 2 (hz.ex' e1)) ((fine_row _).sh (by omega)) ((fine_row _).sh (by omega))) fun v7 H7 e7 h7 => hq v7 H7 (e1.trans e7) ?_
    rw [eqv_row] at h7
    have : decide (a = b) = (a == b) := by by_cases h : a = b <;> simp [h]
    rw [this] at h7
    exact h7
  replace hv := hv.ex' e1
  replace hu := hu.ex' e1
  replace hz := hz.ex' e1
  refine go_ifr (et_eq (vr 0 hv) (ev_glob t.c_BAG)) (fun h1 H2 e2 => ?_) (fun h1 H2 e2 => ?_)
  · obtain rfl : rl = .bag := by cases rl <;> simp [VametBase.relNumber] at h1 ⊢
    refine go_ret (ev_eqD (f := 0) (g := 0) (d1 := dInts (VametBase.sorted a)) (d2 := dInts (VametBase.sorted b)) hr.units (ev_sortedT t.b_sorted (vr 1 (hu.ex' e2))) (ev_sortedT t.b_sorted (vr 2 (hz.ex' e2))) ((fine_ints _).sh (by omega)) ((fine_ints _).sh (by omega))) fun v7 H7 e7 h7 => hq v7 H7 ((e1.trans e2).trans e7) ?_
    rw [eqv_ints] at h7
    have : decide (VametBase.sorted a = VametBase.sorted b) = (VametBase.sorted a == VametBase.sorted b) := by by_cases h : VametBase.sorted a = VametBase.sorted b <;> simp [h]
    rw [this] at h7
    exact h7
  replace hv := hv.ex' e2
  replace hu := hu.ex' e2
  replace hz := hz.ex' e2
  replace e2 := e1.trans e2
  refine go_ifr (et_eq (vr 0 hv) (ev_glob t.c_NUMBERS_relations)) (fun h2 H3 e3 => ?_) (fun h2 H3 e3 => ?_)
  · obtain rfl : rl = .numbers := by cases rl <;> simp [VametBase.relNumber] at h2 ⊢
    refine go_ret (ev_eqSet (k := a.all b.contains && b.all a.contains) hr.units0 (ev_set rfl t.b_set (vr 1 (hu.ex' e3)) hla) (ev_set rfl t.b_set (vr 2 (hz.ex' e3)) hlb) ?_) fun v7 H7 e7 h7 => hq v7 H7 ((e2.trans e3).trans e7) h7
    rw [Bool.and_eq_true_iff, List.all_eq_true, List.all_eq_true]
    constructor
    · rintro ⟨h1, h2⟩ i
      exact ⟨fun hi => by simpa using h1 i hi, fun hi => by simpa using h2 i hi⟩
    · intro h
      exact ⟨fun i hi => by simpa using (h i).mp hi, fun i hi => by simpa using (h i).mpr hi⟩
  replace hv := hv.ex' e3
  replace hu := hu.ex' e3
  replace hz := hz.ex' e3
  replace e3 := e2.trans e3
  refine go_ifr (et_eq (vr 0 hv) (ev_glob t.c_BEGINS)) (fun h3 H4 e4 => ?_) (fun h3 H4 e4 => ?_)
  · obtain rfl : rl = .begins := by cases rl <;> simp [VametBase.relNumber] at h3 ⊢
    refine go_ret (ev_eqD (f := 0) (g := 0) (d1 := dRow (cutD b none (some (a.length : Int)))) hr.units (ev_slR (x := none) (y := some (a.length : Int)) (vr 2 (hz.ex' e4)) eo_none (eo_some (ev_lenR rfl t.b_len (vr 1 (hu.ex' e4))))) (vr 1 (hu.ex' e4)) ((fine_row _).sh (by omega)) ((fine_row _).sh (by omega))) fun v7 H7 e7 h7 => hq v7 H7 ((e3.trans e4).trans e7) ?_
    rw [eqv_row, cut_to] at h7
    have : decide (b.take a.length = a) = a.isPrefixOf b := by
      cases h : a.isPrefixOf b with
      | true =>
        have := List.isPrefixOf_iff_prefix.mp h
        exact decide_eq_true (List.prefix_iff_eq_take.mp this).symm
      | false =>
        refine decide_eq_false fun z => ?_
        have : a <+: b := List.prefix_iff_eq_take.mpr z.symm
        rw [List.isPrefixOf_iff_prefix.mpr this] at h
        cases h
    rw [this] at h7
    exact h7
  replace hv := hv.ex' e4
  replace hu := hu.ex' e4
  replace hz := hz.ex' e4
  replace e4 := e3.trans e4
  have hlen : decide ((a.length : Int) = (b.length : Int)) = (a.length == b.length) := by
    rw [dec_int_nat]
    by_cases h : a.length = b.length <;> simp [h]
  refine go_ifr (et_ne (ev_lenR rfl t.b_len (vr 1 hu)) (ev_lenR rfl t.b_len (vr 2 hz))) (fun h4 H5 e5 => ?_) (fun h4 H5 e5 => ?_)
  · rw [hlen] at h4
    have h4 : (a.length == b.length) = false := by simpa using h4
    refine go_ret ev_bl fun v7 H7 e7 h7 => hq v7 H7 ((e4.trans e5).trans e7) ?_
    have : VametBase.stands rl a b = false := by
      cases rl <;> simp [VametBase.relNumber] at h0 h1 h2 h3
      · show (a.length == b.length && _) = false
        rw [h4]; rfl
      · show (a.length == b.length && _) = false
        rw [h4]; rfl
      · exact h4
    rw [this]
    exact h7
  rw [hlen] at h4
  have h4 : (a.length == b.length) = true := by simpa using h4
  replace hv := hv.ex' e5
  replace hu := hu.ex' e5
  replace hz := hz.ex' e5
  replace e5 := e4.trans e5
  refine go_ifr (et_eq (vr 0 hv) (ev_glob t.c_MOST)) (fun h5 H6 e6 => ?_) (fun h5 H6 e6 => ?_)
  · obtain rfl : rl = .most := by cases rl <;> simp [VametBase.relNumber] at h5 ⊢
    refine go_ret (ev_all (f := 0) (bs := (a.zip b).map fun x => decide (x.1 ≤ x.2)) rfl t.b_all ?_) fun v7 H7 e7 h7 => hq v7 H7 ((e5.trans e6).trans e7) ?_
    · rw [List.map_map]
      exact ev_lcP (f := 0) (g := 0) (l := a) (m := b) (enc := .int) (enc2 := .int) (F := fun x => .bool (decide (x.1 ≤ x.2))) (j := 3) (k := 4) rfl sc_do_stand.nd (src_zip t.b_zip (vr 1 (hu.ex' e6)) (vr 2 (hz.ex' e6))) (blkOk_by (N := ["stands", "left", "right", "one", "other"]) (sc := defScope s_do_stand) (by decide +kernel)) (by decide) (by omega) (fun _ _ => rfl) (fun _ _ _ _ _ => pg2 rfl sc_do_stand.nd) (fun y hy H7 w x e7 hw hx => fun s' H0 C cl fp => ev_le (vr 3 hw) (vr 4 hx))
    · rw [List.all_map] at h7
      show IsD 0 H7 (.bool (a.length == b.length && _)) v7
      rw [h4, Bool.true_and]
      exact h7
  refine go_ifr (et_eq (vr 0 (hv.ex' e6)) (ev_glob t.c_LEAST_relations)) (fun h6 H7 e7 => ?_) (fun h6 H7 e7 => ?_)
  · obtain rfl : rl = .least := by cases rl <;> simp [VametBase.relNumber] at h6 ⊢
    refine go_ret (ev_all (f := 0) (bs := (a.zip b).map fun x => decide (x.2 ≤ x.1)) rfl t.b_all ?_) fun v8 H8 e8 h8 => hq v8 H8 ((e5.trans e6).trans (e7.trans e8)) ?_
    · rw [List.map_map]
      exact ev_lcP (f := 0) (g := 0) (l := a) (m := b) (enc := .int) (enc2 := .int) (F := fun x => .bool (decide (x.2 ≤ x.1))) (j := 3) (k := 4) rfl sc_do_stand.nd (src_zip t.b_zip (vr 1 ((hu.ex' e6).ex' e7)) (vr 2 ((hz.ex' e6).ex' e7))) (blkOk_by (N := ["stands", "left", "right", "one", "other"]) (sc := defScope s_do_stand) (by decide +kernel)) (by decide) (by omega) (fun _ _ => rfl) (fun _ _ _ _ _ => pg2 rfl sc_do_stand.nd) (fun y hy H8 w x e8 hw hx => fun s' H0 C cl fp => ev_ge (vr 3 hw) (vr 4 hx))
    · rw [List.all_map] at h8
      show IsD 0 H8 (.bool (a.length == b.length && _)) v8
      rw [h4, Bool.true_and]
      exact h8
  · obtain rfl : rl = .long := by cases rl <;> simp [VametBase.relNumber] at h0 h1 h2 h3 h5 h6 ⊢
    refine go_ret ev_bl fun v8 H8 e8 h8 => hq v8 H8 ((e5.trans e6).trans (e7.trans e8)) ?_
    show IsD 0 H8 (.bool (a.length == b.length)) v8
    rw [h4]
    exact h8
/-! ### how -/
def vN : VametBase.Verdict → Int
  | .kept => 0
  | .broken => 1
  | .off => 2
theorem run_len : ∀ (p : VametBase.Program) {r r' : List Int}, r.length ≤ 40 → VametBase.run p r = some r' → r'.length ≤ 40
  | [], r, r', h, e => by
    have e : some r = some r' := e
    injection e with e
    rw [← e]; exact h
  | s :: p, r, r', h, e => by
    have e : (if VametBase.within (VametBase.done s r) then VametBase.run p (VametBase.done s r) else none) = some r' := e
    split at e
    · rename_i hw
      exact run_len p (within_len hw) e
    · cases e
structure okRel (q : VametBase.Relation) : Prop where
  i : okProg q.input
  o : okProg q.output
  li : q.input.length ≤ 8
  lo : q.output.length ≤ 8
theorem nonP_opt (o : Option (List Int)) : nonP (dOpt o) = o.isNone := by cases o <;> rfl
def a_how (CR : Addr) : List T → T → Prop := fun Ps R => ∃ (q : VametBase.Relation) (p : VametBase.Program) (r : List Int), Ps = [RelP CR q, Is (dProg p), Is (dRow r)] ∧ okRel q ∧ okProg p ∧ r.length ≤ 40 ∧ R = Is (.int (vN (VametBase.verdict p q r)))
theorem sc_how : FnScope ["relation", "program", "row", "outcome", "before", "left", "right"] ["relation", "program", "row"] (defScope s_how) := ⟨rfl, rfl, rfl, by decide +kernel, rfl, by decide +kernel, by decide +kernel⟩
theorem d_how (t : Txt K mg CR CD) : Def P w K mg base 5 "how" ["relation", "program", "row"] (Prom (a_how CR)) := by
  refine def_of t.f_how sc_how (fun _ _ ⟨_, _, _, h, _⟩ => h ▸ rfl) (fun _ _ _ _ _ _ us hl => match us, hl with | [_, _, _], _ => rfl) ?_
  intro f cdv A0 outer s H E vs Ps R Q hr hA ap hq
  obtain ⟨q, p, r, rfl, hok, hp, hl, rfl⟩ := hA
  obtain ⟨v, u, z, rfl, hv, hu, hz⟩ := allP3 ap
  have mono : ∀ {H H' : Hp} {v : V}, Ex H H' → RelP CR q H v → RelP CR q H' v := fun e h => Sta.mono e h
  have hsd : VametBase.verdict p q r = (match VametBase.sides p q r with | none => .off | some s => if VametBase.stands q.rel s.left s.right then .kept else .broken) := rfl
  unfold VametBase.sides at hsd
  refine go_ifr (et_not (et_val (ev_meth (d_Relation_holds (P := P) (w := w) (base := base) t) (hr.mono (by omega)) (vrP 0 (RelP CR q) hv) (fun H1 v ⟨x, dx, fs, vb, va, h0, h1, h2, h3, h4, h5, h6, h7, h8, h9⟩ => ⟨x, dx, fs, h0, h1, h9⟩) (ea_cons (vr 2 hz) ea_nil) ⟨q, r, rfl, by omega, rfl⟩))) (fun h0 H1 e1 => ?_) (fun h0 H1 e1 => ?_)
  · rw [if_pos h0] at hsd
    rw [hsd] at hq
    exact go_ret (ev_glob t.c_OFF) fun v7 H7 e7 h7 => hq v7 H7 (e1.trans e7) h7
  rw [if_neg (by rw [h0]; exact Bool.false_ne_true)] at hsd
  replace hv := mono e1 hv
  replace hu := hu.ex' e1
  replace hz := hz.ex' e1
  refine go_set (n := 3) (ev_call (d_run t) (hr.mono (by omega)) (ea_cons (vr 1 hu) (ea_cons (vr 2 hz) ea_nil)) ⟨p, r, rfl, hp, hl, rfl⟩) (fun ov H2 e2 ho => ?_) sc_how.nd
  replace hv := mono e2 hv
  replace hu := hu.ex' e2
  replace hz := hz.ex' e2
  refine go_set (n := 4) (ev_call (d_run t) (hr.mono (by omega)) (ea_cons (ev_rbefore t (vrP 0 (RelP CR q) hv)) (ea_cons (vr 2 hz) ea_nil)) ⟨q.input, r, rfl, hok.i, hl, rfl⟩) (fun bv H3 e3 hb => ?_) sc_how.nd
  replace hv := mono e3 hv
  replace hu := hu.ex' e3
  replace hz := hz.ex' e3
  replace ho := ho.ex' e3
  replace e3 := (e1.trans e2).trans e3
  refine go_ifr (et_or (et_as (et_isN (vr 3 ho)) (nonP_opt _)) (fun _ => et_or1 (et_as (et_isN (vr 4 hb)) (nonP_opt _)))).et (fun h1 H4 e4 => ?_) (fun h1 H4 e4 => ?_)
  · have : VametBase.verdict p q r = .off := by
      rw [hsd]
      cases h2 : VametBase.run p r with
      | none => rfl
      | some y =>
        cases h3 : VametBase.run q.input r with
        | none => rfl
        | some w => rw [h2, h3] at h1; cases h1
    rw [this] at hq
    exact go_ret (ev_glob t.c_OFF) fun v7 H7 e7 h7 => hq v7 H7 ((e3.trans e4).trans e7) h7
  obtain ⟨g1, g2⟩ := Bool.or_eq_false_iff.mp h1
  cases h2 : VametBase.run p r with
  | none => rw [h2] at g1; cases g1
  | some y =>
  cases h3 : VametBase.run q.input r with
  | none => rw [h3] at g2; cases g2
  | some b =>
  rw [h2, h3] at hsd
  rw [h2] at ho
  rw [h3] at hb
  have hy := run_len p hl h2
  have hbl := run_len q.input hl h3
  replace hv := mono e4 hv
  replace hu := hu.ex' e4
  replace ho : IsD 0 H4 (dRow y) ov := ho.ex' e4
  replace hb : IsD 0 H4 (dRow b) bv := hb.ex' e4
  replace e4 := e3.trans e4
  refine go_set (n := 5) (ev_call (d_run t) (hr.mono (by omega)) (ea_cons (vr 1 hu) (ea_cons (vr 4 hb) ea_nil)) ⟨p, b, rfl, hp, hbl, rfl⟩) (fun lv H5 e5 hlv => ?_) sc_how.nd
  replace hv := mono e5 hv
  replace ho := ho.ex' e5
  refine go_set (n := 6) (ev_call (d_run t) (hr.mono (by omega)) (ea_cons (ev_rafter t (vrP 0 (RelP CR q) hv)) (ea_cons (vr 3 ho) ea_nil)) ⟨q.output, y, rfl, hok.o, hy, rfl⟩) (fun rv H6 e6 hrv => ?_) sc_how.nd
  replace hv := mono e6 hv
  replace hlv := hlv.ex' e6
  replace e6 := (e4.trans e5).trans e6
  refine go_ifr (et_or (et_as (et_isN (vr 5 hlv)) (nonP_opt _)) (fun _ => et_or1 (et_as (et_isN (vr 6 hrv)) (nonP_opt _)))).et (fun h4 H7 e7 => ?_) (fun h4 H7 e7 => ?_)
  · have : VametBase.verdict p q r = .off := by
      rw [hsd]
      show (match ((VametBase.run p b).bind fun v => (VametBase.run q.output y).map fun z => (⟨v, z⟩ : VametBase.Sides)) with | none => VametBase.Verdict.off | some s => if VametBase.stands q.rel s.left s.right then .kept else .broken) = .off
      cases h5 : VametBase.run p b with
      | none => rfl
      | some c =>
        cases h6 : VametBase.run q.output y with
        | none => rfl
        | some d => rw [h5, h6] at h4; cases h4
    rw [this] at hq
    exact go_ret (ev_glob t.c_OFF) fun v7 H8 e8 h7 => hq v7 H8 ((e6.trans e7).trans e8) h7
  obtain ⟨g3, g4⟩ := Bool.or_eq_false_iff.mp h4
  cases h5 : VametBase.run p b with
  | none => rw [h5] at g3; cases g3
  | some c =>
  cases h6 : VametBase.run q.output y with
  | none => rw [h6] at g4; cases g4
  | some d =>
  rw [h5] at hlv
  rw [h6] at hrv
  have hc := run_len p hbl h5
  have hd := run_len q.output hy h6
  have hver : VametBase.verdict p q r = if VametBase.stands q.rel c d then .kept else .broken := by
    rw [hsd]
    show (match ((VametBase.run p b).bind fun v => (VametBase.run q.output y).map fun z => (⟨v, z⟩ : VametBase.Sides)) with | none => VametBase.Verdict.off | some s => if VametBase.stands q.rel s.left s.right then .kept else .broken) = _
    rw [h5, h6]
    rfl
  refine go_ret (ev_ixL (f := 0) (ds := [.int 1, .int 0]) (d := .int (vN (VametBase.verdict p q r))) (ev_lst (f := 0) (ds := [.int 1, .int 0]) (ea_cons (ev_glob t.c_BROKEN) (ea_cons (ev_glob t.c_KEPT) ea_nil)) (by show 2 ≤ 1000; omega)) (ev_intB t.b_int (ev_call (d_do_stand t) (hr.mono (by omega)) (ea_cons (ev_rstands t (vrP 0 (RelP CR q) (mono e7 hv))) (ea_cons (vr 5 (show IsD 0 H7 (dRow c) lv from hlv.ex' e7)) (ea_cons (vr 6 (show IsD 0 H7 (dRow d) rv from hrv.ex' e7)) ea_nil))) ⟨q.rel, c, d, rfl, by omega, by omega, rfl⟩)) ?_) fun v8 H8 e8 h8 => hq v8 H8 ((e6.trans e7).trans e8) h8
  rw [hver]
  cases VametBase.stands q.rel c d <;> rfl
end
end TG
set_option Elab.async false
set_option linter.all false
set_option maxRecDepth 100000
set_option maxHeartbeats 2000000
namespace TG
open PySem PySem.Spec PyProof.Rows L2
open Evl (Ex ex_l ex_t fresh_back)
section
variable {P : Program} {w : World} {K : PySem.W.Frag} {mg : Str → Option Value} {base : Heap} {CR CD : Addr}
open VametBase (readStep readNat readInt readProgram readTimes readCond readRel readRelation readRow readListed readPair)
/-- a relation object, or None -/
def RelO (CR : Addr) : Option VametBase.Relation → T
  | none => Is .none
  | some q => RelP CR q
instance (CR : Addr) (o : Option VametBase.Relation) : Sta (RelO CR o) := ⟨fun e h => by
  cases o with
  | none => exact IsD.ex e _ _ h
  | some q => exact Sta.mono (P := RelP CR q) e h⟩
/-! ### chained -/
theorem rel_eq0 (rl : VametBase.Rel) : decide (VametBase.relNumber rl = 0) = decide (rl = .equal) := by cases rl <;> rfl
theorem cond_eq0 (c : VametBase.Cond) : decide (condN c = 0) = decide (c = .any) := by
  cases c <;> first | rfl | (simp [condN])
def a_chained (CR : Addr) : List T → T → Prop := fun Ps R => ∃ (r q : VametBase.Relation), Ps = [RelP CR r, RelP CR q] ∧ R = RelO CR (Vamete.chained r q)
theorem sc_chained : FnScope ["one", "other"] ["one", "other"] (defScope s_chained) := ⟨rfl, rfl, rfl, by decide +kernel, rfl, by decide +kernel, by decide +kernel⟩
theorem d_chained (t : Txt K mg CR CD) : Def P w K mg base 3 "chained" ["one", "other"] (Prom (a_chained CR)) := by
  refine def_of t.f_chained sc_chained (fun _ _ ⟨_, _, h, _⟩ => h ▸ rfl) (fun _ _ _ _ _ _ us hl => match us, hl with | [_, _], _ => rfl) ?_
  intro f cdv A0 outer s H E vs Ps R Q hr hA ap hq
  obtain ⟨r, q, rfl, rfl⟩ := hA
  obtain ⟨v, u, rfl, hv, hu⟩ := allP2 ap
  have mono : ∀ {H H' : Hp} {v : V} {q : VametBase.Relation}, Ex H H' → RelP CR q H v → RelP CR q H' v := fun e h => Sta.mono e h
  have hch : Vamete.chained r q = if r.rel = .equal ∧ q.rel = .equal ∧ r.output = q.input ∧ q.cond = .any then some ⟨r.cond, r.input, .equal, q.output⟩ else none := rfl
  refine go_ifr (k := !decide (r.rel = .equal) || (!decide (q.rel = .equal) || (!decide (r.output = q.input) || !decide (q.cond = .any)))) (et_or (et_as (et_ne (ev_rstands t (vrP 0 (RelP CR r) hv)) (ev_glob t.c_EQUAL)) (by rw [rel_eq0])) (fun _ => et_or (et_as (et_ne (ev_rstands t (vrP 1 (RelP CR q) hu)) (ev_glob t.c_EQUAL)) (by rw [rel_eq0])) (fun _ => et_or (et_as (et_neD (f := 0) (g := 0) hr.units (ev_rafter t (vrP 0 (RelP CR r) hv)) (ev_rbefore t (vrP 1 (RelP CR q) hu)) ((fine_prog _).sh (by omega)) ((fine_prog _).sh (by omega))) (by rw [eqv_prog])) (fun _ => et_or1 (et_as (et_ne (ev_rcond t (vrP 1 (RelP CR q) hu)) (ev_glob t.c_ANY)) (by rw [cond_eq0])))))).et (fun h H1 e1 => ?_) (fun h H1 e1 => ?_)
  · have : Vamete.chained r q = none := by
      rw [hch, if_neg]
      rintro ⟨a, b, c, d⟩
      rw [a, b, c, d] at h
      simp at h
    rw [this] at hq
    exact go_ret ev_non fun v7 H7 e7 h7 => hq v7 H7 (e1.trans e7) h7
  · obtain ⟨a, h⟩ := Bool.or_eq_false_iff.mp h
    obtain ⟨b, h⟩ := Bool.or_eq_false_iff.mp h
    obtain ⟨c, d⟩ := Bool.or_eq_false_iff.mp h
    have a : r.rel = .equal := by simpa using a
    have b : q.rel = .equal := by simpa using b
    have c : r.output = q.input := by simpa using c
    have d : q.cond = .any := by simpa using d
    rw [hch, if_pos ⟨a, b, c, d⟩] at hq
    have hv' := mono e1 hv
    have hu' := mono e1 hu
    refine go_ret (P := RelP CR ⟨r.cond, r.input, .equal, q.output⟩) (ev_mkRel (w := w) (q := ⟨r.cond, r.input, .equal, q.output⟩) t hr ?_) fun v7 H7 e7 h7 => hq v7 H7 (e1.trans e7) h7
    exact (ea_cons (ev_rcond (q := r) t (vrP 0 (RelP CR r) hv')) (ea_cons (ev_rown (q := r) t (vrP 0 (RelP CR r) hv')) (ea_cons (ev_rbefore (q := r) t (vrP 0 (RelP CR r) hv')) (ea_cons (ev_glob t.c_EQUAL) (ea_cons (ev_rafter (q := q) t (vrP 1 (RelP CR q) hu')) ea_nil)))))
/-! ### relation_of -/
def fin {A : Type} : Option (A × List Int) → Option A
  | some (u, []) => some u
  | _ => none
theorem whole_fin {A : Type} (rd : VametBase.Reader A) (l : List Int) : VametBase.whole rd l = fin (rd l) := by
  unfold VametBase.whole fin
  cases rd l with
  | none => rfl
  | some u =>
    obtain ⟨a, b⟩ := u
    cases b <;> rfl
theorem rel_unfold (l : List Int) : readRelation l = (readCond l).bind fun u => (readProgram u.2).bind fun v => (readRel v.2).bind fun w => (readProgram w.2).map fun y => ((⟨u.1, v.1, w.1, y.1⟩ : VametBase.Relation), y.2) := by
  unfold VametBase.readRelation VametBase.readPair
  rcases readCond l with _ | u
  · rfl
  simp only [Option.bind_some]
  rcases readProgram u.2 with _ | v
  · rfl
  simp only [Option.bind_some]
  rcases readRel v.2 with _ | w
  · rfl
  simp only [Option.bind_some]
  rcases readProgram w.2 with _ | y
  · rfl
  rfl
theorem cond_pos {l : List Int} {c : VametBase.Cond} {r : List Int} (h : readCond l = some (c, r)) : ∃ j, j ≤ l.length ∧ r = l.drop j := by
  cases l with
  | nil => cases h
  | cons z x =>
    cases hb : inB (some z) 0 5 with
    | false => rw [cond_bad hb] at h; cases h
    | true =>
      have h2 := inB_iff.mp hb
      by_cases h5 : z < 5
      · obtain ⟨c', g1, _⟩ := cond_plain hb h5
        rw [g1] at h
        injection h with h
        injection h with _ e2
        exact ⟨1, by rw [List.length_cons]; omega, e2.symm⟩
      · obtain rfl : z = 5 := by omega
        cases x with
        | nil => cases h
        | cons o r' =>
          rw [cond_five] at h
          split at h
          · injection h with h
            injection h with _ e2
            exact ⟨2, by rw [List.length_cons, List.length_cons]; omega, e2.symm⟩
          · cases h
theorem rel_read {l : List Int} {j : Nat} {z : Int} (h : l[j]? = some z) (hb : inB (some z) 0 6 = true) : ∃ rl, readRel (l.drop j) = some (rl, l.drop (j + 1)) ∧ VametBase.relNumber rl = z := by
  rw [drop_some h]
  have h2 := inB_iff.mp hb
  have : z = 0 ∨ z = 1 ∨ z = 2 ∨ z = 3 ∨ z = 4 ∨ z = 5 ∨ z = 6 := by omega
  rcases this with rfl | rfl | rfl | rfl | rfl | rfl | rfl
  · exact ⟨.equal, rfl, rfl⟩
  · exact ⟨.bag, rfl, rfl⟩
  · exact ⟨.numbers, rfl, rfl⟩
  · exact ⟨.most, rfl, rfl⟩
  · exact ⟨.least, rfl, rfl⟩
  · exact ⟨.begins, rfl, rfl⟩
  · exact ⟨.long, rfl, rfl⟩
theorem rel_bad {l : List Int} {j : Nat} (hb : inB (l[j]?) 0 6 = false) : readRel (l.drop j) = none := by
  cases h : l[j]? with
  | none => rw [drop_none h]; rfl
  | some z =>
    rw [h] at hb
    rw [drop_some h]
    have h := inB_not hb
    unfold VametBase.readRel
    split <;> first | rfl | (rename_i e; injection e with e1 _; omega) | (rename_i e _; injection e with e1 _; omega)
def a_relation_of (CR : Addr) : List T → T → Prop := fun Ps R => ∃ (l : List Int), Ps = [Is (dInts l)] ∧ R = RelO CR (VametBase.whole readRelation l)
theorem sc_relation_of : FnScope ["numbers", "condition", "before", "after"] ["numbers"] (defScope s_relation_of) := ⟨rfl, rfl, rfl, by decide +kernel, rfl, by decide +kernel, by decide +kernel⟩
theorem d_relation_of (t : Txt K mg CR CD) : Def P w K mg base 5 "relation_of" ["numbers"] (Prom (a_relation_of CR)) := by
  refine def_of t.f_relation_of sc_relation_of (fun _ _ ⟨_, h, _⟩ => h ▸ rfl) (fun _ _ _ _ _ _ us hl => match us, hl with | [_], _ => rfl) ?_
  intro f cdv A0 outer s H E vs Ps R Q hr hA ap hq
  obtain ⟨l, rfl, rfl⟩ := hA
  obtain ⟨v, rfl, hv⟩ := allP1 ap
  have hwh := whole_fin readRelation l
  rw [rel_unfold] at hwh
  refine go_set (n := 1) (ev_call (d_condition_at t) (hr.mono (by omega)) (ea_cons (vr 0 hv) ea_nil) ⟨l, rfl, rfl⟩) (fun cv H1 e1 hc => ?_) sc_relation_of.nd
  replace hv := hv.ex' e1
  unfold dCondAt at hc
  cases h1 : readCond l with
  | none =>
    rw [h1] at hc hwh
    rw [hwh] at hq
    refine go_ifr (et_as (et_isN (vr 1 hc)) (k' := true) rfl) (fun _ H2 e2 => ?_) (fun h H2 e2 => absurd h (by decide))
    exact go_ret ev_non fun v7 H7 e7 h7 => hq v7 H7 ((e1.trans e2).trans e7) h7
  | some cr =>
  obtain ⟨c, r1⟩ := cr
  obtain ⟨j1, hj1, rfl⟩ := cond_pos h1
  rw [h1] at hc hwh
  replace hc : IsD 0 H1 (.tuple [.int (condN c), .int (condO c), dN (l.length - (l.drop j1).length)]) cv := hc
  rw [drop_place hj1] at hc
  refine go_ifr (et_as (et_isN (vr 1 hc)) (k' := false) rfl) (fun h H2 e2 => absurd h (by decide)) (fun _ H2 e2 => ?_)
  replace hv := hv.ex' e2
  replace hc := hc.ex' e2
  replace e2 := e1.trans e2
  refine go_set (n := 2) (ev_call (d_program_at t) (hr.mono (by omega)) (ea_cons (vr 0 hv) (ea_cons (ev_ixT (f := 0) (d := dN j1) (vr 1 hc) (ev_int (k := 2)) rfl) ea_nil)) ⟨l, j1, rfl, rfl⟩) (fun bv H3 e3 hb => ?_) sc_relation_of.nd
  replace hv := hv.ex' e3
  replace hc := hc.ex' e3
  replace e3 := e2.trans e3
  unfold dProgAt at hb
  cases h2 : readProgram (l.drop j1) with
  | none =>
    rw [h2] at hb
    have hwh : VametBase.whole readRelation l = none := by
      rw [hwh]
      show fin ((readProgram (l.drop j1)).bind fun v => (readRel v.2).bind fun w => (readProgram w.2).map fun y => ((⟨c, v.1, w.1, y.1⟩ : VametBase.Relation), y.2)) = none
      rw [h2]; rfl
    rw [hwh] at hq
    refine go_ifr (et_or (k := true) (l := true) (et_as (et_isN (vr 2 hb)) rfl) (fun h => absurd h (by decide))).et (fun _ H4 e4 => ?_) (fun h H4 e4 => absurd h (by decide))
    exact go_ret ev_non fun v7 H7 e7 h7 => hq v7 H7 ((e3.trans e4).trans e7) h7
  | some pr =>
  obtain ⟨p, r2⟩ := pr
  obtain ⟨okp, lp, j2, hj2, hj2', rfl⟩ := prog_pos h2
  rw [h2] at hb
  replace hb : IsD 0 H3 (.tuple [dProg p, dN (l.length - (l.drop j2).length)]) bv := hb
  rw [drop_place hj2'] at hb
  have hwh : VametBase.whole readRelation l = fin ((readRel (l.drop j2)).bind fun w => (readProgram w.2).map fun y => ((⟨c, p, w.1, y.1⟩ : VametBase.Relation), y.2)) := by
    rw [hwh]
    show fin ((readProgram (l.drop j1)).bind fun v => (readRel v.2).bind fun w => (readProgram w.2).map fun y => ((⟨c, v.1, w.1, y.1⟩ : VametBase.Relation), y.2)) = _
    rw [h2]; rfl
  refine go_ifr (k := !inB (l[j2]?) 0 6) (et_or (k := false) (l := !inB (l[j2]?) 0 6) (et_as (et_isN (vr 2 hb)) rfl) (fun _ => et_or1 (et_not (et_val (ev_call (d_is_within t) (hr.mono (by omega)) (ea_cons (ev_call (d_number_at t) (hr.mono (by omega)) (ea_cons (vr 0 hv) (ea_cons (ev_ixT (f := 0) (d := dN j2) (vr 2 hb) (ev_int (k := 1)) rfl) ea_nil)) ⟨0, l, j2, rfl, rfl⟩) (ea_cons ev_int (ea_cons (ev_glob t.c_LONG) ea_nil))) ⟨l[j2]?, 0, 6, rfl, rfl⟩))))).et (fun h3 H4 e4 => ?_) (fun h3 H4 e4 => ?_)
  · have h3 : inB (l[j2]?) 0 6 = false := by simpa using h3
    rw [rel_bad h3] at hwh
    have hwh : VametBase.whole readRelation l = none := hwh
    rw [hwh] at hq
    exact go_ret ev_non fun v7 H7 e7 h7 => hq v7 H7 ((e3.trans e4).trans e7) h7
  have h3 : inB (l[j2]?) 0 6 = true := by simpa using h3
  cases hz : l[j2]? with
  | none => rw [hz] at h3; exact absurd h3 Bool.false_ne_true
  | some z =>
  rw [hz] at h3
  obtain ⟨rl, g1, g2⟩ := rel_read hz h3
  have hlz := getl hz
  rw [g1] at hwh
  replace hv := hv.ex' e4
  replace hc := hc.ex' e4
  replace hb := hb.ex' e4
  replace e4 := e3.trans e4
  refine go_set (n := 3) (ev_call (d_program_at t) (hr.mono (by omega)) (ea_cons (vr 0 hv) (ea_cons (ev_dN1 (k := 1) rfl (ev_ixT (f := 0) (d := dN j2) (vr 2 hb) (ev_int (k := 1)) rfl)) ea_nil)) ⟨l, j2 + 1, rfl, rfl⟩) (fun av H5 e5 ha => ?_) sc_relation_of.nd
  replace hv := hv.ex' e5
  replace hc := hc.ex' e5
  replace hb := hb.ex' e5
  replace e5 := e4.trans e5
  unfold dProgAt at ha
  have hwh : VametBase.whole readRelation l = fin ((readProgram (l.drop (j2 + 1))).map fun y => ((⟨c, p, rl, y.1⟩ : VametBase.Relation), y.2)) := hwh
  cases h4 : readProgram (l.drop (j2 + 1)) with
  | none =>
    rw [h4] at ha hwh
    have hwh : VametBase.whole readRelation l = none := hwh
    rw [hwh] at hq
    refine go_ifr (et_or (k := true) (l := true) (et_as (et_isN (vr 3 ha)) rfl) (fun h => absurd h (by decide))).et (fun _ H6 e6 => ?_) (fun h H6 e6 => absurd h (by decide))
    exact go_ret ev_non fun v7 H7 e7 h7 => hq v7 H7 ((e5.trans e6).trans e7) h7
  | some pr =>
  obtain ⟨p2, r3⟩ := pr
  obtain ⟨okp2, lp2, j3, hj3, hj3', rfl⟩ := prog_pos h4
  rw [h4] at ha hwh
  replace ha : IsD 0 H5 (.tuple [dProg p2, dN (l.length - (l.drop j3).length)]) av := ha
  rw [drop_place hj3'] at ha
  refine go_ifr (k := decide (j3 < l.length)) (et_or (k := false) (l := decide (j3 < l.length)) (et_as (et_isN (vr 3 ha)) rfl) (fun _ => et_or1 (et_as (et_lt (ev_ixT (f := 0) (d := dN j3) (vr 3 ha) (ev_int (k := 1)) rfl) (ev_lenL (f := 0) rfl t.b_len (vr 0 hv))) (by rw [List.length_map]; by_cases h : j3 < l.length <;> simp [h])))).et (fun h H6 e6 => ?_) (fun h H6 e6 => ?_)
  · have h : j3 < l.length := of_decide_eq_true h
    cases hd : l.drop j3 with
    | nil => have := List.drop_eq_nil_iff.mp hd; omega
    | cons a r =>
      rw [hd] at hwh
      have hwh : VametBase.whole readRelation l = none := hwh
      rw [hwh] at hq
      exact go_ret ev_non fun v7 H7 e7 h7 => hq v7 H7 ((e5.trans e6).trans e7) h7
  · have h : l.length ≤ j3 := by have := of_decide_eq_false h; omega
    rw [List.drop_eq_nil_of_le h] at hwh
    have hwh : VametBase.whole readRelation l = some ⟨c, p, rl, p2⟩ := hwh
    rw [hwh] at hq
    refine go_ret (P := RelP CR ⟨c, p, rl, p2⟩) (ev_mkRel (w := w) (q := ⟨c, p, rl, p2⟩) t (hr.mono (by omega)) ?_) fun v7 H7 e7 h7 => hq v7 H7 ((e5.trans e6).trans e7) h7
    refine (ea_cons (ev_ixT (f := 0) (d := .int (condN c)) (vr 1 (hc.ex' e6)) (ev_int (k := 0)) rfl) (ea_cons (ev_ixT (f := 0) (d := .int (condO c)) (vr 1 (hc.ex' e6)) (ev_int (k := 1)) rfl) (ea_cons (ev_ixT (f := 0) (d := dProg p) (vr 2 (hb.ex' e6)) (ev_int (k := 0)) rfl) (ea_cons ?_ (ea_cons (ev_ixT (f := 0) (d := dProg p2) (vr 3 (ha.ex' e6)) (ev_int (k := 0)) rfl) ea_nil)))))
    show EvE _ _ _ _ (Is (.int (VametBase.relNumber rl)))
    rw [g2]
    exact ev_ixL (f := 0) (d := .int z) (vr 0 (hv.ex' e6)) (ev_ixT (f := 0) (d := dN j2) (vr 2 (hb.ex' e6)) (ev_int (k := 1)) rfl) (atI_nat (at_of hz))
theorem rel_ok {l : List Int} {q : VametBase.Relation} (h : VametBase.whole readRelation l = some q) : okRel q := by
  have hwh := whole_fin readRelation l
  rw [rel_unfold] at hwh
  rw [h] at hwh
  cases h1 : readCond l with
  | none => rw [h1] at hwh; cases hwh
  | some cr =>
  obtain ⟨c, r1⟩ := cr
  obtain ⟨j1, hj1, rfl⟩ := cond_pos h1
  rw [h1] at hwh
  have hwh : some q = fin ((readProgram (l.drop j1)).bind fun v => (readRel v.2).bind fun w => (readProgram w.2).map fun y => ((⟨c, v.1, w.1, y.1⟩ : VametBase.Relation), y.2)) := hwh
  cases h2 : readProgram (l.drop j1) with
  | none => rw [h2] at hwh; cases hwh
  | some pr =>
  obtain ⟨p, r2⟩ := pr
  obtain ⟨okp, lp, j2, hj2, hj2', rfl⟩ := prog_pos h2
  rw [h2] at hwh
  have hwh : some q = fin ((readRel (l.drop j2)).bind fun w => (readProgram w.2).map fun y => ((⟨c, p, w.1, y.1⟩ : VametBase.Relation), y.2)) := hwh
  cases hb : inB (l[j2]?) 0 6 with
  | false => rw [rel_bad hb] at hwh; cases hwh
  | true =>
  cases hz : l[j2]? with
  | none => rw [hz] at hb; cases hb
  | some z =>
  rw [hz] at hb
  obtain ⟨rl, g1, g2⟩ := rel_read hz hb
  rw [g1] at hwh
  have hwh : some q = fin ((readProgram (l.drop (j2 + 1))).map fun y => ((⟨c, p, rl, y.1⟩ : VametBase.Relation), y.2)) := hwh
  cases h4 : readProgram (l.drop (j2 + 1)) with
  | none => rw [h4] at hwh; cases hwh
  | some pr =>
  obtain ⟨p2, r3⟩ := pr
  obtain ⟨okp2, lp2, j3, hj3, hj3', rfl⟩ := prog_pos h4
  rw [h4] at hwh
  have hwh : some q = fin (some ((⟨c, p, rl, p2⟩ : VametBase.Relation), l.drop j3)) := hwh
  cases hd : l.drop j3 with
  | nil =>
    rw [hd] at hwh
    have hwh : some q = some ⟨c, p, rl, p2⟩ := hwh
    injection hwh with e
    rw [e]
    exact ⟨okp, okp2, lp, lp2⟩
  | cons a r => rw [hd] at hwh; cases hwh
/-! ### relation_numbers -/
theorem flat_len (p : VametBase.Program) : (VametBase.flatProgram p).length ≤ 2 * p.length + 1 := by
  show (p.flatMap VametBase.flatStep).length + 1 ≤ _
  have : ∀ q : VametBase.Program, (q.flatMap VametBase.flatStep).length ≤ 2 * q.length := by
    intro q
    induction q with
    | nil => exact Nat.le_refl _
    | cons b q ih =>
      rw [List.flatMap_cons, List.length_append, List.length_cons, flat_step]
      have : (if hasOwn (stepN b) then [stepN b, stepO b] else [stepN b]).length ≤ 2 := by
        split
        · show 2 ≤ 2; omega
        · show 1 ≤ 2; omega
      omega
  have := this p
  omega
theorem flat_cond (c : VametBase.Cond) : VametBase.flatCond c = if condN c = 5 then [condN c, condO c] else [condN c] := by cases c <;> rfl
def a_relation_numbers (CR : Addr) : List T → T → Prop := fun Ps R => ∃ (q : VametBase.Relation), Ps = [RelP CR q] ∧ okRel q ∧ R = Is (dInts (VametBase.flatRelation q))
theorem sc_relation_numbers : FnScope ["relation", "found"] ["relation"] (defScope s_relation_numbers) := ⟨rfl, rfl, rfl, by decide +kernel, rfl, by decide +kernel, by decide +kernel⟩
theorem d_relation_numbers (t : Txt K mg CR CD) : Def P w K mg base 3 "relation_numbers" ["relation"] (Prom (a_relation_numbers CR)) := by
  refine def_of t.f_relation_numbers sc_relation_numbers (fun _ _ ⟨_, h, _⟩ => h ▸ rfl) (fun _ _ _ _ _ _ us hl => match us, hl with | [_], _ => rfl) ?_
  intro f cdv A0 outer s H E vs Ps R Q hr hA ap hq
  obtain ⟨q, rfl, ok, rfl⟩ := hA
  obtain ⟨v, rfl, hv⟩ := allP1 ap
  have mono : ∀ {H H' : Hp} {v : V} {q : VametBase.Relation}, Ex H H' → RelP CR q H v → RelP CR q H' v := fun e h => Sta.mono e h
  have hl1 := flat_len q.input
  have hl2 := flat_len q.output
  have hli := ok.li
  have hlo := ok.lo
  refine go_set (n := 1) (P := NewL 0 H [.int (condN q.cond)]) (ev_lstN (f := 0) (ds := [.int (condN q.cond)]) (ea_cons (ev_rcond t (vrP 0 (RelP CR q) hv)) ea_nil) (by show 1 ≤ 1000; omega)) (fun fv H1 e1 hf => ?_) sc_relation_numbers.nd
  obtain ⟨A, xs, rfl, hA0, hA, rA⟩ := hf
  have ac : Acc 0 H A [.int (condN q.cond)] H1 := ⟨e1, xs, hA, rA⟩
  have fin : ∀ H2, Acc 0 H A ((VametBase.flatCond q.cond).map .int) H2 → tSs (cxOf CX0 P w K mg base ["relation", "found"] "relation_numbers" (defScope s_relation_numbers) f cdv A0 outer s H E).nox ((defBody s_relation_numbers).drop 2) { nx := fun _ H' => Q .non H', rt := Q } [some v, some (.ref A)] H2 := fun H2 a2 => by
    have hlc : (VametBase.flatCond q.cond).length ≤ 2 := by
      rw [flat_cond]
      split
      · show 2 ≤ 2; omega
      · show 1 ≤ 2; omega
    refine go_ret (ev_catI (f := 0) (l := VametBase.flatCond q.cond ++ VametBase.flatProgram q.input ++ [VametBase.relNumber q.rel]) (m := VametBase.flatProgram q.output) (ev_catI (f := 0) (l := VametBase.flatCond q.cond ++ VametBase.flatProgram q.input) (m := [VametBase.relNumber q.rel]) (ev_catI (f := 0) (l := VametBase.flatCond q.cond) (m := VametBase.flatProgram q.input) (vrP 1 (Is (dInts (VametBase.flatCond q.cond))) a2.is) (ev_call (d_program_numbers t) (hr.mono (by omega)) (ea_cons (ev_rbefore t (vrP 0 (RelP CR q) (mono a2.ex hv))) ea_nil) ⟨q.input, rfl, by omega, rfl⟩) (by omega)) (ev_lst (f := 0) (ds := [.int (VametBase.relNumber q.rel)]) (ea_cons (ev_rstands t (vrP 0 (RelP CR q) (mono a2.ex hv))) ea_nil) (by show 1 ≤ 1000; omega)) (by rw [List.length_append]; show _ + 1 ≤ _; omega)) (ev_call (d_program_numbers t) (hr.mono (by omega)) (ea_cons (ev_rafter t (vrP 0 (RelP CR q) (mono a2.ex hv))) ea_nil) ⟨q.output, rfl, by omega, rfl⟩) (by rw [List.length_append, List.length_append]; show _ + 1 + _ ≤ _; omega)) fun v7 H7 e7 h7 => hq v7 H7 (a2.ex.trans e7) ?_
    rw [List.append_assoc, List.append_assoc] at h7
    exact h7
  refine go_if (et_eq (ev_rcond t (vrP 0 (RelP CR q) (mono e1 hv))) (ev_glob t.c_AS_MANY)) (fun h H2 e2 => ?_) (fun h H2 e2 => ?_)
  · refine go_accApp hA0 (ac.up e2) (vrR 1 A) (ev_rown t (vrP 0 (RelP CR q) (mono (e1.trans e2) hv))) (by show 1 < 100000; omega) rfl rfl (fun H3 a3 _ => go_nil (fin H3 ?_))
    rw [flat_cond, if_pos (of_decide_eq_true h)]
    exact a3
  · refine go_nil (fin H2 ?_)
    rw [flat_cond, if_neg (of_decide_eq_false h)]
    exact ac.up e2
end
end TG
set_option Elab.async false
set_option linter.all false
set_option maxRecDepth 100000
set_option maxHeartbeats 2000000
namespace TG
open PySem PySem.Spec PyProof.Rows L2
open Evl (Ex ex_l ex_t fresh_back)
section
variable {P : Program} {w : World} {K : PySem.W.Frag} {mg : Str → Option Value} {base : Heap} {CR CD : Addr}
/-! ### the desk -/
def okSt (st : Vamete.State) : Prop := st.places ≤ 4 ∧ st.high ≤ 9 ∧ (2 * st.high + 1) ^ st.places ≤ 130 ∧ okProg st.first ∧ okProg st.second ∧ st.first.length ≤ 8 ∧ st.second.length ≤ 8
def deskF (n : Nat) (rv tv : V) (pl : Addr) : List (Str × V) := [("places", .int (n : Int)), ("rows", rv), ("turns", tv), ("programs", .ref pl)]
def dTurnsOf (n : Nat) : PyData := .list ((Vamete.allTurns n).map dT)
def dRowsOf (st : Vamete.State) : PyData := .list ((pRows st.high st.places).map dRow)
def DeskAt (CD : Addr) (H : Hp) (x pl : Addr) (st : Vamete.State) : Prop := ∃ dx rv tv a0 a1, H x = some (.ins CD dx (deskF st.places rv tv pl)) ∧ IsD 0 H (dRowsOf st) rv ∧ IsD 2 H (dTurnsOf st.places) tv ∧ H pl = some (.lst [a0, a1]) ∧ IsD 0 H (dProg st.first) a0 ∧ IsD 0 H (dProg st.second) a1
def DeskP (CD : Addr) (st : Vamete.State) : T := fun H v => ∃ x pl, v = .ref x ∧ DeskAt CD H x pl st
theorem DeskAt.ex {CD x pl : Addr} {H H' : Hp} {st : Vamete.State} (h : DeskAt CD H x pl st) (e : Ex H H') : DeskAt CD H' x pl st := by
  obtain ⟨dx, rv, tv, a0, a1, h1, h2, h3, h4, h5, h6⟩ := h
  exact ⟨dx, rv, tv, a0, a1, e _ _ h1, h2.ex' e, h3.ex' e, e _ _ h4, h5.ex' e, h6.ex' e⟩
instance (CD : Addr) (st : Vamete.State) : Sta (DeskP CD st) := ⟨fun e ⟨x, pl, h0, h⟩ => ⟨x, pl, h0, h.ex e⟩⟩
section
variable {X : Cx} {σ : L2.St} {H : Hp} {o e : Expr} {es : List Expr} {pos apos cpos : Pos} {st : Vamete.State} {K : PySem.W.Frag} {mg : Str → Option Value} {CR CD : Addr} {f : Nat}
theorem ev_dplaces (t : Txt X.K mg CR CD) (ho : EvE X o σ H (DeskP CD st)) (hb : attributeBase o "places" X.env (eval o X.env) = eval o X.env := by rfl) : EvE X (.Attribute o "places" pos) σ H (Is (dN st.places)) :=
  ev_fld ho (fun H1 v _ ⟨x, pl, h0, dx, rv, tv, a0, a1, h1, h2, h3, h4, h5, h6⟩ => ⟨x, CD, dx, _, _, h0, h1, t.cl_Desk, t.n_Desk_places, rfl, .int _⟩) hb
theorem ev_drows (t : Txt X.K mg CR CD) (ho : EvE X o σ H (DeskP CD st)) (hb : attributeBase o "rows" X.env (eval o X.env) = eval o X.env := by rfl) : EvE X (.Attribute o "rows" pos) σ H (Is (dRowsOf st)) :=
  ev_fld ho (fun H1 v _ ⟨x, pl, h0, dx, rv, tv, a0, a1, h1, h2, h3, h4, h5, h6⟩ => ⟨x, CD, dx, _, _, h0, h1, t.cl_Desk, t.n_Desk_rows, rfl, h2⟩) hb
theorem ev_dturns (t : Txt X.K mg CR CD) (ho : EvE X o σ H (DeskP CD st)) (hb : attributeBase o "turns" X.env (eval o X.env) = eval o X.env := by rfl) : EvE X (.Attribute o "turns" pos) σ H (Isf 2 (dTurnsOf st.places)) :=
  ev_fld ho (fun H1 v _ ⟨x, pl, h0, dx, rv, tv, a0, a1, h1, h2, h3, h4, h5, h6⟩ => ⟨x, CD, dx, _, _, h0, h1, t.cl_Desk, t.n_Desk_turns, rfl, h3⟩) hb
theorem ev_dprogs (t : Txt X.K mg CR CD) (ho : EvE X o σ H (DeskP CD st)) (hb : attributeBase o "programs" X.env (eval o X.env) = eval o X.env := by rfl) : EvE X (.Attribute o "programs" pos) σ H (Is (.list [dProg st.first, dProg st.second])) :=
  ev_fld ho (fun H1 v _ ⟨x, pl, h0, dx, rv, tv, a0, a1, h1, h2, h3, h4, h5, h6⟩ => ⟨x, CD, dx, _, _, h0, h1, t.cl_Desk, t.n_Desk_programs, rfl, .lst h4 (.cons h5 (.cons h6 .nil))⟩) hb
theorem desk_ins {m : Str} (hm : ∀ n rv tv pl, (deskF n rv tv pl).lookup m = none) (H1 : Hp) (v : V) (h : DeskP CD st H1 v) : ∃ p dx fs, v = .ref p ∧ H1 p = some (.ins CD dx fs) ∧ fs.lookup m = none := by
  obtain ⟨x, pl, h0, dx, rv, tv, a0, a1, h1, _⟩ := h
  exact ⟨x, dx, _, h0, h1, hm _ _ _ _⟩
/-- ts.index(t) -/
theorem ev_idxT {ts : List Vamete.Turn} {t : Vamete.Turn} {j g : Nat} (hu : X.A.units + 65 < cLine) (ho : EvE X o σ H (Isf f (.list (ts.map dT)))) (he : EvE X e σ H (Isf g (dT t))) (hj : ts[j]? = some t) (hno : ∀ m, m < j → ts[m]? ≠ some t)
    (hb : attributeBase o "index" X.env (eval o X.env) = eval o X.env := by rfl)
    (hfew : ((backTo cpos (starEach [e] X.env)).all (fun x => !x.1) && (backToKw cpos (keywordEach [] X.env)).all (fun x => x.1.isSome)
      && decide (([e] : List Expr).length + ([] : List Keyword).length + (if ([] : List Keyword).isEmpty then 0 else 1) < 30)) = true := by rfl)
    (hline : (apos.endLine == cpos.line) = true := by rfl) (hs : starEach [e] X.env = (false, eval e X.env) :: starEach [] X.env := by rfl) (hpl : (backTo cpos (starEach [] X.env)).any (·.1) = false := by rfl) : EvE X (.Call (.Attribute o "index" apos) [e] [] cpos) σ H (Is (dN j)) := fun H1 e1 Q q =>
  w_E (pe_bm PySem.F.plainAttrs_list PySem.F.slot_list_index PySem.F.type_list_index (mt_indexD hu) (pE o) (pa_cons (pE e) pa_nil hs) hb hfew hline hs hpl) (ho H1 e1 _ fun v H2 e2 p => by
    obtain ⟨A, xs, rfl, hA, r⟩ := is_list p
    refine ⟨Or.inl ⟨rfl, xs, SqL.of hA⟩, he H2 (e1.trans e2) _ fun y H3 e3 py => ?_⟩
    have hsh : SeqAt.shaped (.list (ts.map dT)) = true := (fine_lst (fine_map fine_turn ts)).sh (by omega)
    refine ⟨A, y, dT t, ts.map dT, j, dT t, rfl, rfl, IsD.dp _ _ (IsD.ex e3 _ _ p), IsD.dp _ _ py, hsh, (fine_turn t).sh (by omega), by rw [List.getElem?_map, hj]; rfl, by rw [eqv_turn]; simp, fun m z' hm hz => ?_, q _ H3 (e2.trans e3) (.int _)⟩
    rw [List.getElem?_map] at hz
    obtain ⟨u, hu', rfl⟩ := Option.map_eq_some_iff.mp hz
    rw [eqv_turn]
    exact decide_eq_false fun z => hno m hm (by rw [hu', z]))
/-- xs.count(k) -/
theorem ev_countI {l : List Int} {k : Int} (ho : EvE X o σ H (Is (dInts l))) (he : EvE X e σ H (Is (.int k)))
    (hb : attributeBase o "count" X.env (eval o X.env) = eval o X.env := by rfl)
    (hfew : ((backTo cpos (starEach [e] X.env)).all (fun x => !x.1) && (backToKw cpos (keywordEach [] X.env)).all (fun x => x.1.isSome)
      && decide (([e] : List Expr).length + ([] : List Keyword).length + (if ([] : List Keyword).isEmpty then 0 else 1) < 30)) = true := by rfl)
    (hline : (apos.endLine == cpos.line) = true := by rfl) (hs : starEach [e] X.env = (false, eval e X.env) :: starEach [] X.env := by rfl) (hpl : (backTo cpos (starEach [] X.env)).any (·.1) = false := by rfl) : EvE X (.Call (.Attribute o "count" apos) [e] [] cpos) σ H (Is (dN (l.count k))) := fun H1 e1 Q q =>
  w_E (pe_bm PySem.F.plainAttrs_list PySem.F.slot_list_count PySem.F.type_list_count mt_lcount (pE o) (pa_cons (pE e) pa_nil hs) hb hfew hline hs hpl) (ho H1 e1 _ fun v H2 e2 p => by
    obtain ⟨A, rfl, hA⟩ := is_ints p
    refine ⟨Or.inl ⟨rfl, _, SqL.of hA⟩, he H2 (e1.trans e2) _ fun y H3 e3 py => ?_⟩
    exact ⟨A, l, k, rfl, by rw [is_int py], SqL.of (e3 _ _ hA), q _ H3 (e2.trans e3) (.int _)⟩)
end
theorem idx_at {ts : List Vamete.Turn} {t : Vamete.Turn} (h : t ∈ ts) : ts[ts.findIdx fun s => s == t]? = some t ∧ (∀ m, m < ts.findIdx (fun s => s == t) → ts[m]? ≠ some t) ∧ ts.findIdx (fun s => s == t) < ts.length := by
  have hlt : ts.findIdx (fun p => p == t) < ts.length := List.findIdx_lt_length_of_exists ⟨t, h, by simp⟩
  refine ⟨?_, ?_, hlt⟩
  · rw [List.getElem?_eq_getElem hlt]
    have := List.findIdx_getElem (w := hlt)
    rw [eq_of_beq this]
  · intro m hm z
    rw [List.getElem?_eq_getElem (Nat.lt_trans hm hlt)] at z
    have := List.not_of_lt_findIdx hm
    injection z with z
    rw [z] at this
    simp at this
/-! ### is_turn, are_turns, group -/
def isTurn (st : Vamete.State) (k : Int) : Bool := decide (0 ≤ k) && decide (k < ((Vamete.allTurns st.places).length : Int))
def a_Desk_is_turn (CD : Addr) : List T → T → Prop := fun Ps R => ∃ (st : Vamete.State) (k : Int), Ps = [DeskP CD st, Is (.int k)] ∧ R = Is (.bool (isTurn st k))
theorem sc_Desk_is_turn : FnScope ["self", "number"] ["self", "number"] (defScope s_Desk_is_turn) := ⟨rfl, rfl, rfl, by decide +kernel, rfl, by decide +kernel, by decide +kernel⟩
theorem d_Desk_is_turn (t : Txt K mg CR CD) : DefM P w K mg base CD 1 "is_turn" ["self", "number"] (Prom (a_Desk_is_turn CD)) := by
  refine defM_of t.cl_Desk t.m_Desk_is_turn sc_Desk_is_turn (fun _ _ ⟨_, _, h, _⟩ => h ▸ rfl) (fun _ _ _ _ _ _ us hl => match us, hl with | [_, _], _ => rfl) ?_
  intro f cdv A0 outer s H E vs Ps R Q hr hA ap hq
  obtain ⟨st, k, rfl, rfl⟩ := hA
  obtain ⟨v, u, rfl, hv, hu⟩ := allP2 ap
  refine go_ret (ev_chain_lelt ev_int (vr 1 hu) (fun _ => ev_lenL (f := 2) rfl t.b_len (ev_dturns t (vrP 0 (DeskP CD st) hv)))) fun v7 H7 e7 h7 => hq v7 H7 e7 ?_
  rw [List.length_map] at h7
  exact h7
def a_Desk_are_turns (CD : Addr) : List T → T → Prop := fun Ps R => ∃ (st : Vamete.State) (l : List Int), Ps = [DeskP CD st, Is (dInts l)] ∧ l.length ≤ 1000 ∧ R = Is (.bool (l.all (isTurn st)))
theorem sc_Desk_are_turns : FnScope ["self", "numbers", "number"] ["self", "numbers"] (defScope s_Desk_are_turns) := ⟨rfl, rfl, rfl, by decide +kernel, rfl, by decide +kernel, by decide +kernel⟩
theorem d_Desk_are_turns (t : Txt K mg CR CD) : DefM P w K mg base CD 2 "are_turns" ["self", "numbers"] (Prom (a_Desk_are_turns CD)) := by
  refine defM_of t.cl_Desk t.m_Desk_are_turns sc_Desk_are_turns (fun _ _ ⟨_, _, h, _⟩ => h ▸ rfl) (fun _ _ _ _ _ _ us hl => match us, hl with | [_, _], _ => rfl) ?_
  intro f cdv A0 outer s H E vs Ps R Q hr hA ap hq
  obtain ⟨st, l, rfl, hl, rfl⟩ := hA
  obtain ⟨v, u, rfl, hv, hu⟩ := allP2 ap
  refine go_ret (ev_all (f := 0) (bs := l.map (isTurn st)) rfl t.b_all ?_) fun v7 H7 e7 h7 => hq v7 H7 e7 ?_
  · rw [List.map_map]
    exact ev_lc0 (f := 0) (g := 0) (l := l) (enc := .int) (F := fun k => .bool (isTurn st k)) (j := 2) rfl sc_Desk_are_turns.nd (src_list (vr 1 hu)) (blkOk_by (N := ["self", "numbers", "number"]) (sc := defScope s_Desk_are_turns) (by decide +kernel)) (by omega) (fun _ _ => rfl) (fun _ _ _ _ _ => pgv sc_Desk_are_turns.nd) (fun z hz H4 w e4 hw => fun s' H0 C cl fp => ev_meth (d_Desk_is_turn (base := base) t) hr (vrP 0 (DeskP CD st) (Sta.mono e4 hv)) (desk_ins fun _ _ _ _ => rfl) (ea_cons (vr 2 hw) ea_nil) ⟨st, z, rfl, rfl⟩)
  · rw [List.all_map] at h7
    exact h7
def turnOf (st : Vamete.State) (k : Int) : Vamete.Turn := ((Vamete.allTurns st.places)[k.toNat]?).getD default
theorem turn_get {st : Vamete.State} {k : Int} (h : isTurn st k = true) : (Vamete.allTurns st.places)[k.toNat]? = some (turnOf st k) ∧ turnOf st k ∈ Vamete.allTurns st.places ∧ k = (k.toNat : Int) := by
  have h : (decide (0 ≤ k) && decide (k < ((Vamete.allTurns st.places).length : Int))) = true := h
  rw [Bool.and_eq_true_iff, decide_eq_true_iff, decide_eq_true_iff] at h
  have hk : k.toNat < (Vamete.allTurns st.places).length := by omega
  have hg := List.getElem?_eq_getElem hk
  have : (Vamete.allTurns st.places)[k.toNat]? = some (turnOf st k) := by
    unfold turnOf
    rw [hg]
    rfl
  exact ⟨this, List.mem_of_getElem? this, by omega⟩
theorem ev_turnAt {X : Cx} {σ : L2.St} {H : Hp} {a b : Expr} {pos : Pos} {st : Vamete.State} {k : Int} (hk : isTurn st k = true) (ha : EvE X a σ H (Isf 2 (dTurnsOf st.places))) (hb : EvE X b σ H (Is (.int k))) (hs : PlainIx b := by exact fun _ _ => rfl) : EvE X (.Subscript a b pos) σ H (Isf 2 (dT (turnOf st k))) := by
  obtain ⟨h1, h2, h3⟩ := turn_get hk
  rw [h3] at hb
  exact ev_ixL (f := 2) ha hb (atI_nat (by rw [List.getElem?_map, h1]; rfl)) hs
def a_Desk_group (CD : Addr) : List T → T → Prop := fun Ps R => ∃ (st : Vamete.State) (l : List Int), Ps = [DeskP CD st, Is (dInts l)] ∧ l.length ≤ 1000 ∧ okSt st ∧ (∀ k ∈ l, isTurn st k = true) ∧ R = Isf 1 (.list ((Vamete.generated st.places (l.map (turnOf st))).map dT))
theorem sc_Desk_group : FnScope ["self", "numbers", "number"] ["self", "numbers"] (defScope s_Desk_group) := ⟨rfl, rfl, rfl, by decide +kernel, rfl, by decide +kernel, by decide +kernel⟩
theorem d_Desk_group (t : Txt K mg CR CD) : DefM P w K mg base CD 4 "group" ["self", "numbers"] (Prom (a_Desk_group CD)) := by
  refine defM_of t.cl_Desk t.m_Desk_group sc_Desk_group (fun _ _ ⟨_, _, h, _⟩ => h ▸ rfl) (fun _ _ _ _ _ _ us hl => match us, hl with | [_, _], _ => rfl) ?_
  intro f cdv A0 outer s H E vs Ps R Q hr hA ap hq
  obtain ⟨st, l, rfl, hl, ok, hk, rfl⟩ := hA
  obtain ⟨v, u, rfl, hv, hu⟩ := allP2 ap
  refine go_ret (ev_call (d_generated t) hr (ea_cons (ev_dplaces t (vrP 0 (DeskP CD st) hv)) (ea_cons (P := Isf 2 (.list ((l.map (turnOf st)).map dT))) ?_ ea_nil)) ⟨st.places, l.map (turnOf st), rfl, ok.1, fun g hg => ?_, rfl⟩) hq
  · rw [List.map_map]
    exact ev_lc0 (f := 0) (g := 2) (l := l) (enc := .int) (F := fun k => dT (turnOf st k)) (j := 2) rfl sc_Desk_group.nd (src_list (vr 1 hu)) (blkOk_by (N := ["self", "numbers", "number"]) (sc := defScope s_Desk_group) (by decide +kernel)) (by omega) (fun _ _ => imm_dT _) (fun _ _ _ _ _ => pgv sc_Desk_group.nd) (fun z hz H4 w e4 hw => fun s' H0 C cl fp => ev_turnAt (hk z hz) (ev_dturns t (vrP 0 (DeskP CD st) (Sta.mono e4 hv))) (vr 2 hw))
  · obtain ⟨k, hkl, rfl⟩ := List.mem_map.mp hg
    exact (turn_get (hk k hkl)).2.1
/-! ### many_rows -/
def a_many_rows : List T → T → Prop := fun Ps R => ∃ (n h : Nat), Ps = [Is (dN n), Is (dN h)] ∧ n ≤ 100 ∧ h ≤ 100 ∧ R = Is (dN ((2 * h + 1) ^ n))
theorem sc_many_rows : FnScope ["places", "high", "found", "turn"] ["places", "high"] (defScope s_many_rows) := ⟨rfl, rfl, rfl, by decide +kernel, rfl, by decide +kernel, by decide +kernel⟩
theorem d_many_rows (t : Txt K mg CR CD) : Def P w K mg base 1 "many_rows" ["places", "high"] (Prom a_many_rows) := by
  refine def_of t.f_many_rows sc_many_rows (fun _ _ ⟨_, _, h, _⟩ => h ▸ rfl) (fun _ _ _ _ _ _ us hl => match us, hl with | [_, _], _ => rfl) ?_
  intro f cdv A0 outer s H E vs Ps R Q hr hA ap hq
  obtain ⟨n, h, rfl, hn, hh, rfl⟩ := hA
  obtain ⟨v, u, rfl, hv, hu⟩ := allP2 ap
  refine go_set (n := 2) (ev_int (k := 1)) (fun fv H1 e1 hf => ?_) sc_many_rows.nd
  refine go_forR0 (gt := gName 3) PassesOwn.never rfl t.b_range (vr 0 (hv.ex' e1)) (by omega) (pgv sc_many_rows.nd) (fun H2 e2 => ⟨fun i σ' H' => ∃ fv o3, σ' = [some v, some u, some fv, o3] ∧ Ex H H' ∧ IsD 0 H' (dN ((2 * h + 1) ^ i)) fv, ⟨fv, none, rfl, e1.trans e2, hf.ex' e2⟩, ?_, ?_⟩)
  · rintro i σ' H' hi ⟨fv, o3, rfl, x, hf⟩
    refine go_set (n := 2) (P := Is (dN ((2 * h + 1) ^ (i + 1)))) (ev_as (ev_mul (i := (((2 * h + 1) ^ i : Nat) : Int)) (j := 2 * (h : Int) + 1) (vr 2 hf) (ev_add (ev_mul (ev_int (k := 2)) (vr 1 (hu.ex' x)) (.inl (by decide))) ev_int) (.inr (by omega))) ?_) (fun fv H3 e3 hf => go_nil ⟨fv, _, rfl, x.trans e3, hf⟩) sc_many_rows.nd
    show PyData.int _ = .int _
    rw [Nat.pow_succ]
    push_cast
    rfl
  · rintro σ' H' ⟨fv, o3, rfl, x, hf⟩
    exact go_ret (vr 2 hf) fun v7 H7 e7 h7 => hq v7 H7 (x.trans e7) h7
end
end TG
set_option Elab.async false
set_option linter.all false
set_option maxRecDepth 100000
set_option maxHeartbeats 2000000
namespace TG
open PySem PySem.Spec PyProof.Rows L2
open Evl (Ex ex_l ex_t fresh_back)
section
variable {P : Program} {w : World} {K : PySem.W.Frag} {mg : Str → Option Value} {base : Heap} {CR CD : Addr}
section
variable {f g : Nat} {X : Cx} {σ : L2.St} {H : Hp} {a b e : Expr} {D : Ends} {rest body : List Stmt} {pos fpos : Pos}
/-- for i, x in enumerate(xs) -/
theorem go_forEnum {α : Type} {l : List α} {enc : α → PyData} {x y : Str} {px py tp p : Pos} {kk n m : Nat} (hp : PassesOwn (model X.prog X.w) X.A X.env X.xe) (hc : X.calm = true) (hm : X.mg "enumerate" = none) (h : EvE X e σ H (Isf f (.list (l.map enc)))) (hg : PG X (.Tuple [.Name x px, .Name y py] kk tp) (gTup X.K 2 (gCons (gName n) (gCons (gName m) gNil))))
    (k : ∀ a xs H1, Ex H H1 → H1 a = some (.lst xs) → IsAll f H1 (l.map enc) xs → ∃ Pv : Nat → L2.St → Hp → Prop, Pv 0 σ H1 ∧ (∀ i σ' H', i ≤ l.length → Pv i σ' H' → H' a = some (.lst xs)) ∧
      (∀ (i : Nat) (x : α) (v : V) (σ' : L2.St) (H' : Hp), l[i]? = some x → xs[i]? = some v → IsD f H1 (enc x) v → Pv i σ' H' → ∀ H2, Ex H' H2 → tSs X body { D with nx := Pv (i + 1), ct := Pv (i + 1), bk := tSs X rest D } ((σ'.set n (some (.int (i : Int)))).set m (some v)) H2) ∧
      ∀ σ' H', Pv l.length σ' H' → tSs X rest D σ' H')
    (hgl : Gl X "enumerate" := by rfl) (hst : starEach [e] X.env = [(false, eval e X.env)] := by rfl)
    (hs : ∀ x, foldedSetIterable (.Call (.Name "enumerate" p) [e] [] pos) X.env x = pure x := by intro _; rfl) : tSs X (.For (.Tuple [.Name x px, .Name y py] kk tp) (.Call (.Name "enumerate" p) [e] [] pos) body [] fpos :: rest) D σ H :=
  go_for hp hc (pi_enum hgl hm (pa_cons (pE e) pa_nil (by rw [hst]; rfl)) hst) hg (h H (Ex.refl H) _ fun v H1 e1 pv => by
    obtain ⟨a, xs, rfl, ha, r⟩ := is_list pv
    obtain ⟨Pv, h0, hl, ht, hd⟩ := k a xs H1 e1 ha r
    have hlen : xs.length = l.length := by rw [r.length, List.length_map]
    refine ⟨a, xs, rfl, SqL.of ha, for_it walk_enum Pv h0 (fun i σ' H' hi p => SqL.of (hl i σ' H' (by omega) p)) (fun i v σ' H' H2 hi p Y => ?_) (fun σ' H' p => hd σ' H' (by rw [← hlen]; exact p))⟩
    obtain ⟨t, u, w, rfl, hT, rfl, hu, hw⟩ := Y
    have hi' : i < l.length := by omega
    have hx : l[i]? = some l[i] := List.getElem?_eq_getElem hi'
    obtain ⟨v', hv', pv⟩ := r.get (i := i) (d := enc l[i]) (by rw [List.getElem?_map, hx]; rfl)
    obtain rfl : v' = w := Option.some.inj (hv'.symm.trans hw)
    obtain rfl : V.int (i : Int) = u := Option.some.inj hu
    exact ⟨t, _, rfl, SqT.of upd_same, rfl, _, _, rfl, _, _, rfl, rfl, ht i l[i] v' σ' H' hx hw pv p _ (Ex.new hT)⟩) hs
end
/-! ### outcomes -/
def OutP (p : VametBase.Program) (rows : List (List Int)) : T := fun H v => ∃ d kvs, v = .ref d ∧ H d = some (.dT kvs) ∧ kvs.map (·.1) = rows.map kR ∧ IsAll 0 H (rows.map fun r => dOpt (VametBase.run p r)) (kvs.map (·.2))
instance (p : VametBase.Program) (rows : List (List Int)) : Sta (OutP p rows) := ⟨fun e ⟨d, kvs, h0, h1, h2, h3⟩ => ⟨d, kvs, h0, e _ _ h1, h2, IsAll.ex e _ _ h3⟩⟩
theorem out_val {H : Hp} {F : List Int → PyData} {r : List Int} : ∀ {rows : List (List Int)} {kvs : List (List L2.Key × V)}, kvs.map (·.1) = rows.map kR → IsAll 0 H (rows.map F) (kvs.map (·.2)) → r ∈ rows → ∃ u, valV kvs (kR r) = some u ∧ IsD 0 H (F r) u
  | [], _, _, _, h => absurd h List.not_mem_nil
  | _ :: _, [], h, _, _ => by simp at h
  | a :: rows, kv :: kvs, h, h2, h3 => by
    rw [List.map_cons, List.map_cons] at h
    injection h with e1 e2
    rw [List.map_cons, List.map_cons] at h2
    cases h2 with
    | cons r1 r2 =>
      by_cases ha : kv.1 = kR r
      · obtain rfl : a = r := kR_inj (e1.symm.trans ha)
        exact ⟨kv.2, valV_pos ha, r1⟩
      · rw [valV_neg ha]
        refine out_val e2 r2 ?_
        rcases List.mem_cons.mp h3 with rfl | h3
        · exact absurd e1 ha
        · exact h3
theorem ev_outAt {X : Cx} {σ : L2.St} {H : Hp} {a b : Expr} {pos : Pos} {p : VametBase.Program} {rows : List (List Int)} {r : List Int} (hu : X.A.units + 64 < cLine) (ha : EvE X a σ H (OutP p rows)) (hb : EvE X b σ H (Is (dRow r))) (hr : r ∈ rows) (hs : NoSl b := by exact fun _ _ => rfl) : EvE X (.Subscript a b pos) σ H (Is (dOpt (VametBase.run p r))) := fun H1 e1 Q q =>
  w_E (pe_dget (by omega) (pE a) (pE b) hs) (ha H1 e1 _ fun v H2 e2 p2 => hb H2 (e1.trans e2) _ fun u H3 e3 p3 => by
    obtain ⟨d, kvs, rfl, h1, h2, h3⟩ := Sta.mono e3 p2
    obtain ⟨x, rfl, hx⟩ := row_key p3
    obtain ⟨y, g1, g2⟩ := out_val h2 h3 hr
    have hget : DGet H3 d (.ref x) (some y) := by rw [← g1]; exact DGet.t h1 hx
    exact ⟨d, y, rfl, hget, q y H3 (e2.trans e3) g2⟩)
theorem pRows_nodup (h : Nat) : ∀ i, (pRows h i).Nodup
  | 0 => List.nodup_cons.mpr ⟨List.not_mem_nil, .nil⟩
  | i + 1 => by
    have ih := pRows_nodup h i
    have hrg : (rgI (0 - (h : Int)) (2 * h + 1)).Nodup := by
      unfold rgI
      refine List.Pairwise.map _ (fun a b hab z => ?_) List.nodup_range
      omega
    show ((pRows h i).flatMap fun o => (rgI (0 - (h : Int)) (2 * h + 1)).map fun p => o ++ [p]).Nodup
    generalize pRows h i = L at ih
    induction L with
    | nil => exact .nil
    | cons a L ihL =>
      rw [List.flatMap_cons]
      rw [List.nodup_cons] at ih
      rw [List.nodup_append]
      refine ⟨?_, ihL ih.2, ?_⟩
      · refine List.Pairwise.map _ (fun x y hxy z => ?_) hrg
        exact hxy (by have := List.append_cancel_left z; simpa using this)
      · intro x hx y hy e
        obtain ⟨p, _, rfl⟩ := List.mem_map.mp hx
        obtain ⟨c, hc, hy⟩ := List.mem_flatMap.mp hy
        obtain ⟨p', _, rfl⟩ := List.mem_map.mp hy
        have := List.append_inj' e rfl
        exact ih.1 (this.1 ▸ hc)
def a_Desk_outcomes (CD : Addr) : List T → T → Prop := fun Ps R => ∃ (st : Vamete.State), Ps = [DeskP CD st] ∧ okSt st ∧ R = OutP st.first (pRows st.high st.places)
theorem sc_Desk_outcomes : FnScope ["self", "found", "row"] ["self"] (defScope s_Desk_outcomes) := ⟨rfl, rfl, rfl, by decide +kernel, rfl, by decide +kernel, by decide +kernel⟩
theorem rows_small {st : Vamete.State} (ok : okSt st) : (pRows st.high st.places).length ≤ 130 := by rw [pRows_len]; exact ok.2.2.1
theorem d_Desk_outcomes (t : Txt K mg CR CD) : DefM P w K mg base CD 5 "outcomes" ["self"] (Prom (a_Desk_outcomes CD)) := by
  refine defM_of t.cl_Desk t.m_Desk_outcomes sc_Desk_outcomes (fun _ _ ⟨_, h, _⟩ => h ▸ rfl) (fun _ _ _ _ _ _ us hl => match us, hl with | [_], _ => rfl) ?_
  intro f cdv A0 outer s H E vs Ps R Q hr hA ap hq
  obtain ⟨st, rfl, ok, rfl⟩ := hA
  obtain ⟨v, rfl, hv⟩ := allP1 ap
  refine go_set (n := 1) ev_dnew (fun dv H1 e1 hd => ?_) sc_Desk_outcomes.nd
  obtain ⟨d, rfl, hd0, hd⟩ := hd
  refine go_forL (l := pRows st.high st.places) (enc := dRow) (f := 0) (gt := gName 2) PassesOwn.never rfl (ev_drows t (vrP 0 (DeskP CD st) (Sta.mono e1 hv))) (pgv sc_Desk_outcomes.nd) (fun A xs H2 e2 hA rA => ?_)
  have hAd : A ≠ d := fun z => by
    have := e2 _ _ hd
    rw [← z, hA] at this
    cases this
  refine ⟨fun i σ' H' => ∃ o2 kvs, σ' = [some v, some (.ref d), o2] ∧ Ex H H' ∧ H' A = some (.lst xs) ∧ Tx H2 H' ∧ H' d = some (.dT kvs) ∧ kvs.map (·.1) = ((pRows st.high st.places).take i).map kR ∧ IsAll 0 H' (((pRows st.high st.places).take i).map fun r => dOpt (VametBase.run st.first r)) (kvs.map (·.2)), ⟨none, [], rfl, e1.trans e2, hA, Tx.refl _, e2 _ _ hd, rfl, .nil⟩, ?_, ?_, ?_⟩
  · rintro i σ' H' _ ⟨o2, kvs, rfl, x, hA3, tx, hd3, hk, hv3⟩
    exact hA3
  · rintro i r vr' σ' H3 hi hvi pv ⟨o2, kvs, rfl, x, hA3, tx, hd3, hk, hv3⟩
    have hrm := List.mem_of_getElem? hi
    have hil : i < (pRows st.high st.places).length := (List.getElem?_eq_some_iff.mp hi).1
    have hsm := rows_small ok
    have hrl : r.length ≤ 40 := by have := pRows_each st.high st.places r hrm; have := ok.1; omega
    have pv3 : IsD 0 H3 (dRow r) vr' := IsD.tx tx _ _ (imm_row _) pv
    refine w_Ss (pss_cons (ps_dput (by have := hr.units; show A0.units + 3 + 1 < cLine; have h2 : A0.units + 3 + 64 < cLine := this; omega) (pE _) (pE _) (pE _) rfl) (pSs _)) ?_
    refine (ev_call (d_run t) (hr.mono (by omega)) (ea_cons (ev_ixL (f := 0) (ds := [dProg st.first, dProg st.second]) (d := dProg st.first) (ev_dprogs t (vrP 0 (DeskP CD st) (Sta.mono x hv))) (ev_int (k := 0)) rfl) (ea_cons (vr 2 pv3) ea_nil)) ⟨st.first, r, rfl, ok.2.2.2.1, hrl, rfl⟩) H3 (Ex.refl _) _ fun y H4 e4 hy => ?_
    refine (vrR 1 d) H4 (Ex.refl _) _ fun z H5 e5 hz => ?_
    cases hz
    refine (vr 2 ((pv3.ex' e4).ex' e5)) H5 (Ex.refl _) _ fun z H6 e6 hz => ?_
    obtain ⟨q, rfl, hq6⟩ := row_key hz
    have e36 := (e4.trans e5).trans e6
    have hd6 := e36 _ _ hd3
    have hlen : kvs.length ≤ i := by
      have := congrArg List.length hk
      rw [List.length_map, List.length_map, List.length_take] at this
      omega
    have hnew : valV kvs (kR r) = none := by
      have := key_val hk r
      have hnot : r ∉ (pRows st.high st.places).take i := fun hmem => by
        obtain ⟨j, hj1, hj2⟩ := List.mem_iff_getElem.mp hmem
        rw [List.length_take] at hj1
        rw [List.getElem_take] at hj2
        have hi2 := (List.getElem?_eq_some_iff.mp hi).2
        exact (List.pairwise_iff_getElem.mp (pRows_nodup st.high st.places)) j i (by omega) hil (by omega) (hj2.trans hi2.symm)
      rw [decide_eq_false hnot] at this
      cases hh : valV kvs (kR r) with
      | none => rfl
      | some u => rw [hh] at this; cases this
    refine ⟨d, _, rfl, DPut.t hd6 hq6 (Nat.lt_of_le_of_lt hlen (Nat.lt_of_lt_of_le hil (Nat.le_trans hsm (by decide)))), go_nil ⟨some vr', putK kvs (kR r) y, rfl, Ex.mut (x.trans e36) hd0, ?_, ?_, upd_same, ?_, ?_⟩⟩
    · rw [upd_ne hAd]
      exact e36 _ _ hA3
    · exact (tx.trans (tx_of e36)).trans (tx_upd fun u h s => by rw [hd6] at h; cases h; exact s)
    · rw [putK_new y hnew, List.map_append, hk, List.take_add_one, hi, List.map_append]
      rfl
    · have tx6 : Tx H6 (upd H6 d (.dT (putK kvs (kR r) y))) := tx_upd fun u h s => by rw [hd6] at h; cases h; exact s
      rw [putK_new y hnew] at tx6 ⊢
      rw [List.map_append, List.take_add_one, hi, List.map_append]
      refine IsAll.app (IsAll.tx tx6 _ _ (imms_map (fun _ => imm_opt _) _) (IsAll.ex e36 _ _ hv3)) (.cons (IsD.tx tx6 _ _ (imm_opt _) ((hy.ex' e5).ex' e6)) .nil)
  · rintro σ' H3 ⟨o2, kvs, rfl, x, hA3, tx, hd3, hk, hv3⟩
    rw [List.take_length] at hk hv3
    exact go_ret (vrP 1 (OutP st.first (pRows st.high st.places)) ⟨d, kvs, rfl, hd3, hk, hv3⟩) fun v7 H7 e7 h7 => hq v7 H7 (x.trans e7) h7
end
end TG
set_option Elab.async false
set_option linter.all false
set_option maxRecDepth 100000
set_option maxHeartbeats 2000000
namespace TG
open PySem PySem.Spec PyProof.Rows L2
open Evl (Ex ex_l ex_t fresh_back)
section
variable {P : Program} {w : World} {K : PySem.W.Frag} {mg : Str → Option Value} {base : Heap} {CR CD : Addr}
open VametBase (readStep readNat readInt readProgram readTimes readCond readRel readRelation readRow readListed readPair)
/-! ### rows of a size -/
theorem mem_rgI {lo : Int} {n : Nat} {x : Int} : x ∈ rgI lo n ↔ lo ≤ x ∧ x < lo + n := by
  unfold rgI
  rw [List.mem_map]
  constructor
  · rintro ⟨k, hk, rfl⟩
    rw [List.mem_range] at hk
    omega
  · rintro ⟨h1, h2⟩
    exact ⟨(x - lo).toNat, by rw [List.mem_range]; omega, by omega⟩
theorem mem_pRows {h : Nat} : ∀ {n : Nat} {r : List Int}, r ∈ pRows h n ↔ r.length = n ∧ ∀ x ∈ r, 0 - (h : Int) ≤ x ∧ x ≤ h
  | 0, r => by
    show r ∈ [[]] ↔ _
    rw [List.mem_singleton]
    constructor
    · rintro rfl
      exact ⟨rfl, fun x hx => absurd hx List.not_mem_nil⟩
    · rintro ⟨h1, _⟩
      exact List.eq_nil_of_length_eq_zero h1
  | n + 1, r => by
    show r ∈ ((pRows h n).flatMap fun o => (rgI (0 - (h : Int)) (2 * h + 1)).map fun p => o ++ [p]) ↔ _
    rw [List.mem_flatMap]
    constructor
    · rintro ⟨o, ho, hr⟩
      obtain ⟨p, hp, rfl⟩ := List.mem_map.mp hr
      obtain ⟨h1, h2⟩ := mem_pRows.mp ho
      have hp := mem_rgI.mp hp
      refine ⟨by rw [List.length_append, h1]; rfl, fun x hx => ?_⟩
      rcases List.mem_append.mp hx with hx | hx
      · exact h2 x hx
      · rw [List.mem_singleton.mp hx]; omega
    · rintro ⟨h1, h2⟩
      have hne : r ≠ [] := fun z => by rw [z] at h1; cases h1
      have hd := List.dropLast_concat_getLast hne
      refine ⟨r.dropLast, mem_pRows.mpr ⟨by rw [List.length_dropLast, h1]; rfl, fun x hx => h2 x ((List.dropLast_sublist r).subset hx)⟩, List.mem_map.mpr ⟨r.getLast hne, mem_rgI.mpr ?_, hd⟩⟩
      have := h2 _ (List.getLast_mem hne)
      omega
theorem turned_mem {h n : Nat} {t : Vamete.Turn} {r : List Int} (wf : Wf n t) (hr : r ∈ pRows h n) : Vamete.turned t r ∈ pRows h n := by
  obtain ⟨h1, h2⟩ := mem_pRows.mp hr
  refine mem_pRows.mpr ⟨turned_len wf r, fun x hx => ?_⟩
  unfold Vamete.turned at hx
  obtain ⟨z, hz, rfl⟩ := List.mem_map.mp hx
  have hlt : z.1 < r.length := by rw [h1]; exact wf.lt _ (List.of_mem_zip hz).1
  rw [List.getElem?_eq_getElem hlt]
  have := h2 _ (List.getElem_mem hlt)
  show 0 - (h : Int) ≤ Vamete.signed z.2 r[z.1] ∧ Vamete.signed z.2 r[z.1] ≤ h
  unfold Vamete.signed
  split <;> omega
/-! ### compose -/
theorem ev_neg1 {X : Cx} {σ : L2.St} {H : Hp} {i : Int} {k : Nat} {p1 p2 pos : Pos} : EvE X (.List [.UnaryOp .USub (.Constant (.int i) k p1) p2] pos) σ H (Is (dInts [-i])) := ev_lst (f := 0) (ds := [.int (-i)]) (ea_cons ev_negc ea_nil) (by show 1 ≤ 1000; omega)
def idxOf (st : Vamete.State) (t : Vamete.Turn) : Nat := (Vamete.allTurns st.places).findIdx fun s => s == t
def ansCompose (st : Vamete.State) (a b : Int) : List Int := if isTurn st a && isTurn st b then [(idxOf st (Vamete.after (turnOf st a) (turnOf st b)) : Int)] else [-2]
def a_compose (CD : Addr) : List T → T → Prop := fun Ps R => ∃ (st : Vamete.State) (a b : Int), Ps = [DeskP CD st, Is (.int a), Is (.int b)] ∧ okSt st ∧ R = Is (dInts (ansCompose st a b))
theorem sc_compose : FnScope ["desk", "number", "other"] ["desk", "number", "other"] (defScope s_compose) := ⟨rfl, rfl, rfl, by decide +kernel, rfl, by decide +kernel, by decide +kernel⟩
theorem d_compose (t : Txt K mg CR CD) : Def P w K mg base 6 "compose" ["desk", "number", "other"] (Prom (a_compose CD)) := by
  refine def_of t.f_compose sc_compose (fun _ _ ⟨_, _, _, h, _⟩ => h ▸ rfl) (fun _ _ _ _ _ _ us hl => match us, hl with | [_, _, _], _ => rfl) ?_
  intro f cdv A0 outer s H E vs Ps R Q hr hA ap hq
  obtain ⟨st, a, b, rfl, ok, rfl⟩ := hA
  obtain ⟨v, u, z, rfl, hv, hu, hz⟩ := allP3 ap
  have mono : ∀ {H H' : Hp} {v : V}, Ex H H' → DeskP CD st H v → DeskP CD st H' v := fun e h => Sta.mono e h
  unfold ansCompose at hq
  refine go_ifr (et_not (et_val (ev_meth (d_Desk_are_turns (P := P) (w := w) (base := base) t) (hr.mono (by omega)) (vrP 0 (DeskP CD st) hv) (desk_ins fun _ _ _ _ => rfl) (ea_cons (P := Is (dInts [a, b])) (ev_lst (f := 0) (ds := [.int a, .int b]) (ea_cons (vr 1 hu) (ea_cons (vr 2 hz) ea_nil)) (by show 2 ≤ 1000; omega)) ea_nil) ⟨st, [a, b], rfl, by show 2 ≤ 1000; omega, rfl⟩))) (fun h0 H1 e1 => ?_) (fun h0 H1 e1 => ?_)
  · have h0 : (isTurn st a && isTurn st b) = false := by
      have h0 : (!(isTurn st a && (isTurn st b && true))) = true := h0
      rw [Bool.and_true] at h0
      cases hh : (isTurn st a && isTurn st b) with
      | false => rfl
      | true => rw [hh] at h0; cases h0
    rw [h0] at hq
    exact go_ret ev_neg1 fun v7 H7 e7 h7 => hq v7 H7 (e1.trans e7) h7
  have h0 : (isTurn st a && isTurn st b) = true := by
    have h0 : (!(isTurn st a && (isTurn st b && true))) = false := h0
    rw [Bool.and_true] at h0
    cases hh : (isTurn st a && isTurn st b) with
    | true => rfl
    | false => rw [hh] at h0; cases h0
  rw [h0] at hq
  obtain ⟨ha, hb⟩ := Bool.and_eq_true_iff.mp h0
  have ma := (turn_get ha).2.1
  have mb := (turn_get hb).2.1
  have hm := after_mem ok.1 ma mb
  obtain ⟨i1, i2, _⟩ := idx_at hm
  have hn := ok.1
  exact go_ret (ev_lst (f := 0) (ds := [dN (idxOf st (Vamete.after (turnOf st a) (turnOf st b)))]) (ea_cons (ev_idxT (f := 2) (g := 0) (by have := hr.un; show A0.units + 3 + 65 < cLine; have h2 : A0.units + 3 + 16 * 5 + 200 < cLine := this; omega) (ev_dturns t (vrP 0 (DeskP CD st) (mono e1 hv))) (ev_call (d_behind t) (hr.mono (by omega)) (ea_cons ((ev_turnAt hb (ev_dturns t (vrP 0 (DeskP CD st) (mono e1 hv))) (vr 2 (hz.ex' e1))).imp fun _ _ _ p => p.up) (ea_cons ((ev_turnAt ha (ev_dturns t (vrP 0 (DeskP CD st) (mono e1 hv))) (vr 1 (hu.ex' e1))).imp fun _ _ _ p => p.up) ea_nil)) ⟨st.places, turnOf st a, turnOf st b, rfl, turn_wf ok.1 ma, turn_wf ok.1 mb, by omega, rfl⟩) i1 i2) ea_nil) (by show 1 ≤ 1000; omega)) fun v7 H7 e7 h7 => hq v7 H7 (e1.trans e7) h7
/-! ### told_group -/
theorem grow_ok {n : Nat} (hn : n ≤ 4) {gs : List Vamete.Turn} (hg : ∀ g ∈ gs, g ∈ Vamete.allTurns n) : ∀ (f i : Nat) (L : List Vamete.Turn), Grown n L → Grown n (Vamete.growFrom gs f i L)
  | 0, _, L, h => h
  | f + 1, i, L, h => by
    cases ht : L[i]? with
    | none => rw [grow_end ht]; exact h
    | some t =>
      rw [grow_at ht]
      refine grow_ok hn hg f _ _ ?_
      have htm := h.mem _ (List.mem_of_getElem? ht)
      have : ∀ (gs' L : List Vamete.Turn), (∀ g ∈ gs', g ∈ Vamete.allTurns n) → Grown n L → Grown n (gs'.foldl (addOne t) L) := by
        intro gs'
        induction gs' with
        | nil => exact fun L _ h => h
        | cons g gs' ih =>
          intro L hg' h
          rw [List.foldl_cons]
          refine ih _ (fun x hx => hg' x (List.mem_cons_of_mem _ hx)) ?_
          unfold addOne
          split
          · exact h
          · rename_i hc
            exact h.one (after_mem hn (hg' g List.mem_cons_self) htm) (by simpa using hc)
      exact this gs L hg h
theorem gen_ok {n : Nat} (hn : n ≤ 4) {gs : List Vamete.Turn} (hg : ∀ g ∈ gs, g ∈ Vamete.allTurns n) : Grown n (Vamete.generated n gs) :=
  grow_ok hn hg _ _ _ ⟨fun t ht => by rw [List.mem_singleton.mp ht]; exact same_mem hn, List.nodup_cons.mpr ⟨List.not_mem_nil, .nil⟩⟩
def genOf (st : Vamete.State) (l : List Int) : List Vamete.Turn := Vamete.generated st.places (l.map (turnOf st))
theorem genOf_ok {st : Vamete.State} (ok : okSt st) {l : List Int} (hl : l.all (isTurn st) = true) : Grown st.places (genOf st l) := by
  refine gen_ok ok.1 fun g hg => ?_
  obtain ⟨k, hk, rfl⟩ := List.mem_map.mp hg
  exact (turn_get (List.all_eq_true.mp hl k hk)).2.1
def ansGroup (st : Vamete.State) (l : List Int) : List Int := if l.all (isTurn st) then ((genOf st l).length : Int) :: VametBase.sorted ((genOf st l).map fun t => (idxOf st t : Int)) else [-2]
def a_told_group (CD : Addr) : List T → T → Prop := fun Ps R => ∃ (st : Vamete.State) (l : List Int), Ps = [DeskP CD st, Is (dInts l)] ∧ okSt st ∧ l.length ≤ 1000 ∧ R = Is (dInts (ansGroup st l))
theorem sc_told_group : FnScope ["desk", "numbers", "found", "turn"] ["desk", "numbers"] (defScope s_told_group) := ⟨rfl, rfl, rfl, by decide +kernel, rfl, by decide +kernel, by decide +kernel⟩
theorem d_told_group (t : Txt K mg CR CD) : Def P w K mg base 6 "told_group" ["desk", "numbers"] (Prom (a_told_group CD)) := by
  refine def_of t.f_told_group sc_told_group (fun _ _ ⟨_, _, h, _⟩ => h ▸ rfl) (fun _ _ _ _ _ _ us hl => match us, hl with | [_, _], _ => rfl) ?_
  intro f cdv A0 outer s H E vs Ps R Q hr hA ap hq
  obtain ⟨st, l, rfl, ok, hl, rfl⟩ := hA
  obtain ⟨v, u, rfl, hv, hu⟩ := allP2 ap
  have mono : ∀ {H H' : Hp} {v : V}, Ex H H' → DeskP CD st H v → DeskP CD st H' v := fun e h => Sta.mono e h
  unfold ansGroup at hq
  refine go_ifr (et_not (et_val (ev_meth (d_Desk_are_turns (P := P) (w := w) (base := base) t) (hr.mono (by omega)) (vrP 0 (DeskP CD st) hv) (desk_ins fun _ _ _ _ => rfl) (ea_cons (vr 1 hu) ea_nil) ⟨st, l, rfl, hl, rfl⟩))) (fun h0 H1 e1 => ?_) (fun h0 H1 e1 => ?_)
  · have h0 : l.all (isTurn st) = false := by
      cases hh : l.all (isTurn st) with
      | false => rfl
      | true => rw [hh] at h0; cases h0
    rw [h0] at hq
    exact go_ret ev_neg1 fun v7 H7 e7 h7 => hq v7 H7 (e1.trans e7) h7
  have h0 : l.all (isTurn st) = true := by
    cases hh : l.all (isTurn st) with
    | true => rfl
    | false => rw [hh] at h0; cases h0
  rw [h0] at hq
  have gk := genOf_ok ok h0
  have glen := gk.len ok.1
  have hal := List.all_eq_true.mp h0
  refine go_set (n := 2) (P := Is (dInts (VametBase.sorted ((genOf st l).map fun t => (idxOf st t : Int))))) (ev_sortedL (f := 0) t.b_sorted ?_) (fun fv H2 e2 hf => ?_) sc_told_group.nd
  · show EvE _ _ _ _ (Is (.list (((genOf st l).map fun t => (idxOf st t : Int)).map .int)))
    rw [List.map_map]
    refine ev_lc0 (f := 1) (g := 0) (l := genOf st l) (enc := dT) (F := fun t => .int (idxOf st t : Int)) (j := 3) rfl sc_told_group.nd (src_list (ev_meth (d_Desk_group (P := P) (w := w) (base := base) t) (hr.mono (by omega)) (vrP 0 (DeskP CD st) (mono e1 hv)) (desk_ins fun _ _ _ _ => rfl) (ea_cons (vr 1 (hu.ex' e1)) ea_nil) ⟨st, l, rfl, hl, ok, hal, rfl⟩)) (blkOk_by (N := ["desk", "numbers", "found", "turn"]) (sc := defScope s_told_group) (by decide +kernel)) (by omega) (fun _ _ => rfl) (fun _ _ _ _ _ => pgv sc_told_group.nd) (fun z hz H4 w e4 hw => fun s' H0 C cl fp => ?_)
    obtain ⟨i1, i2, _⟩ := idx_at (gk.mem z hz)
    exact ev_idxT (f := 2) (g := 1) (by have := hr.un; show A0.units + 3 + 65 < cLine; have h2 : A0.units + 3 + 16 * 5 + 200 < cLine := this; omega) (ev_dturns t (vrP 0 (DeskP CD st) (mono (e1.trans e4) hv))) (vr 3 hw) i1 i2
  · have hlen : (VametBase.sorted ((genOf st l).map fun t => (idxOf st t : Int))).length = (genOf st l).length := by rw [(sorted_perm _).length_eq, List.length_map]
    refine go_ret (ev_catI (f := 0) (l := [((genOf st l).length : Int)]) (ev_as (ev_lst (f := 0) (ds := [.int ((VametBase.sorted ((genOf st l).map fun t => (idxOf st t : Int))).map PyData.int).length]) (ea_cons (ev_lenL (f := 0) rfl t.b_len (vr 2 hf)) ea_nil) (by show 1 ≤ 1000; omega)) (by rw [List.length_map, hlen]; rfl)) (vr 2 hf) (by rw [hlen]; show 1 + _ ≤ _; omega)) fun v7 H7 e7 h7 => hq v7 H7 ((e1.trans e2).trans e7) h7
/-! ### told_orbit, told_orbits -/
def ansOrbit (st : Vamete.State) (l told : List Int) : List Int := match VametBase.whole readRow told with
  | none => [-5]
  | some x => if x.length = st.places then (if l.all (isTurn st) then ((pOrbit (genOf st l) x).length : Int) :: (pOrbit (genOf st l) x).flatten else [-2]) else [-5]
theorem pOrbit_each {n : Nat} {ts : List Vamete.Turn} {r : List Int} (hw : ∀ t ∈ ts, Wf n t) : ∀ k ∈ pOrbit ts r, k.length = n := fun k hk => by
  unfold pOrbit at hk
  have hk := (List.mergeSort_perm _ _).mem_iff.mp hk
  exact (keys_each ts r [] hw (fun _ h => absurd h List.not_mem_nil) .nil).1 k hk
def a_told_orbit (CD : Addr) : List T → T → Prop := fun Ps R => ∃ (st : Vamete.State) (l m : List Int), Ps = [DeskP CD st, Is (dInts l), Is (dInts m)] ∧ okSt st ∧ l.length ≤ 1000 ∧ m.length ≤ 1000 ∧ R = Is (dInts (ansOrbit st l m))
theorem sc_told_orbit : FnScope ["desk", "numbers", "told", "row", "rows", "found", "other"] ["desk", "numbers", "told"] (defScope s_told_orbit) := ⟨rfl, rfl, rfl, by decide +kernel, rfl, by decide +kernel, by decide +kernel⟩
theorem d_told_orbit (t : Txt K mg CR CD) : Def P w K mg base 6 "told_orbit" ["desk", "numbers", "told"] (Prom (a_told_orbit CD)) := by
  refine def_of t.f_told_orbit sc_told_orbit (fun _ _ ⟨_, _, _, h, _⟩ => h ▸ rfl) (fun _ _ _ _ _ _ us hl => match us, hl with | [_, _, _], _ => rfl) ?_
  intro f cdv A0 outer s H E vs Ps R Q hr hA ap hq
  obtain ⟨st, l, m, rfl, ok, hl, hml, rfl⟩ := hA
  obtain ⟨v, u, z, rfl, hv, hu, hz⟩ := allP3 ap
  have mono : ∀ {H H' : Hp} {v : V}, Ex H H' → DeskP CD st H v → DeskP CD st H' v := fun e h => Sta.mono e h
  have hn := ok.1
  unfold ansOrbit at hq
  refine go_set (n := 3) (ev_call (d_row_of t) (hr.mono (by omega)) (ea_cons (vr 2 hz) ea_nil) ⟨m, rfl, hml, rfl⟩) (fun rv H1 e1 hrv => ?_) sc_told_orbit.nd
  replace hv := mono e1 hv
  replace hu := hu.ex' e1
  cases hw : VametBase.whole readRow m with
  | none =>
    rw [hw] at hq hrv
    refine go_ifr (et_or (k := true) (l := true) (et_as (et_isN (vr 3 hrv)) rfl) (fun h => absurd h (by decide))).et (fun _ H2 e2 => ?_) (fun h H2 e2 => absurd h (by decide))
    exact go_ret ev_neg1 fun v7 H7 e7 h7 => hq v7 H7 ((e1.trans e2).trans e7) h7
  | some x =>
  rw [hw] at hq hrv
  replace hrv : IsD 0 H1 (dRow x) rv := hrv
  refine go_ifr (k := !decide (x.length = st.places)) (et_or (k := false) (l := !decide (x.length = st.places)) (et_as (et_isN (vr 3 hrv)) rfl) (fun _ => et_or1 (et_as (et_ne (ev_lenR rfl t.b_len (vr 3 hrv)) (ev_dplaces t (vrP 0 (DeskP CD st) hv))) (by rw [dec_int_nat])))).et (fun h1 H2 e2 => ?_) (fun h1 H2 e2 => ?_)
  · have h1 : x.length ≠ st.places := by simpa using h1
    have hq : ∀ (v : V) (H' : Hp), Ex H H' → Is (dInts (if x.length = st.places then (if l.all (isTurn st) then ((pOrbit (genOf st l) x).length : Int) :: (pOrbit (genOf st l) x).flatten else [-2]) else [-5])) H' v → Q v H' := hq
    rw [if_neg h1] at hq
    exact go_ret ev_neg1 fun v7 H7 e7 h7 => hq v7 H7 ((e1.trans e2).trans e7) h7
  have h1 : x.length = st.places := by simpa using h1
  have hq : ∀ (v : V) (H' : Hp), Ex H H' → Is (dInts (if x.length = st.places then (if l.all (isTurn st) then ((pOrbit (genOf st l) x).length : Int) :: (pOrbit (genOf st l) x).flatten else [-2]) else [-5])) H' v → Q v H' := hq
  rw [if_pos h1] at hq
  replace hv := mono e2 hv
  replace hu := hu.ex' e2
  replace hrv := hrv.ex' e2
  replace e2 := e1.trans e2
  refine go_ifr (et_not (et_val (ev_meth (d_Desk_are_turns (P := P) (w := w) (base := base) t) (hr.mono (by omega)) (vrP 0 (DeskP CD st) hv) (desk_ins fun _ _ _ _ => rfl) (ea_cons (vr 1 hu) ea_nil) ⟨st, l, rfl, hl, rfl⟩))) (fun h0 H3 e3 => ?_) (fun h0 H3 e3 => ?_)
  · have h0 : l.all (isTurn st) = false := by
      cases hh : l.all (isTurn st) with
      | false => rfl
      | true => rw [hh] at h0; cases h0
    rw [h0] at hq
    exact go_ret ev_neg1 fun v7 H7 e7 h7 => hq v7 H7 ((e2.trans e3).trans e7) h7
  have h0 : l.all (isTurn st) = true := by
    cases hh : l.all (isTurn st) with
    | true => rfl
    | false => rw [hh] at h0; cases h0
  rw [h0, if_pos rfl] at hq
  have gk := genOf_ok ok h0
  have glen := gk.len ok.1
  have hal := List.all_eq_true.mp h0
  replace hv := mono e3 hv
  replace hu := hu.ex' e3
  replace hrv := hrv.ex' e3
  replace e3 := e2.trans e3
  have hwf : ∀ t ∈ genOf st l, Wf st.places t := fun t ht => turn_wf ok.1 (gk.mem t ht)
  refine go_set (n := 4) (ev_call (d_orbit t) (hr.mono (by omega)) (ea_cons (ev_meth (d_Desk_group (P := P) (w := w) (base := base) t) (hr.mono (by omega)) (vrP 0 (DeskP CD st) hv) (desk_ins fun _ _ _ _ => rfl) (ea_cons (vr 1 hu) ea_nil) ⟨st, l, rfl, hl, ok, hal, rfl⟩) (ea_cons (vr 3 hrv) ea_nil)) ⟨st.places, genOf st l, x, rfl, hwf, h1, by omega, by omega, rfl⟩) (fun ov H4 e4 ho => ?_) sc_told_orbit.nd
  have holen := pOrbit_len (genOf st l) x
  have hoeach := pOrbit_each (r := x) hwf
  generalize pOrbit (genOf st l) x = O at hq ho holen hoeach
  obtain ⟨S, ss, rfl, hS, rS⟩ := is_list ho
  refine go_set (n := 5) (P := NewL 0 H4 [.int (O.map dRow).length]) (ev_lstN (f := 0) (ds := [.int (O.map dRow).length]) (ea_cons (ev_lenL (f := 0) rfl t.b_len (vr 4 ho)) ea_nil) (by show 1 ≤ 1000; omega)) (fun fv H5 e5 hf => ?_) sc_told_orbit.nd
  obtain ⟨A, xs, rfl, hA0, hA, rA⟩ := hf
  rw [List.length_map] at rA
  have hflat : (O.flatMap id).length ≤ O.length * 4 := by
    have : ∀ O' : List (List Int), (∀ k ∈ O', k.length = st.places) → (O'.flatMap id).length ≤ O'.length * 4 := by
      intro O'
      induction O' with
      | nil => intro _; exact Nat.le_refl _
      | cons a O' ih =>
        intro h
        rw [List.flatMap_cons, List.length_append, List.length_cons]
        have h1 := ih fun k hk => h k (List.mem_cons_of_mem _ hk)
        have h2 := h a List.mem_cons_self
        show a.length + _ ≤ _
        omega
    exact this O hoeach
  refine go_growFor (l := O) (enc := dRow) (G := id) (encB := .int) (f := 0) (g := 0) (n := 6) (ds := [.int (O.length : Int)]) PassesOwn.never rfl (pgv sc_told_orbit.nd) (vrR 4 S) hA0 hS rS ⟨e5, xs, hA, rA⟩ rfl (fun u H' => vrR 5 A) ?_ (fun _ => rfl) rfl (by show 1 + _ ≤ 100000; omega) ?_
  · intro k hk v' H6 e6 hv'
    exact ev_listT t.b_list (vr 6 (hv'.ex' e6))
  · intro u6 H6 a6
    refine go_ret (vrP 5 (Is (dInts ((O.length : Int) :: O.flatten))) ?_) fun v7 H7 e7 h7 => hq v7 H7 (((e3.trans e4).trans a6.ex).trans e7) h7
    have := a6.is
    rw [List.flatMap_id] at this
    exact this
def ansOrbits (st : Vamete.State) (l : List Int) : List Int := if l.all (isTurn st) then [(pMany (genOf st l) (pRows st.high st.places) : Int)] else [-2]
def a_told_orbits (CD : Addr) : List T → T → Prop := fun Ps R => ∃ (st : Vamete.State) (l : List Int), Ps = [DeskP CD st, Is (dInts l)] ∧ okSt st ∧ l.length ≤ 1000 ∧ R = Is (dInts (ansOrbits st l))
theorem sc_told_orbits : FnScope ["desk", "numbers"] ["desk", "numbers"] (defScope s_told_orbits) := ⟨rfl, rfl, rfl, by decide +kernel, rfl, by decide +kernel, by decide +kernel⟩
theorem d_told_orbits (t : Txt K mg CR CD) : Def P w K mg base 6 "told_orbits" ["desk", "numbers"] (Prom (a_told_orbits CD)) := by
  refine def_of t.f_told_orbits sc_told_orbits (fun _ _ ⟨_, _, h, _⟩ => h ▸ rfl) (fun _ _ _ _ _ _ us hl => match us, hl with | [_, _], _ => rfl) ?_
  intro f cdv A0 outer s H E vs Ps R Q hr hA ap hq
  obtain ⟨st, l, rfl, ok, hl, rfl⟩ := hA
  obtain ⟨v, u, rfl, hv, hu⟩ := allP2 ap
  have mono : ∀ {H H' : Hp} {v : V}, Ex H H' → DeskP CD st H v → DeskP CD st H' v := fun e h => Sta.mono e h
  have hn := ok.1
  unfold ansOrbits at hq
  refine go_ifr (et_not (et_val (ev_meth (d_Desk_are_turns (P := P) (w := w) (base := base) t) (hr.mono (by omega)) (vrP 0 (DeskP CD st) hv) (desk_ins fun _ _ _ _ => rfl) (ea_cons (vr 1 hu) ea_nil) ⟨st, l, rfl, hl, rfl⟩))) (fun h0 H1 e1 => ?_) (fun h0 H1 e1 => ?_)
  · have h0 : l.all (isTurn st) = false := by
      cases hh : l.all (isTurn st) with
      | false => rfl
      | true => rw [hh] at h0; cases h0
    rw [h0] at hq
    exact go_ret ev_neg1 fun v7 H7 e7 h7 => hq v7 H7 (e1.trans e7) h7
  have h0 : l.all (isTurn st) = true := by
    cases hh : l.all (isTurn st) with
    | true => rfl
    | false => rw [hh] at h0; cases h0
  rw [h0, if_pos rfl] at hq
  have gk := genOf_ok ok h0
  have glen := gk.len ok.1
  have hal := List.all_eq_true.mp h0
  exact go_ret (ev_lst (f := 0) (ds := [.int (pMany (genOf st l) (pRows st.high st.places))]) (ea_cons (ev_call (d_many_orbits t) (hr.mono (by omega)) (ea_cons (ev_meth (d_Desk_group (P := P) (w := w) (base := base) t) (hr.mono (by omega)) (vrP 0 (DeskP CD st) (mono e1 hv)) (desk_ins fun _ _ _ _ => rfl) (ea_cons (vr 1 (hu.ex' e1)) ea_nil) ⟨st, l, rfl, hl, ok, hal, rfl⟩) (ea_cons (ev_drows t (vrP 0 (DeskP CD st) (mono e1 hv))) ea_nil)) ⟨st.places, genOf st l, pRows st.high st.places, rfl, fun t ht => turn_wf ok.1 (gk.mem t ht), pRows_each st.high st.places, by omega, glen, rows_small ok, rfl⟩) ea_nil) (by show 1 ≤ 1000; omega)) fun v7 H7 e7 h7 => hq v7 H7 (e1.trans e7) h7
end
end TG
set_option Elab.async false
set_option linter.all false
set_option maxRecDepth 100000
set_option maxHeartbeats 2000000
namespace TG
open PySem PySem.Spec PyProof.Rows L2
open Evl (Ex ex_l ex_t fresh_back)
section
variable {P : Program} {w : World} {K : PySem.W.Frag} {mg : Str → Option Value} {base : Heap} {CR CD : Addr}
open VametBase (readStep readNat readInt readProgram readTimes readCond readRel readRelation readRow readListed readPair)
def rowsS (st : Vamete.State) : List (List Int) := pRows st.high st.places
/-! ### first_unlike, alike, group -/
def unlikeN (st : Vamete.State) (t : Vamete.Turn) : Int := match Vamete.unlikeAt st.first (rowsS st) t with
  | none => -1
  | some i => (i : Int)
def unl (st : Vamete.State) (t : Vamete.Turn) (x : List Int) : Bool := !decide (VametBase.run st.first (Vamete.turned t x) = VametBase.run st.first x)
theorem unlike_eq (st : Vamete.State) (t : Vamete.Turn) : Vamete.unlikeAt st.first (rowsS st) t = (rowsS st).findIdx? (unl st t) := by
  unfold Vamete.unlikeAt
  congr 1
  funext x
  show (!(VametBase.run st.first (Vamete.turned t x) == VametBase.run st.first x)) = !decide _
  congr 1
  by_cases h : VametBase.run st.first (Vamete.turned t x) = VametBase.run st.first x
  · rw [decide_eq_true h, h]; simp
  · rw [decide_eq_false h]; simp [h]
theorem findIdx_some {α : Type} {p : α → Bool} {l : List α} {i : Nat} {x : α} (h : l[i]? = some x) (hx : p x = true) (hno : ∀ y ∈ l.take i, p y = false) : l.findIdx? p = some i := by
  obtain ⟨h1, h2⟩ := List.getElem?_eq_some_iff.mp h
  rw [List.findIdx?_eq_some_iff_getElem]
  refine ⟨h1, by rw [h2]; exact hx, fun j hj => ?_⟩
  have : l[j] ∈ l.take i := by
    rw [List.mem_take_iff_getElem]
    exact ⟨j, by omega, rfl⟩
  simpa using hno _ this
def a_first_unlike (CD : Addr) : List T → T → Prop := fun Ps R => ∃ (st : Vamete.State) (t : Vamete.Turn), Ps = [DeskP CD st, Isf 1 (dT t), OutP st.first (rowsS st)] ∧ okSt st ∧ t ∈ Vamete.allTurns st.places ∧ R = Is (.int (unlikeN st t))
theorem sc_first_unlike : FnScope ["desk", "turn", "outcomes", "number", "row"] ["desk", "turn", "outcomes"] (defScope s_first_unlike) := ⟨rfl, rfl, rfl, by decide +kernel, rfl, by decide +kernel, by decide +kernel⟩
theorem d_first_unlike (t : Txt K mg CR CD) : Def P w K mg base 6 "first_unlike" ["desk", "turn", "outcomes"] (Prom (a_first_unlike CD)) := by
  refine def_of t.f_first_unlike sc_first_unlike (fun _ _ ⟨_, _, h, _⟩ => h ▸ rfl) (fun _ _ _ _ _ _ us hl => match us, hl with | [_, _, _], _ => rfl) ?_
  intro f cdv A0 outer s H E vs Ps R Q hr hA ap hq
  obtain ⟨st, t1, rfl, ok, htm, rfl⟩ := hA
  obtain ⟨v, u, z, rfl, hv, hu, hz⟩ := allP3 ap
  have wf := turn_wf ok.1 htm
  have hn := ok.1
  unfold unlikeN at hq
  rw [unlike_eq] at hq
  refine go_forEnum (l := rowsS st) (enc := dRow) (f := 0) (n := 3) (m := 4) PassesOwn.never rfl t.b_enumerate (ev_drows t (vrP 0 (DeskP CD st) hv)) (pg2 rfl sc_first_unlike.nd) (fun A xs H1 e1 hA rA => ⟨fun i σ' H' => ∃ o3 o4, σ' = [some v, some u, some z, o3, o4] ∧ Ex H1 H' ∧ ∀ y ∈ (rowsS st).take i, unl st t1 y = false, ⟨none, none, rfl, Ex.refl _, fun y hy => by rw [List.take_zero] at hy; exact absurd hy List.not_mem_nil⟩, ?_, ?_, ?_⟩)
  · rintro i σ' H' _ ⟨o3, o4, rfl, x, hno⟩
    exact x _ _ hA
  · rintro i r vr' σ' H2 hi hvi pv ⟨o3, o4, rfl, x, hno⟩ H3 e3
    have hrm := List.mem_of_getElem? hi
    have hrl : r.length = st.places := pRows_each st.high st.places r hrm
    have e13 := (e1.trans x).trans e3
    have pv3 : IsD 0 H3 (dRow r) vr' := (pv.ex' x).ex' e3
    refine go_ifr (k := unl st t1 r) (et_as (et_neD (f := 0) (g := 0) (d1 := dOpt (VametBase.run st.first (Vamete.turned t1 r))) (d2 := dOpt (VametBase.run st.first r)) hr.units (ev_outAt (rows := rowsS st) hr.units (vrP 2 (OutP st.first (rowsS st)) (Sta.mono e13 hz)) (ev_call (d_turned t) (hr.mono (by omega)) (ea_cons (vr 1 (hu.ex' e13)) (ea_cons (vr 4 pv3) ea_nil)) ⟨st.places, 0, t1, r, rfl, wf, hrl, by omega, rfl⟩) (turned_mem wf hrm)) (ev_outAt (rows := rowsS st) hr.units (vrP 2 (OutP st.first (rowsS st)) (Sta.mono e13 hz)) (vr 4 pv3) hrm) ((fine_opt _).sh (by omega)) ((fine_opt _).sh (by omega))) (by rw [eqv_opt]; rfl)) (fun h H4 e4 => ?_) (fun h H4 e4 => ?_)
    · rw [findIdx_some hi h hno] at hq
      exact go_ret (vr 3 (.int (i : Int) : IsD 0 _ _ _)) fun v7 H7 e7 h7 => hq v7 H7 (e13.trans (e4.trans e7)) h7
    · refine go_nil ⟨_, _, rfl, (x.trans e3).trans e4, fun y hy => ?_⟩
      rw [List.take_add_one, hi] at hy
      rcases List.mem_append.mp hy with hy | hy
      · exact hno y hy
      · have hy : y ∈ [r] := hy
        rw [List.mem_singleton.mp hy]; exact h
  · rintro σ' H2 ⟨o3, o4, rfl, x, hno⟩
    rw [List.take_length] at hno
    have : (rowsS st).findIdx? (unl st t1) = none := List.findIdx?_eq_none_iff.mpr hno
    rw [this] at hq
    exact go_ret ev_negc fun v7 H7 e7 h7 => hq v7 H7 ((e1.trans x).trans e7) h7
def ansAlike (st : Vamete.State) (t : Vamete.Turn) : List Int := if unlikeN st t < 0 then [1] else [0, unlikeN st t]
def a_alike (CD : Addr) : List T → T → Prop := fun Ps R => ∃ (st : Vamete.State) (k : Int), Ps = [DeskP CD st, Is (.int k)] ∧ okSt st ∧ isTurn st k = true ∧ R = Is (dInts (ansAlike st (turnOf st k)))
theorem sc_alike : FnScope ["desk", "number", "found"] ["desk", "number"] (defScope s_alike) := ⟨rfl, rfl, rfl, by decide +kernel, rfl, by decide +kernel, by decide +kernel⟩
theorem d_alike (t : Txt K mg CR CD) : Def P w K mg base 7 "alike" ["desk", "number"] (Prom (a_alike CD)) := by
  refine def_of t.f_alike sc_alike (fun _ _ ⟨_, _, h, _⟩ => h ▸ rfl) (fun _ _ _ _ _ _ us hl => match us, hl with | [_, _], _ => rfl) ?_
  intro f cdv A0 outer s H E vs Ps R Q hr hA ap hq
  obtain ⟨st, k, rfl, ok, hk, rfl⟩ := hA
  obtain ⟨v, u, rfl, hv, hu⟩ := allP2 ap
  unfold ansAlike at hq
  refine go_set (n := 2) (ev_call (d_first_unlike t) (hr.mono (by omega)) (ea_cons (vrP 0 (DeskP CD st) hv) (ea_cons ((ev_turnAt hk (ev_dturns t (vrP 0 (DeskP CD st) hv)) (vr 1 hu)).imp fun _ _ _ p => p.up) (ea_cons (ev_meth0 (d_Desk_outcomes (P := P) (w := w) (base := base) t) (hr.mono (by omega)) (vrP 0 (DeskP CD st) hv) (desk_ins fun _ _ _ _ => rfl) ⟨st, rfl, ok, rfl⟩) ea_nil))) ⟨st, turnOf st k, rfl, ok, (turn_get hk).2.1, rfl⟩) (fun fv H1 e1 hf => ?_) sc_alike.nd
  refine go_ifr (et_lt (vr 2 hf) ev_int) (fun h H2 e2 => ?_) (fun h H2 e2 => ?_)
  · rw [if_pos (of_decide_eq_true h)] at hq
    exact go_ret (ev_lst (f := 0) (ds := [.int 1]) (ea_cons ev_int ea_nil) (by show 1 ≤ 1000; omega)) fun v7 H7 e7 h7 => hq v7 H7 ((e1.trans e2).trans e7) h7
  · rw [if_neg (of_decide_eq_false h)] at hq
    exact go_ret (ev_lst (f := 0) (ds := [.int 0, .int (unlikeN st (turnOf st k))]) (ea_cons ev_int (ea_cons (vr 2 (hf.ex' e2)) ea_nil)) (by show 2 ≤ 1000; omega)) fun v7 H7 e7 h7 => hq v7 H7 ((e1.trans e2).trans e7) h7
def grpI (st : Vamete.State) (j : Nat) : List Nat := (((Vamete.allTurns st.places).zipIdx.take j).filter fun z => decide (unlikeN st z.1 < 0)).map fun z => z.2
def ansGrp (st : Vamete.State) : List Int := ((grpI st (Vamete.allTurns st.places).length).length : Int) :: (grpI st (Vamete.allTurns st.places).length).map fun (n : Nat) => (n : Int)
theorem grpI_len (st : Vamete.State) (j : Nat) : (grpI st j).length ≤ j := by
  unfold grpI
  rw [List.length_map]
  refine Nat.le_trans (List.length_filter_le _ _) ?_
  rw [List.length_take]
  omega
theorem grpI_succ {st : Vamete.State} {j : Nat} {t : Vamete.Turn} (h : (Vamete.allTurns st.places)[j]? = some t) : grpI st (j + 1) = grpI st j ++ if unlikeN st t < 0 then [j] else [] := by
  unfold grpI
  have : (Vamete.allTurns st.places).zipIdx[j]? = some (t, j) := by rw [List.getElem?_zipIdx, h]; simp
  rw [List.take_add_one, this, List.filter_append, List.map_append]
  congr 1
  show (([(t, j)].filter fun z => decide (unlikeN st z.1 < 0)).map fun z => z.2) = _
  rw [List.filter_cons]
  by_cases hh : unlikeN st t < 0
  · rw [if_pos hh]
    show ((if decide (unlikeN st t < 0) = true then (t, j) :: [].filter _ else _).map fun z => z.2) = _
    rw [decide_eq_true hh, if_pos rfl]
    rfl
  · rw [if_neg hh]
    show ((if decide (unlikeN st t < 0) = true then (t, j) :: [].filter _ else [].filter _).map fun z => z.2) = _
    rw [decide_eq_false hh, if_neg Bool.false_ne_true]
    rfl
def a_group (CD : Addr) : List T → T → Prop := fun Ps R => ∃ (st : Vamete.State), Ps = [DeskP CD st] ∧ okSt st ∧ R = Is (dInts (ansGrp st))
theorem sc_group : FnScope ["desk", "outcomes", "found", "number", "turn"] ["desk"] (defScope s_group) := ⟨rfl, rfl, rfl, by decide +kernel, rfl, by decide +kernel, by decide +kernel⟩
theorem d_group (t : Txt K mg CR CD) : Def P w K mg base 7 "group" ["desk"] (Prom (a_group CD)) := by
  refine def_of t.f_group sc_group (fun _ _ ⟨_, h, _⟩ => h ▸ rfl) (fun _ _ _ _ _ _ us hl => match us, hl with | [_], _ => rfl) ?_
  intro f cdv A0 outer s H E vs Ps R Q hr hA ap hq
  obtain ⟨st, rfl, ok, rfl⟩ := hA
  obtain ⟨v, rfl, hv⟩ := allP1 ap
  have hlenT := allTurns_len st.places ok.1
  refine go_set (n := 1) (ev_meth0 (d_Desk_outcomes (P := P) (w := w) (base := base) t) (hr.mono (by omega)) (vrP 0 (DeskP CD st) hv) (desk_ins fun _ _ _ _ => rfl) ⟨st, rfl, ok, rfl⟩) (fun ov H1 e1 ho => ?_) sc_group.nd
  refine go_set (n := 2) (P := NewL 0 H1 []) ev_nil (fun fv H2 e2 hf => ?_) sc_group.nd
  obtain ⟨B, ys, rfl, hB0, hB, rB⟩ := hf
  have mono : ∀ {H H' : Hp} {v : V}, Ex H H' → DeskP CD st H v → DeskP CD st H' v := fun e h => Sta.mono e h
  have monoO : ∀ {H H' : Hp} {v : V}, Ex H H' → OutP st.first (rowsS st) H v → OutP st.first (rowsS st) H' v := fun e h => Sta.mono e h
  have hne : Vamete.allTurns st.places ≠ [] := fun z => by
    have := same_mem ok.1
    rw [z] at this
    exact absurd this List.not_mem_nil
  refine go_forEnum (l := Vamete.allTurns st.places) (enc := dT) (f := 2) (n := 3) (m := 4) PassesOwn.never rfl t.b_enumerate (ev_dturns t (vrP 0 (DeskP CD st) (mono (e1.trans e2) hv))) (pg2 rfl sc_group.nd) (fun A xs H3 e3 hA rA => ?_)
  have hAB : A ≠ B := fun z => by
    subst z
    rw [e3 _ _ hB] at hA
    cases hA
    cases rB
    have := rA.length
    rw [List.length_map] at this
    exact hne (List.eq_nil_of_length_eq_zero this.symm)
  refine ⟨fun i σ' H' => ∃ o3 o4, σ' = [some v, some ov, some (.ref B), o3, o4] ∧ Acc 0 H1 B ((grpI st i).map dN) H' ∧ H' A = some (.lst xs) ∧ Tx H3 H', ⟨none, none, rfl, ⟨e2.trans e3, ys, e3 _ _ hB, IsAll.ex e3 _ _ rB⟩, hA, Tx.refl _⟩, ?_, ?_, ?_⟩
  · rintro i σ' H' _ ⟨o3, o4, rfl, ac, hA1, tx⟩
    exact hA1
  · rintro i t1 vt σ' H4 hi hvi pv ⟨o3, o4, rfl, ac, hA1, tx⟩ H5 e5
    have htm := List.mem_of_getElem? hi
    have hil : i < (Vamete.allTurns st.places).length := (List.getElem?_eq_some_iff.mp hi).1
    have ac5 := ac.up e5
    have pv5 : IsD 2 H5 (dT t1) vt := IsD.tx (tx.trans (tx_of e5)) _ _ (imm_dT _) pv
    have hs := grpI_succ hi
    refine go_if (et_lt (ev_call (d_first_unlike t) (hr.mono (by omega)) (ea_cons (vrP 0 (DeskP CD st) (mono (e1.trans ac5.ex) hv)) (ea_cons (vr 4 pv5.up) (ea_cons (vrP 1 (OutP st.first (rowsS st)) (monoO ac5.ex ho)) ea_nil))) ⟨st, t1, rfl, ok, htm, rfl⟩) ev_int) (fun h H6 e6 => ?_) (fun h H6 e6 => ?_)
    · rw [if_pos (of_decide_eq_true h)] at hs
      obtain ⟨x6, zs, hB6, r6⟩ := ac5.up e6
      have hgl := grpI_len st i
      refine go_app (P := Is (dN i)) (vrR 2 B) hB6 (by rw [r6.length, List.length_map]; omega) (vr 3 (.int (i : Int) : IsD 0 _ _ _)) (fun y H7 e7 hy => go_nil (go_nil ⟨_, _, rfl, ?_, ?_, ?_⟩))
      · rw [hs, List.map_append]
        exact Acc.put hB0 (x6.trans e7) (e7 _ _ hB6) (IsAll.ex e7 _ _ r6) (.cons hy .nil) (imms_map (fun _ => rfl) _) rfl
      · rw [upd_ne hAB]
        exact e7 _ _ (e6 _ _ (e5 _ _ hA1))
      · exact (tx.trans (tx_of ((e5.trans e6).trans e7))).trans (tx_upd fun u h s => by rw [e7 _ _ hB6] at h; cases h; exact s)
    · rw [if_neg (of_decide_eq_false h), List.append_nil] at hs
      exact go_nil (go_nil ⟨_, _, rfl, by rw [hs]; exact ac5.up e6, e6 _ _ (e5 _ _ hA1), tx.trans (tx_of (e5.trans e6))⟩)
  · rintro σ' H4 ⟨o3, o4, rfl, ac, hA1, tx⟩
    have hgl := grpI_len st (Vamete.allTurns st.places).length
    have hdI : ∀ l : List Nat, PyData.list (l.map dN) = dInts (l.map fun (n : Nat) => (n : Int)) := fun l => by
      unfold dInts
      rw [List.map_map]
      rfl
    have hfin : IsD 0 H4 (dInts ((grpI st (Vamete.allTurns st.places).length).map fun (n : Nat) => (n : Int))) (.ref B) := by rw [← hdI]; exact ac.is
    refine go_ret (ev_catI (f := 0) (l := [((grpI st (Vamete.allTurns st.places).length).length : Int)]) (ev_as (ev_lst (f := 0) (ds := [.int (((grpI st (Vamete.allTurns st.places).length).map fun (n : Nat) => (n : Int)).map PyData.int).length]) (ea_cons (ev_lenL (f := 0) rfl t.b_len (vr 2 hfin)) ea_nil) (by show 1 ≤ 1000; omega)) (by rw [List.length_map, List.length_map]; rfl)) (vr 2 hfin) (by rw [List.length_map]; show 1 + _ ≤ _; omega)) fun v7 H7 e7 h7 => hq v7 H7 ((e1.trans ac.ex).trans e7) h7
/-! ### goes_with, partner -/
def AllRows (st : Vamete.State) (m : Nat) : Prop := ∀ r ∈ rowsS st, ∃ y, VametBase.run st.first r = some y ∧ y.length = m
def a_goes_with (CD : Addr) : List T → T → Prop := fun Ps R => ∃ (st : Vamete.State) (t u : Vamete.Turn) (m : Nat), Ps = [DeskP CD st, Isf 1 (dT t), Isf 1 (dT u), OutP st.first (rowsS st)] ∧ okSt st ∧ t ∈ Vamete.allTurns st.places ∧ m ≤ 4 ∧ u ∈ Vamete.allTurns m ∧ AllRows st m ∧ R = Is (.bool (Vamete.goesWith st.first (rowsS st) t u))
theorem sc_goes_with : FnScope ["desk", "turn", "other", "outcomes", "row"] ["desk", "turn", "other", "outcomes"] (defScope s_goes_with) := ⟨rfl, rfl, rfl, by decide +kernel, rfl, by decide +kernel, by decide +kernel⟩
theorem d_goes_with (t : Txt K mg CR CD) : Def P w K mg base 6 "goes_with" ["desk", "turn", "other", "outcomes"] (Prom (a_goes_with CD)) := by
  refine def_of t.f_goes_with sc_goes_with (fun _ _ ⟨_, _, _, _, h, _⟩ => h ▸ rfl) (fun _ _ _ _ _ _ us hl => match us, hl with | [_, _, _, _], _ => rfl) ?_
  intro f cdv A0 outer s H E vs Ps R Q hr hA ap hq
  obtain ⟨st, t1, u1, m, rfl, ok, htm, hm, hum, hall, rfl⟩ := hA
  obtain ⟨v, u, z, y, rfl, hv, hu, hz, hy⟩ := allP4 ap
  have wf := turn_wf ok.1 htm
  have wfu := turn_wf hm hum
  have hn := ok.1
  have hgw : Vamete.goesWith st.first (rowsS st) t1 u1 = (rowsS st).all fun x => VametBase.run st.first (Vamete.turned t1 x) == (VametBase.run st.first x).map (Vamete.turned u1) := rfl
  refine go_forL (l := rowsS st) (enc := dRow) (f := 0) (gt := gName 4) PassesOwn.never rfl (ev_drows t (vrP 0 (DeskP CD st) hv)) (pgv sc_goes_with.nd) (fun A xs H1 e1 hA rA => ⟨fun i σ' H' => ∃ o4, σ' = [some v, some u, some z, some y, o4] ∧ Ex H1 H' ∧ ∀ x ∈ (rowsS st).take i, (VametBase.run st.first (Vamete.turned t1 x) == (VametBase.run st.first x).map (Vamete.turned u1)) = true, ⟨none, rfl, Ex.refl _, fun y hy => by rw [List.take_zero] at hy; exact absurd hy List.not_mem_nil⟩, ?_, ?_, ?_⟩)
  · rintro i σ' H' _ ⟨o4, rfl, x, hno⟩
    exact x _ _ hA
  · rintro i r vr' σ' H2 hi hvi pv ⟨o4, rfl, x, hno⟩
    have hrm := List.mem_of_getElem? hi
    have hrl : r.length = st.places := pRows_each st.high st.places r hrm
    obtain ⟨yr, hyr, hyl⟩ := hall r hrm
    have e12 := e1.trans x
    have pv2 : IsD 0 H2 (dRow r) vr' := pv.ex' x
    refine go_ifr (k := !decide (VametBase.run st.first (Vamete.turned t1 r) = some (Vamete.turned u1 yr))) (et_as (et_neD (f := 0) (g := 0) (d1 := dOpt (VametBase.run st.first (Vamete.turned t1 r))) (d2 := dOpt (some (Vamete.turned u1 yr))) hr.units (ev_outAt (rows := rowsS st) hr.units (vrP 3 (OutP st.first (rowsS st)) (Sta.mono e12 hy)) (ev_call (d_turned t) (hr.mono (by omega)) (ea_cons (vr 1 (hu.ex' e12)) (ea_cons (vr 4 pv2) ea_nil)) ⟨st.places, 0, t1, r, rfl, wf, hrl, by omega, rfl⟩) (turned_mem wf hrm)) (ev_call (d_turned t) (hr.mono (by omega)) (ea_cons (vr 2 (hz.ex' e12)) (ea_cons (P := Is (dRow yr)) (ev_as (ev_outAt (rows := rowsS st) hr.units (vrP 3 (OutP st.first (rowsS st)) (Sta.mono e12 hy)) (vr 4 pv2) hrm) (by rw [hyr]; rfl)) ea_nil)) ⟨m, 0, u1, yr, rfl, wfu, hyl, by omega, rfl⟩) ((fine_opt _).sh (by omega)) ((fine_opt _).sh (by omega))) (by rw [eqv_opt])) (fun h H4 e4 => ?_) (fun h H4 e4 => ?_)
    · have h : VametBase.run st.first (Vamete.turned t1 r) ≠ some (Vamete.turned u1 yr) := by simpa using h
      have : Vamete.goesWith st.first (rowsS st) t1 u1 = false := by
        rw [hgw, List.all_eq_false]
        refine ⟨r, hrm, ?_⟩
        rw [hyr]
        simpa using h
      rw [this] at hq
      exact go_ret ev_bl fun v7 H7 e7 h7 => hq v7 H7 (e12.trans (e4.trans e7)) h7
    · have h : VametBase.run st.first (Vamete.turned t1 r) = some (Vamete.turned u1 yr) := by simpa using h
      refine go_nil ⟨_, rfl, x.trans e4, fun q hq => ?_⟩
      rw [List.take_add_one, hi] at hq
      rcases List.mem_append.mp hq with hq | hq
      · exact hno q hq
      · have hq : q ∈ [r] := hq
        rw [List.mem_singleton.mp hq, hyr, h]
        simp
  · rintro σ' H2 ⟨o4, rfl, x, hno⟩
    rw [List.take_length] at hno
    have : Vamete.goesWith st.first (rowsS st) t1 u1 = true := by
      rw [hgw, List.all_eq_true]
      exact hno
    rw [this] at hq
    exact go_ret ev_bl fun v7 H7 e7 h7 => hq v7 H7 ((e1.trans x).trans e7) h7
end
end TG
set_option Elab.async false
set_option linter.all false
set_option maxRecDepth 100000
set_option maxHeartbeats 2000000
namespace TG
open PySem PySem.Spec PyProof.Rows L2
open Evl (Ex ex_l ex_t fresh_back)
section
variable {P : Program} {w : World} {K : PySem.W.Frag} {mg : Str → Option Value} {base : Heap} {CR CD : Addr}
open VametBase (readStep readNat readInt readProgram readTimes readCond readRel readRelation readRow readListed readPair)
/-! ### partner -/
theorem mapM_opt {α β : Type} (f : α → Option β) (d : β) : ∀ xs : List α, xs.mapM f = if xs.all (fun x => (f x).isSome) then some (xs.map fun x => (f x).getD d) else none
  | [] => rfl
  | x :: xs => by
    rw [List.mapM_cons, mapM_opt f d xs]
    cases h : f x with
    | none => simp [h]
    | some y =>
      by_cases hx : xs.all (fun x => (f x).isSome) = true
      · simp [hx, h]
      · simp [hx, h]
theorem eqv_non (o : Option (List Int)) : PyData.eqv (dOpt o) .none = o.isNone := by
  have := eqv_opt o none
  cases o <;> exact this
theorem et_noneIn {X : Cx} {σ : L2.St} {H : Hp} {b : Expr} {pos p1 : Pos} {n : Nat} {os : List (Option (List Int))} (hu : X.A.units + 65 < cLine) (hb : EvE X b σ H (Is (.list (os.map dOpt)))) (hm : behindInMarks .In b = false := by rfl) : EvT X (.Compare (.Constant .none n p1) [.In] [b] pos) σ H (os.any Option.isNone) :=
  et_cmp (op_inD hu) ev_non hb (fun x y H1 _ p1 p2 Q q => by
    refine ⟨.none, os.map dOpt, IsD.dp _ _ p1, IsD.dp _ _ p2, fine_none.sh (by omega), (fine_lst (fine_map fine_opt os)).sh (by omega), ?_⟩
    have : ((os.map dOpt).any fun z => PyData.eqv z .none) = os.any Option.isNone := by
      rw [List.any_map]
      congr 1
      funext o
      exact eqv_non o
    rw [this]
    exact q H1 (Ex.refl H1)) hm
def ansPartner (st : Vamete.State) (t : Vamete.Turn) : List Int := match Vamete.partner st.first (rowsS st) t with
  | none => [0]
  | some u => [1, (u.1 : Int), (Vamete.numberOf u.1 u.2 : Int)]
theorem rowsS_ne (st : Vamete.State) : rowsS st ≠ [] := fun z => by
  have := pRows_len st.high st.places
  rw [show pRows st.high st.places = [] from z] at this
  have h2 : 0 < (2 * st.high + 1) ^ st.places := Nat.pow_pos (by omega)
  rw [← this] at h2
  exact absurd h2 (Nat.lt_irrefl 0)
def rowY (st : Vamete.State) (r : List Int) : List Int := (VametBase.run st.first r).getD []
theorem units65 {k : Nat} {A : Around} (r : Room k A) : A.units + 65 < cLine := by have := r.un; omega
def a_partner (CD : Addr) : List T → T → Prop := fun Ps R => ∃ (st : Vamete.State) (k : Int), Ps = [DeskP CD st, Is (.int k)] ∧ okSt st ∧ isTurn st k = true ∧ R = Is (dInts (ansPartner st (turnOf st k)))
theorem sc_partner : FnScope ["desk", "number", "outcomes", "some", "many", "at", "other", "row", "outcome"] ["desk", "number"] (defScope s_partner) := ⟨rfl, rfl, rfl, by decide +kernel, rfl, by decide +kernel, by decide +kernel⟩
theorem d_partner (t : Txt K mg CR CD) : Def P w K mg base 7 "partner" ["desk", "number"] (Prom (a_partner CD)) := by
  refine def_of t.f_partner sc_partner (fun _ _ ⟨_, _, h, _⟩ => h ▸ rfl) (fun _ _ _ _ _ _ us hl => match us, hl with | [_, _], _ => rfl) ?_
  intro f cdv A0 outer s H E vs Ps R Q hr hA ap hq
  obtain ⟨st, k, rfl, ok, hk, rfl⟩ := hA
  obtain ⟨v, u, rfl, hv, hu⟩ := allP2 ap
  have mono : ∀ {H H' : Hp} {v : V}, Ex H H' → DeskP CD st H v → DeskP CD st H' v := fun e h => Sta.mono e h
  have monoO : ∀ {H H' : Hp} {v : V}, Ex H H' → OutP st.first (rowsS st) H v → OutP st.first (rowsS st) H' v := fun e h => Sta.mono e h
  have hsm : (rowsS st).length ≤ 130 := rows_small ok
  have htm := (turn_get hk).2.1
  have hpart : Vamete.partner st.first (rowsS st) (turnOf st k) = (Vamete.lengthOf st.first (rowsS st)).bind fun m => if 4 < m then none else ((Vamete.allTurns m).find? (Vamete.goesWith st.first (rowsS st) (turnOf st k))).map fun u => (m, u) := rfl
  have hlo : Vamete.lengthOf st.first (rowsS st) = (match (rowsS st).mapM (VametBase.run st.first) with | none => none | some [] => none | some (y :: l) => if l.all fun z => z.length == y.length then some y.length else none) := rfl
  rw [mapM_opt _ []] at hlo
  unfold ansPartner at hq
  refine go_set (n := 2) (ev_meth0 (d_Desk_outcomes (P := P) (w := w) (base := base) t) (hr.mono (by omega)) (vrP 0 (DeskP CD st) hv) (desk_ins fun _ _ _ _ => rfl) ⟨st, rfl, ok, rfl⟩) (fun ov H1 e1 ho => ?_) sc_partner.nd
  replace ho : OutP st.first (rowsS st) H1 ov := ho
  refine go_setLc0 (n := 3) (f := 0) (g := 0) (l := rowsS st) (enc := dRow) (F := fun r => dOpt (VametBase.run st.first r)) (j := 7) rfl sc_partner.nd (src_list (ev_drows t (vrP 0 (DeskP CD st) (mono e1 hv)))) (blkOk_by (N := ["desk", "number", "outcomes", "some", "many", "at", "other", "row", "outcome"]) (sc := defScope s_partner) (by decide +kernel)) (by omega) (fun _ _ => imm_opt _) (fun _ _ _ _ _ => pgv sc_partner.nd) (fun r hr0 H2 w e2 hw => fun s' H0 C cl fp => ev_outAt hr.units (vrP 2 (OutP st.first (rowsS st)) (monoO e2 ho)) (vr 7 hw) hr0) (fun sv H2 e2 hs => ?_)
  have hmm : (rowsS st).map (fun r => dOpt (VametBase.run st.first r)) = ((rowsS st).map (VametBase.run st.first)).map dOpt := by rw [List.map_map]; rfl
  rw [hmm] at hs
  have x12 := e2
  replace e2 := e1.trans e2
  refine go_ifr (et_noneIn (units65 hr) (vr 3 hs)) (fun h0 H3 e3 => ?_) (fun h0 H3 e3 => ?_)
  · have : (rowsS st).all (fun x => (VametBase.run st.first x).isSome) = false := by
      rw [List.any_map, List.any_eq_true] at h0
      obtain ⟨r, h1, h2⟩ := h0
      rw [List.all_eq_false]
      refine ⟨r, h1, ?_⟩
      have h2 : (VametBase.run st.first r).isNone = true := h2
      cases hh : VametBase.run st.first r with
      | none => simp
      | some y => rw [hh] at h2; cases h2
    rw [this, if_neg Bool.false_ne_true] at hlo
    rw [hpart, hlo] at hq
    exact go_ret (ev_lst (f := 0) (ds := [.int 0]) (ea_cons ev_int ea_nil) (by show 1 ≤ 1000; omega)) fun v7 H7 e7 h7 => hq v7 H7 ((e2.trans e3).trans e7) h7
  have hsome : ∀ r ∈ rowsS st, VametBase.run st.first r = some (rowY st r) := fun r hrm => by
    rw [List.any_map, List.any_eq_false] at h0
    have h2 := h0 r hrm
    unfold rowY
    cases hh : VametBase.run st.first r with
    | none => exact absurd (by show (VametBase.run st.first r).isNone = true; rw [hh]; rfl) h2
    | some y => rfl
  have hal : (rowsS st).all (fun x => (VametBase.run st.first x).isSome) = true := by
    rw [List.all_eq_true]
    exact fun r hrm => by rw [hsome r hrm]; rfl
  rw [hal, if_pos rfl] at hlo
  have hs' : IsD 0 H2 (.list ((rowsS st).map fun r => dRow (rowY st r))) sv := by
    have : ((rowsS st).map (VametBase.run st.first)).map dOpt = (rowsS st).map fun r => dRow (rowY st r) := by
      rw [List.map_map]
      refine List.map_congr_left fun r hrm => ?_
      show dOpt (VametBase.run st.first r) = _
      rw [hsome r hrm]
      rfl
    rw [← this]
    exact hs
  obtain ⟨r0, rs, hrs⟩ := List.exists_cons_of_ne_nil (rowsS_ne st)
  have hlo2 : Vamete.lengthOf st.first (rowsS st) = if rs.all (fun z => (rowY st z).length == (rowY st r0).length) then some (rowY st r0).length else none := by
    rw [hlo, hrs, List.map_cons]
    show (if (rs.map fun x => (VametBase.run st.first x).getD []).all (fun z => z.length == ((VametBase.run st.first r0).getD []).length) then _ else none) = _
    rw [List.all_map]
    rfl
  have hm0 : (rowY st r0).length ≤ 40 := by
    have hrm : r0 ∈ rowsS st := by rw [hrs]; exact List.mem_cons_self
    have h1 := pRows_each st.high st.places r0 hrm
    have h2 := ok.1
    exact run_len st.first (by omega) (hsome r0 hrm)
  generalize hM : (rowY st r0).length = M at hlo2 hm0
  have hs3 := hs'.ex' e3
  have x13 := x12.trans e3
  replace e3 := e2.trans e3
  refine go_set (n := 4) (P := Is (dN M)) (ev_as (ev_lenR (f := 0) (l := rowY st r0) rfl t.b_len (ev_ixL (f := 0) (ds := (rowsS st).map fun r => dRow (rowY st r)) (d := dRow (rowY st r0)) (vr 3 hs3) (ev_int (k := ((0 : Nat) : Int))) (atI_nat (by rw [hrs]; rfl)))) (by rw [hM])) (fun mv H4 e4 hmv => ?_) sc_partner.nd
  have hs4 := hs3.ex' e4
  have x14 := x13.trans e4
  replace e4 := e3.trans e4
  have hlo3 : Vamete.lengthOf st.first (rowsS st) = if (rowsS st).all (fun r => decide ((rowY st r).length = M)) then some M else none := by
    rw [hlo2, hrs, List.all_cons, hM, decide_eq_true rfl, Bool.true_and]
    have : (rs.all fun z => (rowY st z).length == M) = rs.all fun r => decide ((rowY st r).length = M) := by
      congr 1
    rw [this]
  refine go_ifr (et_or (k := decide (4 < M)) (l := !(rowsS st).all (fun r => decide ((rowY st r).length = M))) (et_as (et_gt (vr 4 hmv) (ev_glob t.c_MOST_PLACES)) (by by_cases h : 4 < M <;> simp [h] <;> omega)) (fun _ => et_or1 (et_not (et_val (ev_as (ev_all (f := 0) (bs := (rowsS st).map fun r => decide ((rowY st r).length = M)) rfl t.b_all ?_) ?_))))).et (fun h5 H5 e5 => ?_) (fun h5 H5 e5 => ?_)
  · rw [List.map_map]
    refine ev_lc0 (f := 0) (g := 0) (l := rowsS st) (enc := fun r => dRow (rowY st r)) (F := fun r => .bool (decide ((rowY st r).length = M))) (j := 8) rfl sc_partner.nd (src_list (vr 3 hs4)) (blkOk_by (N := ["desk", "number", "outcomes", "some", "many", "at", "other", "row", "outcome"]) (sc := defScope s_partner) (by decide +kernel)) (by omega) (fun _ _ => rfl) (fun _ _ _ _ _ => pgv sc_partner.nd) (fun z hz H6 w e6 hw => fun s' H0 C cl fp => ev_as (ev_eq (ev_lenR rfl t.b_len (vr 8 hw)) (vr 4 (hmv.ex' e6))) (by rw [dec_int_nat]))
  · rw [List.all_map]
    rfl
  · have : Vamete.partner st.first (rowsS st) (turnOf st k) = none := by
      rw [hpart, hlo3]
      rcases Bool.or_eq_true_iff.mp h5 with h | h
      · have h := of_decide_eq_true h
        split
        · show (if 4 < M then none else _) = none
          rw [if_pos h]
        · rfl
      · rw [Bool.not_eq_true'] at h
        rw [h]
        rfl
    rw [this] at hq
    exact go_ret (ev_lst (f := 0) (ds := [.int 0]) (ea_cons ev_int ea_nil) (by show 1 ≤ 1000; omega)) fun v7 H7 e7 h7 => hq v7 H7 ((e4.trans e5).trans e7) h7
  obtain ⟨hM4, hallB⟩ := Bool.or_eq_false_iff.mp h5
  have hM4 : M ≤ 4 := by have := of_decide_eq_false hM4; omega
  have hallB : (rowsS st).all (fun r => decide ((rowY st r).length = M)) = true := by simpa using hallB
  rw [hallB, if_pos rfl] at hlo3
  have hpart2 : Vamete.partner st.first (rowsS st) (turnOf st k) = ((Vamete.allTurns M).find? (Vamete.goesWith st.first (rowsS st) (turnOf st k))).map fun u => (M, u) := by
    rw [hpart, hlo3]
    show (if 4 < M then none else _) = _
    rw [if_neg (by omega)]
  rw [hpart2] at hq
  have hAR : AllRows st M := fun r hrm => ⟨rowY st r, hsome r hrm, of_decide_eq_true (List.all_eq_true.mp hallB r hrm)⟩
  replace hmv := hmv.ex' e5
  have x15 := x14.trans e5
  replace e5 := e4.trans e5
  refine go_forEnum (l := Vamete.allTurns M) (enc := dT) (f := 2) (n := 5) (m := 6) PassesOwn.never rfl t.b_enumerate (ev_call (d_all_turns t) (hr.mono (by omega)) (ea_cons (vr 4 hmv) ea_nil) ⟨M, rfl, hM4, rfl⟩) (pg2 rfl sc_partner.nd) (fun A xs H6 e6 hA rA => ⟨fun i σ' H' => ∃ o5 o6, σ' = [some v, some u, some ov, some sv, some mv, o5, o6, none, none] ∧ Ex H6 H' ∧ ∀ y ∈ (Vamete.allTurns M).take i, Vamete.goesWith st.first (rowsS st) (turnOf st k) y = false, ⟨none, none, rfl, Ex.refl _, fun y hy => by rw [List.take_zero] at hy; exact absurd hy List.not_mem_nil⟩, ?_, ?_, ?_⟩)
  · rintro i σ' H' _ ⟨o5, o6, rfl, x, hno⟩
    exact x _ _ hA
  · rintro i u1 vu σ' H7 hi hvi pv ⟨o5, o6, rfl, x, hno⟩ H8 e8
    have hum := List.mem_of_getElem? hi
    have e08 := (e5.trans e6).trans (x.trans e8)
    have e18 : Ex H1 H8 := (x15.trans e6).trans (x.trans e8)
    refine go_ifr (et_val (ev_call (d_goes_with t) (hr.mono (by omega)) (ea_cons (vrP 0 (DeskP CD st) (mono e08 hv)) (ea_cons ((ev_turnAt hk (ev_dturns t (vrP 0 (DeskP CD st) (mono e08 hv))) (vr 1 (hu.ex' e08))).imp fun _ _ _ p => p.up) (ea_cons (vr 6 ((pv.ex' (x.trans e8)).up)) (ea_cons (vrP 2 (OutP st.first (rowsS st)) (monoO e18 ho)) ea_nil)))) ⟨st, turnOf st k, u1, M, rfl, ok, htm, hM4, hum, hAR, rfl⟩)) (fun h H9 e9 => ?_) (fun h H9 e9 => ?_)
    · have hfind : (Vamete.allTurns M).find? (Vamete.goesWith st.first (rowsS st) (turnOf st k)) = some u1 := by
        have hsplit : Vamete.allTurns M = (Vamete.allTurns M).take i ++ u1 :: (Vamete.allTurns M).drop (i + 1) := by
          obtain ⟨h1, h2⟩ := List.getElem?_eq_some_iff.mp hi
          rw [← h2, ← List.drop_eq_getElem_cons h1, List.take_append_drop]
        rw [hsplit, List.find?_append, List.find?_eq_none.mpr fun y hy => by rw [hno y hy]; exact Bool.false_ne_true, List.find?_cons, h]
        rfl
      have hnum : Vamete.numberOf M u1 = i := by
        obtain ⟨g1, g2, g3⟩ := idx_at hum
        show (Vamete.allTurns M).findIdx (fun s => s == u1) = i
        generalize (Vamete.allTurns M).findIdx (fun s => s == u1) = j at g1 g2 g3
        rcases Nat.lt_trichotomy j i with hlt | heq | hgt
        · exfalso
          obtain ⟨h1, h2⟩ := List.getElem?_eq_some_iff.mp hi
          obtain ⟨h3, h4⟩ := List.getElem?_eq_some_iff.mp g1
          exact (List.pairwise_iff_getElem.mp (turns_nodup hM4)) j i h3 h1 hlt (h4.trans h2.symm)
        · exact heq
        · exact absurd hi (g2 i hgt)
      have hq : ∀ (v : V) (H' : Hp), Ex H H' → Is (dInts [1, (M : Int), (i : Int)]) H' v → Q v H' := by
        rw [hfind] at hq
        have hq : ∀ (v : V) (H' : Hp), Ex H H' → Is (dInts [1, (M : Int), (Vamete.numberOf M u1 : Int)]) H' v → Q v H' := hq
        rw [hnum] at hq
        exact hq
      exact go_ret (ev_lst (f := 0) (ds := [.int 1, .int (M : Int), .int (i : Int)]) (ea_cons ev_int (ea_cons (vr 4 ((hmv.ex' (e6.trans (x.trans e8))).ex' e9)) (ea_cons (vr 5 (.int (i : Int) : IsD 0 _ _ _)) ea_nil))) (by show 3 ≤ 1000; omega)) fun v7 HA eA h7 => hq v7 HA (e08.trans (e9.trans eA)) h7
    · refine go_nil ⟨_, _, rfl, (x.trans e8).trans e9, fun y hy => ?_⟩
      rw [List.take_add_one, hi] at hy
      rcases List.mem_append.mp hy with hy | hy
      · exact hno y hy
      · have hy : y ∈ [u1] := hy
        rw [List.mem_singleton.mp hy]; exact h
  · rintro σ' H7 ⟨o5, o6, rfl, x, hno⟩
    rw [List.take_length] at hno
    have : (Vamete.allTurns M).find? (Vamete.goesWith st.first (rowsS st) (turnOf st k)) = none := List.find?_eq_none.mpr fun y hy => by rw [hno y hy]; exact Bool.false_ne_true
    rw [this] at hq
    exact go_ret (ev_lst (f := 0) (ds := [.int 0]) (ea_cons ev_int ea_nil) (by show 1 ≤ 1000; omega)) fun v7 H8 e7 h7 => hq v7 H8 (((e5.trans e6).trans x).trans e7) h7
end
end TG
set_option Elab.async false
set_option linter.all false
set_option maxRecDepth 100000
set_option maxHeartbeats 2000000
namespace TG
open PySem PySem.Spec PyProof.Rows L2
open Evl (Ex ex_l ex_t fresh_back)
section
variable {P : Program} {w : World} {K : PySem.W.Frag} {mg : Str → Option Value} {base : Heap} {CR CD : Addr}
open VametBase (readStep readNat readInt readProgram readTimes readCond readRel readRelation readRow readListed readPair)
theorem et_isNo {X : Cx} {σ : L2.St} {H : Hp} {a : Expr} {pos p2 : Pos} {n : Nat} {CR : Addr} {o : Option VametBase.Relation} (ha : EvE X a σ H (RelO CR o)) : EvT X (.Compare a [.Is] [.Constant .none n p2] pos) σ H o.isNone := fun H1 e1 Q q =>
  w_T (pt_cmp (pc_isN (pE a))) (ha H1 e1 _ fun v H2 e2 p => by
    cases o with
    | none => cases p; exact ⟨true, rfl, q H2 e2⟩
    | some r =>
      obtain ⟨x, dx, fs, vb, va, rfl, _⟩ := p
      exact ⟨false, rfl, q H2 e2⟩)
/-! ### chain -/
def ansChain (l m : List Int) : List Int := match VametBase.whole readRelation l, VametBase.whole readRelation m with
  | some a, some b => (match Vamete.chained a b with
    | none => [0]
    | some c => 1 :: VametBase.flatRelation c)
  | _, _ => [-5]
theorem chained_ok {a b c : VametBase.Relation} (ha : okRel a) (hb : okRel b) (h : Vamete.chained a b = some c) : okRel c := by
  unfold Vamete.chained at h
  split at h
  · injection h with h
    rw [← h]
    exact ⟨ha.i, hb.o, ha.li, hb.lo⟩
  · cases h
def a_chain : List T → T → Prop := fun Ps R => ∃ (l m : List Int), Ps = [Is (dInts l), Is (dInts m)] ∧ R = Is (dInts (ansChain l m))
theorem sc_chain : FnScope ["told", "other", "one", "two", "found"] ["told", "other"] (defScope s_chain) := ⟨rfl, rfl, rfl, by decide +kernel, rfl, by decide +kernel, by decide +kernel⟩
theorem d_chain (t : Txt K mg CR CD) : Def P w K mg base 6 "chain" ["told", "other"] (Prom a_chain) := by
  refine def_of t.f_chain sc_chain (fun _ _ ⟨_, _, h, _⟩ => h ▸ rfl) (fun _ _ _ _ _ _ us hl => match us, hl with | [_, _], _ => rfl) ?_
  intro f cdv A0 outer s H E vs Ps R Q hr hA ap hq
  obtain ⟨l, m, rfl, rfl⟩ := hA
  obtain ⟨v, u, rfl, hv, hu⟩ := allP2 ap
  have mono : ∀ {H H' : Hp} {v : V} {o : Option VametBase.Relation}, Ex H H' → RelO CR o H v → RelO CR o H' v := fun e h => Sta.mono e h
  refine go_set (n := 2) (ev_call (d_relation_of t) (hr.mono (by omega)) (ea_cons (vr 0 hv) ea_nil) ⟨l, rfl, rfl⟩) (fun av H1 e1 ha => ?_) sc_chain.nd
  refine go_set (n := 3) (ev_call (d_relation_of t) (hr.mono (by omega)) (ea_cons (vr 1 (hu.ex' e1)) ea_nil) ⟨m, rfl, rfl⟩) (fun bv H2 e2 hb => ?_) sc_chain.nd
  replace ha := mono e2 ha
  unfold ansChain at hq
  refine go_ifr (et_or (et_isNo (vrP 2 (RelO CR _) ha)) (fun _ => et_or1 (et_isNo (vrP 3 (RelO CR _) hb)))).et (fun h H3 e3 => ?_) (fun h H3 e3 => ?_)
  · have : ∀ (v : V) (H' : Hp), Ex H H' → Is (dInts [-5]) H' v → Q v H' := by
      cases h1 : VametBase.whole readRelation l with
      | none => rw [h1] at hq; exact hq
      | some a =>
        cases h2 : VametBase.whole readRelation m with
        | none => rw [h1, h2] at hq; exact hq
        | some b => rw [h1, h2] at h; cases h
    exact go_ret ev_neg1 fun v7 H7 e7 h7 => this v7 H7 ((e1.trans e2).trans (e3.trans e7)) h7
  obtain ⟨g1, g2⟩ := Bool.or_eq_false_iff.mp h
  cases h1 : VametBase.whole readRelation l with
  | none => rw [h1] at g1; cases g1
  | some a =>
  cases h2 : VametBase.whole readRelation m with
  | none => rw [h2] at g2; cases g2
  | some b =>
  rw [h1] at ha
  rw [h2] at hb
  have hq : ∀ (v : V) (H' : Hp), Ex H H' → Is (dInts (match Vamete.chained a b with
    | none => [0]
    | some c => 1 :: VametBase.flatRelation c)) H' v → Q v H' := by
    rw [h1, h2] at hq
    exact hq
  have oka := rel_ok h1
  have okb := rel_ok h2
  replace ha : RelP CR a H2 av := ha
  replace hb : RelP CR b H2 bv := hb
  replace e3' := (e1.trans e2).trans e3
  refine go_set (n := 4) (ev_call (d_chained t) (hr.mono (by omega)) (ea_cons (vrP 2 (RelP CR a) (Sta.mono e3 ha)) (ea_cons (vrP 3 (RelP CR b) (Sta.mono e3 hb)) ea_nil)) ⟨a, b, rfl, rfl⟩) (fun cv H4 e4 hc => ?_) sc_chain.nd
  refine go_ifr (et_isNo (vrP 4 (RelO CR _) hc)) (fun h H5 e5 => ?_) (fun h H5 e5 => ?_)
  · have : ∀ (v : V) (H' : Hp), Ex H H' → Is (dInts [0]) H' v → Q v H' := by
      cases h3 : Vamete.chained a b with
      | none => rw [h3] at hq; exact hq
      | some c => rw [h3] at h; cases h
    exact go_ret (ev_lst (f := 0) (ds := [.int 0]) (ea_cons ev_int ea_nil) (by show 1 ≤ 1000; omega)) fun v7 H7 e7 h7 => this v7 H7 (e3'.trans (e4.trans (e5.trans e7))) h7
  · cases h3 : Vamete.chained a b with
    | none => rw [h3] at h; cases h
    | some c =>
      have hq : ∀ (v : V) (H' : Hp), Ex H H' → Is (dInts (1 :: VametBase.flatRelation c)) H' v → Q v H' := by
        rw [h3] at hq
        exact hq
      rw [h3] at hc
      replace hc : RelP CR c H4 cv := hc
      have okc := chained_ok oka okb h3
      have hl1 := flat_len c.input
      have hl2 := flat_len c.output
      have hli := okc.li
      have hlo := okc.lo
      refine go_ret (ev_catI (f := 0) (l := [1]) (m := VametBase.flatRelation c) (ev_lst (f := 0) (ds := [.int 1]) (ea_cons ev_int ea_nil) (by show 1 ≤ 1000; omega)) (ev_call (d_relation_numbers t) (hr.mono (by omega)) (ea_cons (vrP 4 (RelP CR c) (Sta.mono e5 hc)) ea_nil) ⟨c, rfl, okc, rfl⟩) ?_) fun v7 H7 e7 h7 => hq v7 H7 (e3'.trans (e4.trans (e5.trans e7))) h7
      have : (VametBase.flatRelation c).length = (VametBase.flatCond c.cond).length + ((VametBase.flatProgram c.input).length + (1 + (VametBase.flatProgram c.output).length)) := by
        show (VametBase.flatCond c.cond ++ (VametBase.flatProgram c.input ++ (VametBase.relNumber c.rel :: VametBase.flatProgram c.output))).length = _
        rw [List.length_append, List.length_append, List.length_cons]
        omega
      have hfc : (VametBase.flatCond c.cond).length ≤ 2 := by
        rw [flat_cond]
        split
        · show 2 ≤ 2; omega
        · show 1 ≤ 2; omega
      show 1 + _ ≤ _
      omega
/-! ### kept -/
def verdicts (st : Vamete.State) (f : VametBase.Program) (q : VametBase.Relation) : List Int := (rowsS st).map fun r => vN (VametBase.verdict f q r)
def ansKept (st : Vamete.State) (k : Int) (l : List Int) : List Int := match Vamete.whichOf st k, VametBase.whole readRelation l with
  | none, _ => [-2]
  | some _, none => [-5]
  | some f, some q => [((verdicts st f q).count 0 : Int), ((verdicts st f q).count 1 : Int), ((verdicts st f q).count 2 : Int)]
theorem which_eq (st : Vamete.State) (k : Int) : Vamete.whichOf st k = if k = 0 then some st.first else if k = 1 then some st.second else if k = 2 then some (st.first ++ st.second) else none := rfl
def a_kept (CD : Addr) : List T → T → Prop := fun Ps R => ∃ (st : Vamete.State) (k : Int) (l : List Int), Ps = [DeskP CD st, Is (.int k), Is (dInts l)] ∧ okSt st ∧ R = Is (dInts (ansKept st k l))
theorem sc_kept : FnScope ["desk", "which", "told", "relation", "some", "found", "row"] ["desk", "which", "told"] (defScope s_kept) := ⟨rfl, rfl, rfl, by decide +kernel, rfl, by decide +kernel, by decide +kernel⟩
theorem d_kept (t : Txt K mg CR CD) : Def P w K mg base 7 "kept" ["desk", "which", "told"] (Prom (a_kept CD)) := by
  refine def_of t.f_kept sc_kept (fun _ _ ⟨_, _, _, h, _⟩ => h ▸ rfl) (fun _ _ _ _ _ _ us hl => match us, hl with | [_, _, _], _ => rfl) ?_
  intro f cdv A0 outer s H E vs Ps R Q hr hA ap hq
  obtain ⟨st, k, l, rfl, ok, rfl⟩ := hA
  obtain ⟨v, u, z, rfl, hv, hu, hz⟩ := allP3 ap
  have mono : ∀ {H H' : Hp} {v : V}, Ex H H' → DeskP CD st H v → DeskP CD st H' v := fun e h => Sta.mono e h
  have hsm : (rowsS st).length ≤ 130 := rows_small ok
  obtain ⟨o1, o2, o3, okf, oks, lf, ls⟩ := id ok
  unfold ansKept at hq
  rw [which_eq] at hq
  refine go_ifr (et_notInI (l := [0, 1, 2]) (g := 0) (vr 1 hu) (ev_tup (f := 0) (ds := [.int 0, .int 1, .int 2]) (ea_cons ev_int (ea_cons ev_int (ea_cons ev_int ea_nil))) (by show 3 ≤ 1000; omega))) (fun h0 H1 e1 => ?_) (fun h0 H1 e1 => ?_)
  · have h0 : ¬ (k = 0 ∨ k = 1 ∨ k = 2) := by
      intro z
      have : ([0, 1, 2] : List Int).contains k = true := by rcases z with rfl | rfl | rfl <;> rfl
      rw [this] at h0; cases h0
    rw [if_neg fun z => h0 (.inl z), if_neg fun z => h0 (.inr (.inl z)), if_neg fun z => h0 (.inr (.inr z))] at hq
    exact go_ret ev_neg1 fun v7 H7 e7 h7 => hq v7 H7 (e1.trans e7) h7
  have h0 : k = 0 ∨ k = 1 ∨ k = 2 := by
    have : ¬ k = 0 → ¬ k = 1 → k = 2 := by simpa using h0
    omega
  refine go_set (n := 3) (ev_call (d_relation_of t) (hr.mono (by omega)) (ea_cons (vr 2 (hz.ex' e1)) ea_nil) ⟨l, rfl, rfl⟩) (fun rv H2 e2 hrv => ?_) sc_kept.nd
  replace hv := mono (e1.trans e2) hv
  replace hu := hu.ex' (e1.trans e2)
  replace e2 := e1.trans e2
  cases hw : VametBase.whole readRelation l with
  | none =>
    rw [hw] at hrv
    have hq : ∀ (v : V) (H' : Hp), Ex H H' → Is (dInts [-5]) H' v → Q v H' := by
      rw [hw] at hq
      rcases h0 with rfl | rfl | rfl <;> exact hq
    refine go_ifr (et_as (et_isNo (vrP 3 (RelO CR none) hrv)) (k' := true) rfl) (fun _ H3 e3 => ?_) (fun h H3 e3 => absurd h (by decide))
    exact go_ret ev_neg1 fun v7 H7 e7 h7 => hq v7 H7 ((e2.trans e3).trans e7) h7
  | some q =>
  rw [hw] at hrv hq
  have okq := rel_ok hw
  refine go_ifr (et_as (et_isNo (vrP 3 (RelO CR (some q)) hrv)) (k' := false) rfl) (fun h H3 e3 => absurd h (by decide)) (fun _ H3 e3 => ?_)
  replace hrv : RelP CR q H2 rv := hrv
  replace hrv : RelP CR q H3 rv := Sta.mono e3 hrv
  replace hv := mono e3 hv
  replace hu := hu.ex' e3
  replace e3 := e2.trans e3
  refine go_set (n := 4) (P := Is (dProg (st.first ++ st.second))) (ev_as (ev_catL (f := 0) (ds := st.first.map dStep) (ds2 := st.second.map dStep) (ev_ixL (f := 0) (ds := [dProg st.first, dProg st.second]) (d := dProg st.first) (ev_dprogs t (vrP 0 (DeskP CD st) hv)) (ev_int (k := 0)) rfl) (ev_ixL (f := 0) (ds := [dProg st.first, dProg st.second]) (d := dProg st.second) (ev_dprogs t (vrP 0 (DeskP CD st) hv)) (ev_int (k := 1)) rfl) (by rw [List.length_map, List.length_map]; omega)) (by unfold dProg; rw [List.map_append])) (fun sv H4 e4 hs => ?_) sc_kept.nd
  replace hrv : RelP CR q H4 rv := Sta.mono e4 hrv
  replace hv := mono e4 hv
  replace hu := hu.ex' e4
  replace e4 := e3.trans e4
  have fin : ∀ (F : VametBase.Program) (sv : V) (H5 : Hp), okProg F → (Vamete.whichOf st k = some F) → Ex H4 H5 → IsD 0 H5 (dProg F) sv → tSs (cxOf CX0 P w K mg base ["desk", "which", "told", "relation", "some", "found", "row"] "kept" (defScope s_kept) f cdv A0 outer s H E).nox ((defBody s_kept).drop 5) { nx := fun _ H' => Q .non H', rt := Q } [some v, some u, some z, some rv, some sv, none, none] H5 := fun F sv H5 okF hF e5 hs => by
    rw [which_eq] at hF
    rw [hF] at hq
    have hq : ∀ (v : V) (H' : Hp), Ex H H' → Is (dInts [((verdicts st F q).count 0 : Int), ((verdicts st F q).count 1 : Int), ((verdicts st F q).count 2 : Int)]) H' v → Q v H' := hq
    refine go_setLc0 (n := 5) (f := 0) (g := 0) (l := rowsS st) (enc := dRow) (F := fun r => .int (vN (VametBase.verdict F q r))) (j := 6) rfl sc_kept.nd (src_list (ev_drows t (vrP 0 (DeskP CD st) (mono e5 hv)))) (blkOk_by (N := ["desk", "which", "told", "relation", "some", "found", "row"]) (sc := defScope s_kept) (by decide +kernel)) (by omega) (fun _ _ => rfl) (fun _ _ _ _ _ => pgv sc_kept.nd) (fun r hrm H6 w6 e6 hw => fun s' H0 C cl fp => ev_call (d_how t) (hr.mono (by omega)) (ea_cons (vrP 3 (RelP CR q) (Sta.mono (e5.trans e6) hrv)) (ea_cons (vr 4 (hs.ex' e6)) (ea_cons (vr 6 hw) ea_nil))) ⟨q, F, r, rfl, okq, okF, by have := pRows_each st.high st.places r hrm; omega, rfl⟩) (fun fv H6 e6 hf => ?_)
    have hmm : (rowsS st).map (fun r => PyData.int (vN (VametBase.verdict F q r))) = (verdicts st F q).map .int := by unfold verdicts; rw [List.map_map]; rfl
    rw [hmm] at hf
    replace hf : IsD 0 H6 (dInts (verdicts st F q)) fv := hf
    exact go_ret (ev_lst (f := 0) (ds := [dN ((verdicts st F q).count 0), dN ((verdicts st F q).count 1), dN ((verdicts st F q).count 2)]) (ea_cons (ev_countI (vr 5 hf) (ev_glob t.c_KEPT)) (ea_cons (ev_countI (vr 5 hf) (ev_glob t.c_BROKEN)) (ea_cons (ev_countI (vr 5 hf) (ev_glob t.c_OFF)) ea_nil))) (by show 3 ≤ 1000; omega)) fun v7 H7 e7 h7 => hq v7 H7 ((e4.trans e5).trans (e6.trans e7)) h7
  refine go_if (et_lt (vr 1 hu) ev_int) (fun h H5 e5 => ?_) (fun h H5 e5 => ?_)
  · have h := of_decide_eq_true h
    rcases h0 with rfl | rfl | rfl
    · refine go_set (n := 4) (ev_ixL (f := 0) (ds := [dProg st.first, dProg st.second]) (d := dProg st.first) (ev_dprogs t (vrP 0 (DeskP CD st) (mono e5 hv))) (vr 1 (hu.ex' e5)) rfl) (fun sv H6 e6 hs => go_nil (fin st.first sv H6 okf rfl (e5.trans e6) hs)) sc_kept.nd
    · refine go_set (n := 4) (ev_ixL (f := 0) (ds := [dProg st.first, dProg st.second]) (d := dProg st.second) (ev_dprogs t (vrP 0 (DeskP CD st) (mono e5 hv))) (vr 1 (hu.ex' e5)) rfl) (fun sv H6 e6 hs => go_nil (fin st.second sv H6 oks rfl (e5.trans e6) hs)) sc_kept.nd
    · omega
  · have h := of_decide_eq_false h
    obtain rfl : k = 2 := by omega
    refine go_nil (fin (st.first ++ st.second) sv H5 (fun x hx => (List.mem_append.mp hx).elim (okf x) (oks x)) rfl e5 (hs.ex' e5))
/-! ### of_turn -/
def ansOf (st : Vamete.State) (c k : Int) : List Int := if isTurn st k then
    (if c = 2 then ((turnOf st k).places.map fun (n : Nat) => (n : Int)) ++ (turnOf st k).signs.map (fun b => if b then (1 : Int) else 0)
    else if c = 4 then [(idxOf st (Vamete.back (turnOf st k)) : Int)]
    else if c = 8 then ansAlike st (turnOf st k) else ansPartner st (turnOf st k)) else [-2]
theorem rowB (l : List Bool) : dBs l = dRow (l.map fun b => if b then (1 : Int) else 0) := by
  unfold dRow dBs
  rw [List.map_map]
  rfl
def a_of_turn (CD : Addr) : List T → T → Prop := fun Ps R => ∃ (st : Vamete.State) (c k : Int), Ps = [DeskP CD st, Is (.int c), Is (.int k)] ∧ okSt st ∧ R = Is (dInts (ansOf st c k))
theorem sc_of_turn : FnScope ["desk", "call", "number", "turn"] ["desk", "call", "number"] (defScope s_of_turn) := ⟨rfl, rfl, rfl, by decide +kernel, rfl, by decide +kernel, by decide +kernel⟩
theorem d_of_turn (t : Txt K mg CR CD) : Def P w K mg base 8 "of_turn" ["desk", "call", "number"] (Prom (a_of_turn CD)) := by
  refine def_of t.f_of_turn sc_of_turn (fun _ _ ⟨_, _, _, h, _⟩ => h ▸ rfl) (fun _ _ _ _ _ _ us hl => match us, hl with | [_, _, _], _ => rfl) ?_
  intro f cdv A0 outer s H E vs Ps R Q hr hA ap hq
  obtain ⟨st, c, k, rfl, ok, rfl⟩ := hA
  obtain ⟨v, u, z, rfl, hv, hu, hz⟩ := allP3 ap
  have mono : ∀ {H H' : Hp} {v : V}, Ex H H' → DeskP CD st H v → DeskP CD st H' v := fun e h => Sta.mono e h
  have hn := ok.1
  unfold ansOf at hq
  refine go_ifr (et_not (et_val (ev_meth (d_Desk_is_turn (P := P) (w := w) (base := base) t) (hr.mono (by omega)) (vrP 0 (DeskP CD st) hv) (desk_ins fun _ _ _ _ => rfl) (ea_cons (vr 2 hz) ea_nil) ⟨st, k, rfl, rfl⟩))) (fun h0 H1 e1 => ?_) (fun h0 H1 e1 => ?_)
  · have h0 : isTurn st k = false := by simpa using h0
    rw [h0] at hq
    exact go_ret ev_neg1 fun v7 H7 e7 h7 => hq v7 H7 (e1.trans e7) h7
  have hk : isTurn st k = true := by simpa using h0
  rw [hk, if_pos rfl] at hq
  have htm := (turn_get hk).2.1
  have wf := turn_wf ok.1 htm
  replace hv := mono e1 hv
  replace hu := hu.ex' e1
  replace hz := hz.ex' e1
  refine go_set (n := 3) (ev_turnAt hk (ev_dturns t (vrP 0 (DeskP CD st) hv)) (vr 2 hz)) (fun tv H2 e2 ht => ?_) sc_of_turn.nd
  replace hv := mono e2 hv
  replace hu := hu.ex' e2
  replace hz := hz.ex' e2
  replace e2 := e1.trans e2
  refine go_ifr (et_eq (vr 1 hu) ev_int) (fun h1 H3 e3 => ?_) (fun h1 H3 e3 => ?_)
  · rw [if_pos (of_decide_eq_true h1)] at hq
    refine go_ret (ev_catI (f := 2) (l := (turnOf st k).places.map fun (n : Nat) => (n : Int)) (m := (turnOf st k).signs.map fun b => if b then (1 : Int) else 0) (ev_listT t.b_list (ev_ixT (f := 2) (ds := [dNs (turnOf st k).places, dBs (turnOf st k).signs]) (d := dRow _) (vr 3 (ht.ex' e3)) (ev_int (k := 0)) (by rw [← rowN]; rfl))) (ev_listT t.b_list (ev_ixT (f := 2) (ds := [dNs (turnOf st k).places, dBs (turnOf st k).signs]) (d := dRow _) (vr 3 (ht.ex' e3)) (ev_int (k := 1)) (by rw [← rowB]; rfl))) (by rw [List.length_map, List.length_map, wf.pl, wf.sl]; omega)) fun v7 H7 e7 h7 => hq v7 H7 ((e2.trans e3).trans e7) ?_
    obtain ⟨a, xs, rfl, ha, r⟩ := is_list h7
    exact .lst ha (by rw [ints_of r]; exact isAll_ints _)
  rw [if_neg (of_decide_eq_false h1)] at hq
  replace hv := mono e3 hv
  replace hu := hu.ex' e3
  replace hz := hz.ex' e3
  replace ht := ht.ex' e3
  replace e3 := e2.trans e3
  refine go_ifr (et_eq (vr 1 hu) ev_int) (fun h2 H4 e4 => ?_) (fun h2 H4 e4 => ?_)
  · rw [if_pos (of_decide_eq_true h2)] at hq
    have hbm := back_mem ok.1 htm
    obtain ⟨i1, i2, _⟩ := idx_at hbm
    exact go_ret (ev_lst (f := 0) (ds := [dN (idxOf st (Vamete.back (turnOf st k)))]) (ea_cons (ev_idxT (f := 2) (g := 0) (units65 hr) (ev_dturns t (vrP 0 (DeskP CD st) (mono e4 hv))) (ev_call (d_undone t) (hr.mono (by omega)) (ea_cons (vr 3 (ht.ex' e4)) ea_nil) ⟨st.places, turnOf st k, rfl, wf, turn_onto ok.1 htm, by omega, rfl⟩) i1 i2) ea_nil) (by show 1 ≤ 1000; omega)) fun v7 H7 e7 h7 => hq v7 H7 ((e3.trans e4).trans e7) h7
  rw [if_neg (of_decide_eq_false h2)] at hq
  replace hv := mono e4 hv
  replace hu := hu.ex' e4
  replace hz := hz.ex' e4
  replace e4 := e3.trans e4
  refine go_ifr (et_eq (vr 1 hu) ev_int) (fun h3 H5 e5 => ?_) (fun h3 H5 e5 => ?_)
  · rw [if_pos (of_decide_eq_true h3)] at hq
    exact go_ret (ev_call (d_alike t) (hr.mono (by omega)) (ea_cons (vrP 0 (DeskP CD st) (mono e5 hv)) (ea_cons (vr 2 (hz.ex' e5)) ea_nil)) ⟨st, k, rfl, ok, hk, rfl⟩) fun v7 H7 e7 h7 => hq v7 H7 ((e4.trans e5).trans e7) h7
  · rw [if_neg (of_decide_eq_false h3)] at hq
    exact go_ret (ev_call (d_partner t) (hr.mono (by omega)) (ea_cons (vrP 0 (DeskP CD st) (mono e5 hv)) (ea_cons (vr 2 (hz.ex' e5)) ea_nil)) ⟨st, k, rfl, ok, hk, rfl⟩) fun v7 H7 e7 h7 => hq v7 H7 ((e4.trans e5).trans e7) h7
end
end TG
set_option Elab.async false
set_option linter.all false
set_option maxRecDepth 100000
set_option maxHeartbeats 2000000
namespace TG
open PySem PySem.Spec PyProof.Rows L2
open Evl (Ex ex_l ex_t fresh_back)
section
variable {P : Program} {w : World} {K : PySem.W.Frag} {mg : Str → Option Value} {base : Heap} {CR CD : Addr}
open VametBase (readStep readNat readInt readProgram readTimes readCond readRel readRelation readRow readListed readPair)
/-! ### what a change at the desk leaves -/
def LL (H H' : Hp) : Prop := ∀ a xs, H a = some (.lst xs) → H' a = some (.lst xs)
mutual
theorem IsD.lx {f : Nat} {H H' : Hp} (l : LL H H') (t : Tx H H') : ∀ (d : PyData) (v : V), IsD f H d v → IsD f H' d v
  | _, _, .non => .non
  | _, _, .bl b => .bl b
  | _, _, .int i => .int i
  | .list ds, _, .lst h r => .lst (l _ _ h) (IsAll.lx l t ds _ r)
  | .tuple ds, _, .tup h r => .tup (h.tx t) (IsAll.lx l t ds _ r)
theorem IsAll.lx {f : Nat} {H H' : Hp} (l : LL H H') (t : Tx H H') : ∀ (ds : List PyData) (vs : List V), IsAll f H ds vs → IsAll f H' ds vs
  | _, _, .nil => .nil
  | d :: ds, _, .cons h r => .cons (IsD.lx l t d _ h) (IsAll.lx l t ds _ r)
end
theorem ll_of {H H' : Hp} (e : Ex H H') : LL H H' := fun a xs h => e a _ h
theorem ll_ins {H : Hp} {x C dx : Addr} {fs : List (Str × V)} {o : HO} (h : H x = some (.ins C dx fs)) : LL H (upd H x o) := fun a xs ha => by
  have : a ≠ x := fun z => by rw [z, h] at ha; cases ha
  rw [upd_ne this]; exact ha
theorem tx_ins {H : Hp} {x C dx : Addr} {fs : List (Str × V)} {o : HO} (h : H x = some (.ins C dx fs)) : Tx H (upd H x o) := tx_upd fun u hu s => by rw [h] at hu; cases hu; exact s
theorem IsD.ins {f : Nat} {H : Hp} {x C dx : Addr} {fs : List (Str × V)} {o : HO} {d : PyData} {v : V} (h : IsD f H d v) (hx : H x = some (.ins C dx fs)) : IsD f (upd H x o) d v := IsD.lx (ll_ins hx) (tx_ins hx) _ _ h
/-- all but the desk and its list of programs stays -/
def Fr (x pl : Addr) (H H' : Hp) : Prop := ∀ b o, b ≠ x → b ≠ pl → H b = some o → H' b = some o
theorem Fr.of {x pl : Addr} {H H' : Hp} (e : Ex H H') : Fr x pl H H' := fun b o _ _ h => e b o h
theorem Fr.ofx {x pl : Addr} {H H' : Hp} (e : Exx x H H') : Fr x pl H H' := fun b o h1 _ h => e b o h1 h
theorem Fr.trans {x pl : Addr} {H H1 H2 : Hp} (a : Fr x pl H H1) (b : Fr x pl H1 H2) : Fr x pl H H2 := fun c o h1 h2 h => b c o h1 h2 (a c o h1 h2 h)
theorem putF_places (n m : Nat) (rv tv : V) (pl : Addr) : putF ("places" : Str) (.int (m : Int)) (deskF n rv tv pl) = deskF m rv tv pl := by
  unfold deskF
  rw [putF, if_pos rfl]
theorem putF_rows (n : Nat) (rv rv' tv : V) (pl : Addr) : putF ("rows" : Str) rv' (deskF n rv tv pl) = deskF n rv' tv pl := by
  unfold deskF
  rw [putF, if_neg (by decide), putF, if_pos rfl]
theorem putF_turns (n : Nat) (rv tv tv' : V) (pl : Addr) : putF ("turns" : Str) tv' (deskF n rv tv pl) = deskF n rv tv' pl := by
  unfold deskF
  rw [putF, if_neg (by decide), putF, if_neg (by decide), putF, if_pos rfl]
/-- the desk, its programs not at B -/
def DeskB (CD : Addr) (H : Hp) (x pl B : Addr) (st : Vamete.State) : Prop := ∃ dx rv tv a0 a1, H x = some (.ins CD dx (deskF st.places rv tv pl)) ∧ IsD 0 H (dRowsOf st) rv ∧ IsD 2 H (dTurnsOf st.places) tv ∧ H pl = some (.lst [a0, a1]) ∧ IsD 0 H (dProg st.first) a0 ∧ IsD 0 H (dProg st.second) a1 ∧ a0 ≠ .ref B ∧ a1 ≠ .ref B
theorem DeskB.at_ {CD x pl B : Addr} {H : Hp} {st : Vamete.State} (h : DeskB CD H x pl B st) : DeskAt CD H x pl st := by
  obtain ⟨dx, rv, tv, a0, a1, h1, h2, h3, h4, h5, h6, _⟩ := h
  exact ⟨dx, rv, tv, a0, a1, h1, h2, h3, h4, h5, h6⟩
theorem DeskB.ex {CD x pl B : Addr} {H H' : Hp} {st : Vamete.State} (h : DeskB CD H x pl B st) (e : Ex H H') : DeskB CD H' x pl B st := by
  obtain ⟨dx, rv, tv, a0, a1, h1, h2, h3, h4, h5, h6, h7⟩ := h
  exact ⟨dx, rv, tv, a0, a1, e _ _ h1, h2.ex' e, h3.ex' e, e _ _ h4, h5.ex' e, h6.ex' e, h7⟩
/-! ### put_size -/
def sized (st : Vamete.State) (n h : Nat) : Vamete.State := { st with places := n, high := h }
def s_put_size (CD : Addr) : Sp := fun vs H Q _ => ∃ x pl B st n h, vs = [.ref x, .int (n : Nat), .int (h : Nat)] ∧ DeskB CD H x pl B st ∧ n ≤ 4 ∧ h ≤ 9 ∧ (2 * h + 1) ^ n ≤ 130 ∧ ∀ H', Fr x pl H H' → DeskB CD H' x pl B (sized st n h) → Q .non H'
theorem sc_Desk_put_size : FnScope ["self", "places", "high"] ["self", "places", "high"] (defScope s_Desk_put_size) := ⟨rfl, rfl, rfl, by decide +kernel, rfl, by decide +kernel, by decide +kernel⟩
theorem d_Desk_put_size (t : Txt K mg CR CD) : DefM P w K mg base CD 3 "put_size" ["self", "places", "high"] (s_put_size CD) := by
  refine defM_ofS t.cl_Desk t.m_Desk_put_size sc_Desk_put_size (fun vs H Q E h => by obtain ⟨x, pl, B, st, n, h, rfl, _⟩ := h; rfl) (fun _ _ _ _ _ _ us hl => match us, hl with | [_, _, _], _ => rfl) ?_
  intro f cdv A0 outer s H E vs Q hr hs
  obtain ⟨x, pl, B, st, n, h, rfl, ⟨dx, rv, tv, a0, a1, hx, hrv, htv, hpl, h0, h1, off⟩, hn, hh, hz, hq⟩ := hs
  have hxp : pl ≠ x := fun z => by rw [z, hx] at hpl; cases hpl
  refine go_fld (P := Eqv (.int (n : Int))) (vrR 0 x) (vrV 1 (.int (n : Int))) hx t.cl_Desk t.n_Desk_places (by show 4 < 1000; omega) (fun y H1 e1 hy => ?_)
  cases hy
  rw [putF_places]
  have hx1 := e1 _ _ hx
  refine go_fld (P := Is (.list ((pRows h n).map dRow))) (vrR 0 x) (ev_call (d_rows_of t) (hr.mono (by omega)) (ea_cons (vr 1 (.int (n : Int) : IsD 0 _ _ _)) (ea_cons (vr 2 (.int (h : Int) : IsD 0 _ _ _)) ea_nil)) ⟨n, h, rfl, hn, hh, hz, rfl⟩) upd_same t.cl_Desk t.n_Desk_rows (by show 4 < 1000; omega) (fun rv' H2 e2 hr' => ?_)
  rw [putF_rows]
  have hx2 := e2 _ _ (upd_same (H := H1) (a := x))
  refine go_fld (P := Isf 2 (.list ((Vamete.allTurns n).map dT))) (vrR 0 x) (ev_call (d_all_turns t) (hr.mono (by omega)) (ea_cons (vr 1 (.int (n : Int) : IsD 0 _ _ _)) ea_nil) ⟨n, rfl, hn, rfl⟩) upd_same t.cl_Desk t.n_Desk_turns (by show 4 < 1000; omega) (fun tv' H3 e3 ht' => go_nil ?_)
  rw [putF_turns]
  have hx3 := e3 _ _ (upd_same (H := H2) (a := x))
  refine hq _ (((Fr.of e1).trans (.ofx (.upd _))).trans (((Fr.of e2).trans (.ofx (.upd _))).trans ((Fr.of e3).trans (.ofx (.upd _))))) ⟨dx, rv', tv', a0, a1, upd_same, ((hr'.ins hx2).ex' e3).ins hx3, ht'.ins hx3, ?_, ?_, ?_, off⟩
  · rw [upd_ne hxp]
    refine e3 _ _ ?_
    rw [upd_ne hxp]
    refine e2 _ _ ?_
    rw [upd_ne hxp]
    exact e1 _ _ hpl
  · exact (((((h0.ex' e1).ins hx1).ex' e2).ins hx2).ex' e3).ins hx3
  · exact (((((h1.ex' e1).ins hx1).ex' e2).ins hx2).ex' e3).ins hx3
/-! ### Desk() -/
def s_desk_init (CD : Addr) : Sp := fun vs H Q _ => ∃ x dx, vs = [.ref x] ∧ H x = some (.ins CD dx []) ∧ ∀ H' pl, Exx x H H' → H pl = none → DeskAt CD H' x pl Vamete.start → Q .non H'
theorem sc_Desk_init : FnScope ["self"] ["self"] (defScope s_Desk_init) := ⟨rfl, rfl, rfl, by decide +kernel, rfl, by decide +kernel, by decide +kernel⟩
theorem d_Desk_init (t : Txt K mg CR CD) : MkS P w K mg base CD 3 ["self"] (s_desk_init CD) := by
  refine mk_ofS t.m_Desk_init sc_Desk_init (fun vs H Q E h => by obtain ⟨x, dx, rfl, _⟩ := h; rfl) (fun _ _ _ _ _ _ us hl => match us, hl with | [_], _ => rfl) ?_
  intro f cdv A0 outer s H E vs Q hr hs
  obtain ⟨x, dx, rfl, hx, hq⟩ := hs
  refine go_fld (P := Is (.int 0)) (vrR 0 x) ev_int hx t.cl_Desk t.n_Desk_places (by decide) (fun y H1 e1 hy => ?_)
  obtain rfl := is_int hy
  refine go_fld (P := Is (.list ((pRows 0 0).map dRow))) (vrR 0 x) (ev_call (d_rows_of t) (hr.mono (by omega)) (ea_cons (ev_int (k := 0)) (ea_cons (ev_int (k := 0)) ea_nil)) ⟨0, 0, rfl, by omega, by omega, by decide, rfl⟩) upd_same t.cl_Desk t.n_Desk_rows (Nat.lt_of_le_of_lt (pl pl0) (by decide)) (fun rv H2 e2 hrv => ?_)
  have hx2 := e2 _ _ (upd_same (H := H1) (a := x))
  refine go_fld (P := Isf 2 (.list ((Vamete.allTurns 0).map dT))) (vrR 0 x) (ev_call (d_all_turns t) (hr.mono (by omega)) (ea_cons (ev_int (k := 0)) ea_nil) ⟨0, rfl, by omega, rfl⟩) upd_same t.cl_Desk t.n_Desk_turns (Nat.lt_of_le_of_lt (pl (pl pl0)) (by decide)) (fun tv H3 e3 htv => ?_)
  have hx3 := e3 _ _ (upd_same (H := H2) (a := x))
  refine go_fld (P := NewL 0 (upd H3 x _) [dProg [], dProg []]) (s := ⟨fun e ⟨A, xs, z1, z2, z3, z4⟩ => ⟨A, xs, z1, z2, e _ _ z3, IsAll.ex e _ _ z4⟩⟩) (vrR 0 x) (ev_lstN (f := 0) (ds := [dProg [], dProg []]) (ea_cons (ev_lst (f := 0) (ds := []) ea_nil (Nat.zero_le _)) (ea_cons (ev_lst (f := 0) (ds := []) ea_nil (Nat.zero_le _)) ea_nil)) (by show 2 ≤ 1000; omega)) upd_same t.cl_Desk t.n_Desk_programs (Nat.lt_of_le_of_lt (pl (pl (pl pl0))) (by decide)) (fun pv H4 e4 hpv => go_nil ?_)
  have hx4 := e4 _ _ (upd_same (H := H3) (a := x))
  obtain ⟨pl', ps, rfl, hpl0, hpl, rps⟩ := hpv
  cases rps with
  | cons r1 r2 =>
  cases r2 with
  | cons r2 r3 =>
  cases r3
  have hxp : pl' ≠ x := fun z => by rw [z, hx4] at hpl; cases hpl
  have hfresh : H pl' = none := by
    cases hh : H pl' with
    | none => rfl
    | some o =>
      have g1 := e1 _ _ hh
      have g2 := e2 pl' o (by rw [upd_ne hxp]; exact g1)
      have g3 := e3 pl' o (by rw [upd_ne hxp]; exact g2)
      rw [upd_ne hxp, g3] at hpl0
      cases hpl0
  refine hq _ pl' ((((Exx.of e1).trans (.upd _)).trans ((Exx.of e2).trans (.upd _))).trans (((Exx.of e3).trans (.upd _)).trans ((Exx.of e4).trans (.upd _)))) hfresh ⟨dx, rv, tv, _, _, ?_, (((((hrv.ins hx2).ex' e3).ins hx3).ex' e4).ins hx4), (((htv.ins hx3).ex' e4).ins hx4), ?_, r1.ins hx4, r2.ins hx4⟩
  · rw [upd_same]
    congr 2
  · rw [upd_ne hxp]
    exact hpl
/-! ### put_program -/
def progd (st : Vamete.State) (k : Int) (p : VametBase.Program) : Vamete.State := if k = 0 then { st with first := p } else { st with second := p }
theorem ne_pl {f : Nat} {H : Hp} {pl F : Addr} {a0 a1 : V} {d0 : List PyData} {ds : List PyData} (hpl : H pl = some (.lst [a0, a1])) (h0 : IsD 0 H (.list d0) a0) (h : IsD f H (.list ds) (.ref F)) (hd : ∀ d ∈ ds, ∃ e, d = .tuple e) : F ≠ pl := fun z => by
  subst z
  obtain ⟨a, xs, e, hx, r⟩ := is_list h
  cases e
  rw [hpl] at hx
  cases hx
  cases r with
  | cons r1 r2 =>
    obtain ⟨e1, rfl⟩ := hd _ List.mem_cons_self
    obtain ⟨b, ys, rfl, hb, _⟩ := is_tuple r1
    obtain ⟨c, zs, ec, hc, _⟩ := is_list h0
    cases ec
    rcases hb with ⟨_, hb⟩ | ⟨_, o, _, hb⟩ <;> rw [hb] at hc <;> cases hc
theorem IsD.keep {f : Nat} {H : Hp} {pl F : Addr} {xs : List V} {o : HO} {ds : List PyData} (h : IsD f H (.list ds) (.ref F)) (hF : F ≠ pl) (hpl : H pl = some (.lst xs)) (hi : imms ds = true) : IsD f (upd H pl o) (.list ds) (.ref F) := by
  obtain ⟨a, ys, e, hx, r⟩ := is_list h
  cases e
  refine .lst (by rw [upd_ne hF]; exact hx) (IsAll.tx (tx_upd fun u hu s => by rw [hpl] at hu; cases hu; exact s) _ _ hi r)
theorem tups_map {α : Type} {F : α → PyData} (hF : ∀ a, ∃ e, F a = .tuple e) (l : List α) : ∀ d ∈ l.map F, ∃ e, d = .tuple e := fun d hd => by
  obtain ⟨a, _, rfl⟩ := List.mem_map.mp hd
  exact hF a
theorem IsD.ref_of {f : Nat} {H : Hp} {ds : List PyData} {v : V} (h : IsD f H (.list ds) v) : ∃ F, v = .ref F := by
  obtain ⟨a, xs, e, _⟩ := is_list h
  exact ⟨a, e⟩
theorem keepL {α : Type} {f : Nat} {H : Hp} {pl : Addr} {a0 a1 v : V} {o : HO} {d0 : List PyData} {F : α → PyData} {l : List α} (h : IsD f H (.list (l.map F)) v) (hpl : H pl = some (.lst [a0, a1])) (h0 : IsD 0 H (.list d0) a0) (hF : ∀ a, ∃ e, F a = .tuple e) (hi : ∀ a, imm (F a) = true) : IsD f (upd H pl o) (.list (l.map F)) v := by
  obtain ⟨A, rfl⟩ := h.ref_of
  exact h.keep (ne_pl hpl h0 h (tups_map hF l)) hpl (imms_map hi l)
def s_put_program (CD : Addr) : Sp := fun vs H Q _ => ∃ x pl B st k p pv, vs = [.ref x, .int k, pv] ∧ DeskB CD H x pl B st ∧ (k = 0 ∨ k = 1) ∧ IsD 0 H (dProg p) pv ∧ pv ≠ .ref B ∧ ∀ H', Fr x pl H H' → DeskB CD H' x pl B (progd st k p) → IsD 0 H' (dProg p) pv → Q .non H'
theorem sc_Desk_put_program : FnScope ["self", "which", "program"] ["self", "which", "program"] (defScope s_Desk_put_program) := ⟨rfl, rfl, rfl, by decide +kernel, rfl, by decide +kernel, by decide +kernel⟩
theorem d_Desk_put_program (t : Txt K mg CR CD) : DefM P w K mg base CD 1 "put_program" ["self", "which", "program"] (s_put_program CD) := by
  refine defM_ofS t.cl_Desk t.m_Desk_put_program sc_Desk_put_program (fun vs H Q E h => by obtain ⟨x, pl, B, st, k, p, pv, rfl, _⟩ := h; rfl) (fun _ _ _ _ _ _ us hl => match us, hl with | [_, _, _], _ => rfl) ?_
  intro f cdv A0 outer s H E vs Q hr hs
  obtain ⟨x, pl, B, st, k, p, pv, rfl, ⟨dx, rv, tv, a0, a1, hx, hrv, htv, hpl, h0, h1, off0, off1⟩, hk, hp, hpB, hq⟩ := hs
  have hxp : x ≠ pl := fun z => by rw [← z, hx] at hpl; cases hpl
  have hD : DeskP CD st H (.ref x) := ⟨x, pl, rfl, dx, rv, tv, a0, a1, hx, hrv, htv, hpl, h0, h1⟩
  refine w_Ss (pss_cons (ps_asg (pE _) (pg_sub (pE _) (pE _) set_list (fun v => rfl)) rfl rfl rfl) (pSs _)) ?_
  refine (vrV 2 pv) H (Ex.refl _) _ fun y H1 e1 hy => ?_
  cases hy
  refine (ev_fld (P := Eqv (.ref x)) (R := Eqv (.ref pl)) (vrV 0 (.ref x)) (fun H3 v e3 hv => by
    cases hv
    exact ⟨x, CD, dx, _, .ref pl, rfl, e3 _ _ hx, t.cl_Desk, t.n_Desk_programs, rfl, rfl⟩)) H1 e1 _ fun y H2 e2 hy => ?_
  cases hy
  refine (vrV 1 (.int k)) H2 (e1.trans e2) _ fun y H3 e3 hy => ?_
  cases hy
  have e := (e1.trans e2).trans e3
  have hpl3 := e _ _ hpl
  have h03 := h0.ex' e
  have h13 := h1.ex' e
  have hrv3 := hrv.ex' e
  have htv3 := htv.ex' e
  have hp3 := hp.ex' e
  have tS : ∀ a, ∃ e, dStep a = .tuple e := fun a => ⟨_, rfl⟩
  have tR : ∀ a, ∃ e, dRow a = .tuple e := fun a => ⟨_, rfl⟩
  have tT : ∀ a, ∃ e, dT a = .tuple e := fun a => ⟨_, rfl⟩
  have hxx : ∀ o, upd H3 pl o x = some (.ins CD dx (deskF st.places rv tv pl)) := fun o => by rw [upd_ne hxp]; exact e _ _ hx
  have hfr : ∀ o, Fr x pl H (upd H3 pl o) := fun o => (Fr.of e).trans fun b u hb1 hb2 h => by rw [upd_ne hb2]; exact h
  rcases hk with rfl | rfl
  · refine ⟨pl, [a0, a1], 0, 0, rfl, rfl, hpl3, rfl, go_nil (hq _ (hfr _) ⟨dx, rv, tv, pv, a1, hxx _, keepL hrv3 hpl3 h03 tR imm_row, keepL htv3 hpl3 h03 tT imm_dT, upd_same, keepL hp3 hpl3 h03 tS imm_step, keepL h13 hpl3 h03 tS imm_step, hpB, off1⟩ (keepL hp3 hpl3 h03 tS imm_step))⟩
  · refine ⟨pl, [a0, a1], 1, 1, rfl, rfl, hpl3, rfl, go_nil (hq _ (hfr _) ⟨dx, rv, tv, a0, pv, hxx _, keepL hrv3 hpl3 h03 tR imm_row, keepL htv3 hpl3 h03 tT imm_dT, upd_same, keepL h03 hpl3 h03 tS imm_step, keepL hp3 hpl3 h03 tS imm_step, off0, hpB⟩ (keepL hp3 hpl3 h03 tS imm_step))⟩
end
end TG
set_option Elab.async false
set_option linter.all false
set_option maxRecDepth 100000
set_option maxHeartbeats 2000000
namespace TG
open PySem PySem.Spec PyProof.Rows L2
open Evl (Ex ex_l ex_t fresh_back)
section
variable {P : Program} {w : World} {K : PySem.W.Frag} {mg : Str → Option Value} {base : Heap} {CR CD : Addr}
open VametBase (readStep readNat readInt readProgram readTimes readCond readRel readRelation readRow readListed readPair)
/-! ### program_of, its list not at B -/
def AtB (B : Addr) (P : T) : T := fun H v => P H v ∧ ∃ o, H B = some o
instance (B : Addr) (P : T) [s : Sta P] : Sta (AtB B P) := ⟨fun e ⟨h, o, ho⟩ => ⟨s.mono e h, o, e _ _ ho⟩⟩
def a_program_atB : List T → T → Prop := fun Ps R => ∃ (l : List Int) (k : Nat) (B : Addr), Ps = [AtB B (Is (dInts l)), Is (dN k)] ∧ R = fun H v => Is (dProgAt l k) H v ∧ ∀ a F w, v = .ref a → H a = some (.tup [.ref F, w]) → F ≠ B
theorem d_program_atB (t : Txt K mg CR CD) : Def P w K mg base 4 "program_at" ["numbers", "at"] (Prom a_program_atB) := by
  refine def_of t.f_program_at sc_program_at (fun _ _ ⟨_, _, _, h, _⟩ => h ▸ rfl) (fun _ _ _ _ _ _ us hl => match us, hl with | [_, _], _ => rfl) ?_
  intro f cdv A0 outer s H E vs Ps R Q hr hA ap hq
  obtain ⟨l, k, B, rfl, rfl⟩ := hA
  obtain ⟨v, u, rfl, hvB, hu⟩ := allP2 ap
  obtain ⟨hv, oB, hB⟩ := hvB
  have hq : ∀ (v : V) (H' : Hp), Ex H H' → Is (match readProgram (l.drop k) with | none => .none | some (p, r) => .tuple [dProg p, dN (l.length - r.length)]) H' v → (∀ a F w, v = .ref a → H' a = some (.tup [.ref F, w]) → F ≠ B) → Q v H' := fun v H' e h1 h2 => hq v H' e ⟨by unfold dProgAt; exact h1, h2⟩
  refine go_set (n := 2) (ev_call (d_number_at t) (hr.mono (by omega)) (ea_cons (vr 0 hv) (ea_cons (vr 1 hu) ea_nil)) ⟨0, l, k, rfl, rfl⟩) (fun sv H1 e1 hs => ?_) sc_program_at.nd
  have hv := hv.ex' e1
  have hu := hu.ex' e1
  refine go_ifr (et_not (et_val (ev_call (d_is_within t) (hr.mono (by omega)) (ea_cons (vr 2 hs) (ea_cons ev_int (ea_cons (ev_glob t.c_MOST_STEPS) ea_nil))) ⟨l[k]?, 0, 8, rfl, rfl⟩))) (fun h0 H2 e2 => ?_) (fun h0 H2 e2 => ?_)
  · have h0 : inB (l[k]?) 0 8 = false := by simpa using h0
    have : readProgram (l.drop k) = none := by
      cases hk : l[k]? with
      | none => exact prog_none hk
      | some z => rw [hk] at h0; rw [prog_read hk, h0]; rfl
    rw [this] at hq
    exact go_ret ev_non fun v7 H7 e7 h7 => hq v7 H7 ((e1.trans e2).trans e7) h7 (fun a F w z => by rw [is_none h7] at z; cases z)
  have h0 : inB (l[k]?) 0 8 = true := by simpa using h0
  have hv := hv.ex' e2
  have hu := hu.ex' e2
  replace hs := hs.ex' e2
  replace e2 := e1.trans e2
  cases hk : l[k]? with
  | none => rw [hk] at h0; exact absurd h0 Bool.false_ne_true
  | some z =>
  rw [hk] at hs h0
  have hlk := getl hk
  have hz := inB_iff.mp h0
  rw [prog_read hk, h0, if_pos rfl] at hq
  obtain rfl := is_int hs
  have hzn : z = ((z.toNat : Nat) : Int) := by omega
  refine go_set (n := 3) (P := NewL 0 H2 []) ev_nil (fun fv H3 e3 hf => ?_) sc_program_at.nd
  obtain ⟨A, ys, rfl, h0A, hA, rA⟩ := hf
  refine go_set (n := 4) (ev_dN1 (k := 1) rfl (vr 1 (hu.ex' e3))) (fun jv H4 e4 hj => ?_) sc_program_at.nd
  obtain rfl := is_int hj
  refine go_forR0 (gt := gName 5) (n := z.toNat) PassesOwn.never rfl t.b_range (vr 2 (show IsD 0 H4 (dN z.toNat) (.int z) from by rw [hzn]; exact .int _)) (by omega) (pgv sc_program_at.nd) (fun H5 e5 => ⟨fun i σ' H' => ∃ (j : Nat) (ps : VametBase.Program) (o5 o6 : Option V), σ' = [some v, some u, some (.int z), some (.ref A), some (.int (j : Int)), o5, o6] ∧ Acc 0 H2 A (ps.map dStep) H' ∧ ps.length = i ∧ j ≤ l.length ∧ readTimes readStep z.toNat (l.drop (k + 1)) = (readTimes readStep (z.toNat - i) (l.drop j)).map (fun w => (ps ++ w.1, w.2)), ⟨k + 1, [], none, none, rfl, ⟨(e3.trans e4).trans e5, ys, (e4.trans e5) _ _ hA, IsAll.ex (e4.trans e5) _ _ rA⟩, rfl, by omega, ?_⟩, ?_, ?_⟩)
  · rw [Nat.sub_zero]
    cases readTimes readStep z.toNat (l.drop (k + 1)) with
    | none => rfl
    | some w => rfl
  · rintro i σ' H6 hi ⟨j, ps, o5, o6, rfl, ac, hps, hj, hread⟩
    have x6 := ac.ex
    have hsucc : z.toNat - i = (z.toNat - (i + 1)) + 1 := by omega
    have hbind : readTimes readStep (z.toNat - i) (l.drop j) = ((readStep (l.drop j)).bind fun u => (readTimes readStep (z.toNat - (i + 1)) u.2).map fun v => (u.1 :: v.1, v.2)) := by
      rw [hsucc]; rfl
    rw [hbind] at hread
    refine go_set (n := 6) (ev_call (d_step_at t) (hr.mono (by omega)) (ea_cons (vr 0 (hv.ex' x6)) (ea_cons (vr 4 (.int (j : Int) : IsD 0 _ _ _)) ea_nil)) ⟨l, j, rfl, rfl⟩) (fun tv H7 e7 ht => ?_) sc_program_at.nd
    unfold dStepAt at ht
    cases hst : readStep (l.drop j) with
    | none =>
      rw [hst] at ht hread
      have hread : readTimes readStep z.toNat (l.drop (k + 1)) = none := hread
      rw [hread] at hq
      refine go_ifr (et_as (et_isN (vr 6 ht)) (k' := true) rfl) (fun _ H8 e8 => ?_) (fun h H8 e8 => absurd h (by decide))
      exact go_ret ev_non fun v7 H9 e9 h7 => hq v7 H9 (((e2.trans x6).trans e7).trans (e8.trans e9)) h7 (fun a F w z => by rw [is_none h7] at z; cases z)
    | some sr =>
      obtain ⟨s1, r1⟩ := sr
      obtain ⟨ok1, j1, hj1, hj2, rfl⟩ := step_pos hst
      rw [hst] at ht hread
      replace ht : IsD 0 H7 (.tuple [dStep s1, dN (l.length - (l.drop j1).length)]) tv := ht
      rw [drop_place hj2] at ht
      refine go_ifr (et_as (et_isN (vr 6 ht)) (k' := false) rfl) (fun h H8 e8 => absurd h (by decide)) (fun _ H8 e8 => ?_)
      refine go_accApp (d := dStep s1) h0A ((ac.up e7).up e8) (vrR 3 A) (ev_ixT (f := 0) (vr 6 (ht.ex' e8)) ev_int rfl) (by rw [List.length_map]; omega) (imms_map imm_step _) (imm_step _) (fun H9 a9 tx9 => ?_)
      have ht9 : IsD 0 H9 (.tuple [dStep s1, dN j1]) tv := IsD.tx tx9 _ _ rfl (ht.ex' e8)
      refine go_set (n := 4) (ev_ixT (f := 0) (vr 6 ht9) ev_int rfl) (fun jv HA eA hj => ?_) sc_program_at.nd
      obtain rfl := is_int hj
      refine go_nil ⟨j1, ps ++ [s1], _, some tv, rfl, ?_, ?_, hj2, ?_⟩
      · rw [List.map_append]
        exact a9.up eA
      · rw [List.length_append, hps]; rfl
      · rw [hread]
        show ((readTimes readStep (z.toNat - (i + 1)) (l.drop j1)).map fun v => (s1 :: v.1, v.2)).map _ = _
        rw [Option.map_map]
        congr 1
        funext w
        show (ps ++ s1 :: w.1, w.2) = (ps ++ [s1] ++ w.1, w.2)
        rw [List.append_assoc]; rfl
  · rintro σ' H6 ⟨j, ps, o5, o6, rfl, ac, hps, hj, hread⟩
    rw [Nat.sub_self] at hread
    have hread : readTimes readStep z.toNat (l.drop (k + 1)) = some (ps ++ [], l.drop j) := hread
    rw [hread, List.append_nil] at hq
    have hAB : A ≠ B := fun z => by rw [z, e2 _ _ hB] at h0A; cases h0A
    refine go_ret (P := fun H' v => Is (.tuple [dProg ps, dN j]) H' v ∧ ∃ a w, v = .ref a ∧ H' a = some (.tup [.ref A, w])) (fun HA eA Q' q' => w_E (pe_tup (pA _)) ((ea_cons (P := fun H' v => Is (dProg ps) H' v ∧ v = .ref A) (s := ⟨fun e h => ⟨h.1.ex' e, h.2⟩⟩) (fun HB eB Q2 q2 => (vrV 3 (.ref A)) HB eB Q2 fun v HC eC hv => q2 v HC eC ⟨by cases hv; exact ac.is.ex' (eB.trans eC), hv⟩) (ea_cons (P := Is (dN j)) (vr 4 (.int (j : Int) : IsD 0 _ _ _)) ea_nil)) HA eA _ fun vs HB eB ps' => ?_)) fun v7 H7 e7 h7 => hq v7 H7 ((e2.trans ac.ex).trans e7) ?_ ?_
    · obtain ⟨v1, v2, rfl, ⟨p1, rfl⟩, p2⟩ := allP2 ps'
      exact ⟨Nat.le_of_lt (small1000 (by show 2 ≤ 1000; omega)), fun pz hpz => q' _ _ (eB.trans (Ex.new hpz)) ⟨.tup (.of upd_same) (.cons (p1.ex' (Ex.new hpz)) (.cons (p2.ex' (Ex.new hpz)) .nil)), pz, v2, rfl, upd_same⟩⟩
    · show IsD 0 H7 (.tuple [dProg ps, dN (l.length - (l.drop j).length)]) v7
      rw [drop_place hj]
      exact h7.1
    · intro a F w z hz
      obtain ⟨_, a', w', z', hz'⟩ := h7
      rw [z] at z'
      cases z'
      rw [hz] at hz'
      cases hz'
      exact hAB
def a_program_ofB : List T → T → Prop := fun Ps R => ∃ (l : List Int) (B : Addr), Ps = [AtB B (Is (dInts l))] ∧ R = fun H v => Is (dWhole dProg (VametBase.whole readProgram l)) H v ∧ v ≠ .ref B
theorem d_program_ofB (t : Txt K mg CR CD) : Def P w K mg base 5 "program_of" ["numbers"] (Prom a_program_ofB) := by
  refine def_of t.f_program_of sc_program_of (fun _ _ ⟨_, _, h, _⟩ => h ▸ rfl) (fun _ _ _ _ _ _ us hl => match us, hl with | [_], _ => rfl) ?_
  intro f cdv A0 outer s H E vs Ps R Q hr hA ap hq
  obtain ⟨l, B, rfl, rfl⟩ := hA
  obtain ⟨v, rfl, hvB⟩ := allP1 ap
  have hv : IsD 0 H (dInts l) v := hvB.1
  refine go_set (n := 1) (ev_call (d_program_atB t) (hr.mono (by omega)) (ea_cons (vrP 0 (AtB B (Is (dInts l))) hvB) (ea_cons (ev_int (k := 0)) ea_nil)) ⟨l, 0, B, rfl, rfl⟩) (fun fv H1 e1 hfB => ?_) sc_program_of.nd
  obtain ⟨hf, hoff⟩ := hfB
  have hv := hv.ex' e1
  unfold dProgAt at hf
  rw [List.drop_zero] at hf
  unfold VametBase.whole at hq
  cases hp : readProgram l with
  | none =>
    rw [hp] at hf hq
    refine go_ifr (et_or (k := true) (l := true) (et_as (et_isN (vr 1 hf)) rfl) (fun h => absurd h (by decide))).et (fun _ H2 e2 => ?_) (fun h H2 e2 => absurd h (by decide))
    exact go_ret ev_non fun v7 H7 e7 h7 => hq v7 H7 ((e1.trans e2).trans e7) ⟨h7, fun z => by rw [is_none h7] at z; cases z⟩
  | some pr =>
    obtain ⟨p, r⟩ := pr
    have hpos := prog_pos (l := l) (k := 0) (by rw [List.drop_zero]; exact hp)
    obtain ⟨_, _, j, hj1, hj2, rfl⟩ := hpos
    rw [hp] at hf hq
    replace hf : IsD 0 H1 (.tuple [dProg p, dN (l.length - (l.drop j).length)]) fv := hf
    rw [drop_place hj2] at hf
    refine go_ifr (et_or (k := false) (l := decide (j < l.length)) (et_as (et_isN (vr 1 hf)) rfl) (fun _ => et_or1 (et_as (et_lt (ev_ixT (f := 0) (d := dN j) (vr 1 hf) ev_int rfl) (ev_lenL (f := 0) rfl t.b_len (vr 0 hv))) (by rw [List.length_map]; by_cases h : j < l.length <;> simp [h])))).et (fun h H2 e2 => ?_) (fun h H2 e2 => ?_)
    · have h : j < l.length := by simpa using h
      cases hd : l.drop j with
      | nil => have := List.drop_eq_nil_iff.mp hd; omega
      | cons a r =>
        rw [hd] at hq
        exact go_ret ev_non fun v7 H7 e7 h7 => hq v7 H7 ((e1.trans e2).trans e7) ⟨h7, fun z => by rw [is_none h7] at z; cases z⟩
    · have h : l.length ≤ j := by simpa using h
      rw [List.drop_eq_nil_of_le h] at hq
      obtain ⟨a, xs, rfl, ha, rx⟩ := is_tuple hf
      cases rx with
      | cons r1 r2 =>
      cases r2 with
      | cons r2 r3 =>
      cases r3
      obtain ⟨F, rfl⟩ := r1.ref_of
      have hFB : F ≠ B := hoff a F _ rfl ha.strict
      refine go_ret (P := fun H' v => Is (dProg p) H' v ∧ v = .ref F) (fun HA eA Q' q' => w_E (pe_ix ix_tup (pE _) (pE _) (fun _ _ => rfl)) ((vrV 1 (.ref a)) HA eA _ fun x HB eB hx => (ev_int (k := 0)) HB (eA.trans eB) _ fun y HC eC hy => ?_)) fun v7 H7 e7 h7 => hq v7 H7 ((e1.trans e2).trans e7) ⟨h7.1, fun z => by rw [h7.2] at z; cases z; exact hFB rfl⟩
      cases hx
      obtain rfl := is_int hy
      have eall := (e2.trans eA).trans (eB.trans eC)
      exact ⟨a, _, 0, .ref F, rfl, rfl, (ha.ex eall).sq, rfl, q' _ HC (eB.trans eC) ⟨r1.ex' eall, rfl⟩⟩
theorem dec_lt_nat {a b : Nat} : decide ((a : Int) < (b : Int)) = decide (a < b) := by
  by_cases h : a < b
  · rw [decide_eq_true h]; exact decide_eq_true (by omega)
  · rw [decide_eq_false h]; exact decide_eq_false (by omega)
/-! ### size, program -/
section
variable {X : Cx} {σ : L2.St} {H : Hp} {a e : Expr} {es : List Expr} {pos cpos : Pos} {D : Ends} {rest : List Stmt}
theorem go_meth {k : Nat} {m : Str} {ps : List Str} {sp : Sp} {Ps : List T} {apos : Pos} {C x : Addr} {plm : Sem Bool} (d : DefM X.prog X.w X.K X.mg X.base C k m ps sp) (hr : Room k X.A) (ho : EvE X a σ H (Eqv (.ref x)))
    (hi : ∃ dx fs, H x = some (.ins C dx fs) ∧ fs.lookup m = none) (ha : EvA X (e :: es) σ H Ps) (hsp : ∀ vs H1, Ex H H1 → AllP H1 Ps vs → sp (.ref x :: vs) H1 (fun _ H2 => tSs X rest D σ H2) E0)
    (hst : starEach (e :: es) X.env = (false, eval e X.env) :: starEach es X.env := by rfl) (hpl : (backTo cpos (starEach es X.env)).any (·.1) = false := by rfl)
    (ht : eval (.Call (.Attribute a m apos) (e :: es) [] cpos) X.env = (do
      let ov ← eval a X.env
      standAt apos.atName
      let (f, first) ← holding [ov] (getMethod ov m plm)
      callWith cpos f first (backTo cpos (starEach (e :: es) X.env)) (backToKw cpos (keywordEach [] X.env))) := by rfl)
    (hs : swapsWith (.Call (.Attribute a m apos) (e :: es) [] cpos) none pos.line X.env = pure false := by rfl) : tSs X (.Expr (.Call (.Attribute a m apos) (e :: es) [] cpos) pos :: rest) D σ H := by
  obtain ⟨c, f, fd, hm, hb, F⟩ := d
  obtain ⟨dx, fs, hx, hl⟩ := hi
  exact w_Ss (pss_cons (ps_expr (pe_meth (pE a) c hm F hr hb .nil pass0 (pA (e :: es)) hst hpl ht) hs) (pSs rest)) (ho H (Ex.refl H) _ fun v H2 e2 pv => by
    cases pv
    refine ⟨x, dx, fs, rfl, e2 _ _ hx, hl, ha H2 e2 _ fun vs H3 e3 ap => ?_⟩
    show sp (.ref x :: (vs ++ [])) H3 _ _
    rw [List.append_nil]
    exact hsp vs H3 (e2.trans e3) ap)
/-- return f(e, ..), by any promise -/
theorem go_retS {k : Nat} {x : Str} {ps : List Str} {sp : Sp} {Ps : List T} {p : Pos} (d : Def X.prog X.w X.K X.mg X.base k x ps sp) (hr : Room k X.A) (ha : EvA X (e :: es) σ H Ps) (hsp : ∀ vs H1, Ex H H1 → AllP H1 Ps vs → sp vs H1 D.rt E0)
    (hg : Gl X x := by rfl) (hdb : (x == ("__debug__" : Str)) = false := by decide) (he : starEach (e :: es) X.env = (false, eval e X.env) :: starEach es X.env := by rfl) (hpl : (backTo cpos (starEach es X.env)).any (·.1) = false := by rfl) :
    tSs X (.Return (some (.Call (.Name x p) (e :: es) [] cpos)) pos :: rest) D σ H := by
  obtain ⟨f, fd, hm, hk, hb, F⟩ := d
  exact w_Ss (pss_cons (ps_ret (pe_call F hr hg hm hk hb .nil pass0 (pA (e :: es)) hdb he hpl)) (pSs rest)) (ha H (Ex.refl H) _ fun vs H2 e2 ap => by
    show sp (vs ++ []) H2 _ _
    rw [List.append_nil]
    exact hsp vs H2 e2 ap)
/-- y = f(e, ..), by any promise -/
theorem go_setS {k n : Nat} {x y : Str} {ps : List Str} {sp : Sp} {Ps : List T} {p py : Pos} (d : Def X.prog X.w X.K X.mg X.base k x ps sp) (hr : Room k X.A) (ha : EvA X (e :: es) σ H Ps) (hN : X.N.Nodup) (hsp : ∀ vs H1, Ex H H1 → AllP H1 Ps vs → sp vs H1 (fun v H2 => tSs X rest D (σ.set n (some v)) H2) E0)
    (hi : X.N[n]? = some y := by rfl) (hx : Loc X.env.scope y := by first | exact Or.inl rfl | exact Or.inr rfl)
    (hs : swapsWith (.Call (.Name x p) (e :: es) [] cpos) (some (.Name y py)) pos.line X.env = pure false := by rfl) (hf : X.fn y = true ∨ X.env.scope.names.lookup y = some .local := by first | exact .inl rfl | exact .inr rfl)
    (hg : Gl X x := by rfl) (hdb : (x == ("__debug__" : Str)) = false := by decide) (he : starEach (e :: es) X.env = (false, eval e X.env) :: starEach es X.env := by rfl) (hpl : (backTo cpos (starEach es X.env)).any (·.1) = false := by rfl) :
    tSs X (.Assign [.Name y py] (.Call (.Name x p) (e :: es) [] cpos) pos :: rest) D σ H := by
  obtain ⟨f, fd, hm, hk, hb, F⟩ := d
  exact w_Ss (pss_cons (ps_set hN hi hx (pe_call F hr hg hm hk hb .nil pass0 (pA (e :: es)) hdb he hpl) hs hf) (pSs rest)) (ha H (Ex.refl H) _ fun vs H2 e2 ap => by
    show sp (vs ++ []) H2 _ _
    rw [List.append_nil]
    exact hsp vs H2 e2 ap)
end
theorem DeskAt.p {CD x pl : Addr} {H : Hp} {st : Vamete.State} (h : DeskAt CD H x pl st) : DeskP CD st H (.ref x) := ⟨x, pl, rfl, h⟩
theorem DeskAt.ins {CD x pl : Addr} {H : Hp} {st : Vamete.State} (h : DeskAt CD H x pl st) : ∃ dx rv tv, H x = some (.ins CD dx (deskF st.places rv tv pl)) := by
  obtain ⟨dx, rv, tv, _, _, h1, _⟩ := h
  exact ⟨dx, rv, tv, h1⟩
def okSize (a b : Int) : Bool := decide (0 ≤ a) && decide (a ≤ 4) && (decide (0 ≤ b) && decide (b ≤ 9))
def stSize (st : Vamete.State) (a b : Int) : Vamete.State := if okSize a b then (if 130 < (2 * b.toNat + 1) ^ a.toNat then st else sized st a.toNat b.toNat) else st
def ansSize (a b : Int) : List Int := if okSize a b then (if 130 < (2 * b.toNat + 1) ^ a.toNat then [-7] else [((pRows b.toNat a.toNat).length : Int), ((Vamete.allTurns a.toNat).length : Int)]) else [-1]
def s_sizeS (CD : Addr) : Sp := fun vs H Q _ => ∃ x pl B st a b, vs = [.ref x, .int a, .int b] ∧ DeskB CD H x pl B st ∧ ∀ v H', Fr x pl H H' → DeskB CD H' x pl B (stSize st a b) → IsD 0 H' (dInts (ansSize a b)) v → Q v H'
theorem sc_size : FnScope ["desk", "places", "high"] ["desk", "places", "high"] (defScope s_size) := ⟨rfl, rfl, rfl, by decide +kernel, rfl, by decide +kernel, by decide +kernel⟩
theorem d_size (t : Txt K mg CR CD) : Def P w K mg base 5 "size" ["desk", "places", "high"] (s_sizeS CD) := by
  refine def_ofS t.f_size sc_size (fun vs H Q E h => by obtain ⟨x, pl, B, st, a, b, rfl, _⟩ := h; rfl) (fun _ _ _ _ _ _ us hl => match us, hl with | [_, _, _], _ => rfl) ?_
  intro f cdv A0 outer s H E vs Q hr hs
  obtain ⟨x, pl, B, st, a, b, rfl, hD, hq⟩ := hs
  unfold stSize ansSize at hq
  refine go_ifr (k := !okSize a b) ?_ (fun h0 H1 e1 => ?_) (fun h0 H1 e1 => ?_)
  · refine et_as (et_or (k := !(decide (0 ≤ a) && decide (a ≤ 4))) (l := !(decide (0 ≤ b) && decide (b ≤ 9))) (et_not (et_chain_lele ev_int (vr 1 (.int a : IsD 0 _ _ _)) (fun _ => ev_glob t.c_MOST_PLACES))) (fun _ => et_or1 (et_not (et_chain_lele ev_int (vr 2 (.int b : IsD 0 _ _ _)) (fun _ => ev_glob t.c_MOST_HIGH))))).et ?_
    unfold okSize
    simp only [Bool.not_and]
  · have h0 : okSize a b = false := by simpa using h0
    rw [h0] at hq
    exact go_ret ev_neg1 fun v7 H7 e7 h7 => hq v7 H7 (.of (e1.trans e7)) (hD.ex (e1.trans e7)) h7
  have h0 : okSize a b = true := by simpa using h0
  rw [h0, if_pos rfl, if_pos rfl] at hq
  unfold okSize at h0
  simp only [Bool.and_eq_true, decide_eq_true_eq] at h0
  obtain ⟨⟨ha0, ha4⟩, hb0, hb9⟩ := h0
  have ea : a = ((a.toNat : Nat) : Int) := by omega
  have eb : b = ((b.toNat : Nat) : Int) := by omega
  have va : ∀ H, IsD 0 H (dN a.toNat) (.int a) := fun H => by rw [ea]; exact .int _
  have vb : ∀ H, IsD 0 H (dN b.toNat) (.int b) := fun H => by rw [eb]; exact .int _
  refine go_ifr (et_as (et_gt (ev_call (d_many_rows t) (hr.mono (by omega)) (ea_cons (vr 1 (va _)) (ea_cons (vr 2 (vb _)) ea_nil)) ⟨a.toNat, b.toNat, rfl, by omega, by omega, rfl⟩) (ev_glob t.c_MOST_ROWS)) (k' := decide (130 < (2 * b.toNat + 1) ^ a.toNat)) (dec_lt_nat (a := 130))) (fun h1 H2 e2 => ?_) (fun h1 H2 e2 => ?_)
  · rw [if_pos (of_decide_eq_true h1), if_pos (of_decide_eq_true h1)] at hq
    exact go_ret ev_neg1 fun v7 H7 e7 h7 => hq v7 H7 (.of ((e1.trans e2).trans e7)) (hD.ex ((e1.trans e2).trans e7)) h7
  have h1 := of_decide_eq_false h1
  rw [if_neg h1, if_neg h1] at hq
  have hD2 := hD.ex (e1.trans e2)
  refine go_meth (d_Desk_put_size (P := P) (w := w) (base := base) t) (hr.mono (by omega)) (vrV 0 (.ref x)) (by obtain ⟨dx, rv, tv, h⟩ := hD2.at_.ins; exact ⟨dx, _, h, rfl⟩) (ea_cons (vr 1 (va _)) (ea_cons (vr 2 (vb _)) ea_nil)) (fun vs H3 e3 ap => ?_)
  obtain ⟨v1, v2, rfl, p1, p2⟩ := allP2 ap
  obtain rfl := is_int p1
  obtain rfl := is_int p2
  refine ⟨x, pl, B, st, a.toNat, b.toNat, rfl, hD2.ex e3, by omega, by omega, by omega, fun H4 fr4 hD4 => ?_⟩
  have hp4 := hD4.at_.p
  refine go_ret (ev_lst (f := 0) (ds := [.int ((pRows b.toNat a.toNat).map dRow).length, .int ((Vamete.allTurns a.toNat).map dT).length]) (ea_cons (ev_lenL (f := 0) rfl t.b_len (ev_drows t (vrP 0 (DeskP CD (sized st a.toNat b.toNat)) hp4))) (ea_cons (ev_lenL (f := 2) rfl t.b_len (ev_dturns t (vrP 0 (DeskP CD (sized st a.toNat b.toNat)) hp4))) ea_nil)) (by show 2 ≤ 1000; omega)) fun v7 H7 e7 h7 => hq v7 H7 ((Fr.of ((e1.trans e2).trans e3)).trans (fr4.trans (.of e7))) (hD4.ex e7) ?_
  rw [List.length_map, List.length_map] at h7
  exact h7
def stProg (st : Vamete.State) (k : Int) (l : List Int) : Vamete.State := match VametBase.whole readProgram l with
  | none => st
  | some p => if k = 0 ∨ k = 1 then progd st k p else st
def ansProg (k : Int) (l : List Int) : List Int := match VametBase.whole readProgram l with
  | none => [-1]
  | some p => if k = 0 ∨ k = 1 then [(p.length : Int)] else [-2]
def s_programS (CD : Addr) : Sp := fun vs H Q _ => ∃ x pl B st k l nv, vs = [.ref x, .int k, nv] ∧ DeskB CD H x pl B st ∧ (∃ o, H B = some o) ∧ IsD 0 H (dInts l) nv ∧ ∀ v H', Fr x pl H H' → DeskB CD H' x pl B (stProg st k l) → IsD 0 H' (dInts (ansProg k l)) v → Q v H'
theorem sc_program : FnScope ["desk", "which", "numbers", "found"] ["desk", "which", "numbers"] (defScope s_program) := ⟨rfl, rfl, rfl, by decide +kernel, rfl, by decide +kernel, by decide +kernel⟩
theorem d_program (t : Txt K mg CR CD) : Def P w K mg base 6 "program" ["desk", "which", "numbers"] (s_programS CD) := by
  refine def_ofS t.f_program sc_program (fun vs H Q E h => by obtain ⟨x, pl, B, st, k, l, nv, rfl, _⟩ := h; rfl) (fun _ _ _ _ _ _ us hl => match us, hl with | [_, _, _], _ => rfl) ?_
  intro f cdv A0 outer s H E vs Q hr hs
  obtain ⟨x, pl, B, st, k, l, nv, rfl, hD, hB, hnv, hq⟩ := hs
  unfold stProg ansProg at hq
  refine go_set (n := 3) (ev_call (d_program_ofB t) (hr.mono (by omega)) (ea_cons (vrP 2 (AtB B (Is (dInts l))) ⟨hnv, hB⟩) ea_nil) ⟨l, B, rfl, rfl⟩) (fun fv H1 e1 hf => ?_) sc_program.nd
  obtain ⟨hf, hfB⟩ := hf
  have hD1 := hD.ex e1
  cases hw : VametBase.whole readProgram l with
  | none =>
    rw [hw] at hf hq
    refine go_ifr (et_as (et_isN (vr 3 hf)) (k' := true) rfl) (fun _ H2 e2 => ?_) (fun h H2 e2 => absurd h (by decide))
    exact go_ret ev_neg1 fun v7 H7 e7 h7 => hq v7 H7 (.of ((e1.trans e2).trans e7)) (hD1.ex (e2.trans e7)) h7
  | some p =>
  rw [hw] at hf
  have hq : ∀ v H', Fr x pl H H' → DeskB CD H' x pl B (if k = 0 ∨ k = 1 then progd st k p else st) → IsD 0 H' (dInts (if k = 0 ∨ k = 1 then [(p.length : Int)] else [-2])) v → Q v H' := by
    rw [hw] at hq
    exact hq
  replace hf : IsD 0 H1 (dProg p) fv := hf
  refine go_ifr (et_as (et_isN (vr 3 hf)) (k' := false) rfl) (fun h H2 e2 => absurd h (by decide)) (fun _ H2 e2 => ?_)
  refine go_ifr (et_notInI (l := [0, 1]) (g := 0) (vr 1 (.int k : IsD 0 _ _ _)) (ev_tup (f := 0) (ds := [.int 0, .int 1]) (ea_cons ev_int (ea_cons ev_int ea_nil)) (by show 2 ≤ 1000; omega))) (fun h0 H3 e3 => ?_) (fun h0 H3 e3 => ?_)
  · have h0 : ¬ (k = 0 ∨ k = 1) := by
      intro z
      have : ([0, 1] : List Int).contains k = true := by rcases z with rfl | rfl <;> rfl
      rw [this] at h0; cases h0
    rw [if_neg h0, if_neg h0] at hq
    exact go_ret ev_neg1 fun v7 H7 e7 h7 => hq v7 H7 (.of ((e1.trans e2).trans (e3.trans e7))) (hD1.ex (e2.trans (e3.trans e7))) h7
  have hk : k = 0 ∨ k = 1 := by
    have : ¬ k = 0 → k = 1 := by simpa using h0
    omega
  rw [if_pos hk, if_pos hk] at hq
  have e23 := e2.trans e3
  have hD3 := hD1.ex e23
  have hf3 := hf.ex' e23
  refine go_meth (d_Desk_put_program (P := P) (w := w) (base := base) t) (hr.mono (by omega)) (vrV 0 (.ref x)) (by obtain ⟨dx, rv, tv, h⟩ := hD3.at_.ins; exact ⟨dx, _, h, rfl⟩) (ea_cons (vrV 1 (.int k)) (ea_cons (vrV 3 fv) ea_nil)) (fun vs H4 e4 ap => ?_)
  obtain ⟨v1, v2, rfl, p1, p2⟩ := allP2 ap
  cases p1
  cases p2
  refine ⟨x, pl, B, st, k, p, fv, rfl, hD3.ex e4, hk, hf3.ex' e4, hfB, fun H5 fr5 hD5 hf5 => ?_⟩
  refine go_ret (ev_lst (f := 0) (ds := [.int (p.map dStep).length]) (ea_cons (ev_lenL (f := 0) rfl t.b_len (vr 3 hf5)) ea_nil) (by show 1 ≤ 1000; omega)) fun v7 H7 e7 h7 => hq v7 H7 ((Fr.of ((e1.trans e23).trans e4)).trans (fr5.trans (.of e7))) (hD5.ex e7) ?_
  rw [List.length_map] at h7
  exact h7
end
end TG
set_option Elab.async false
set_option linter.all false
set_option maxRecDepth 100000
set_option maxHeartbeats 2000000
namespace TG
open PySem PySem.Spec PyProof.Rows L2
open Evl (Ex ex_l ex_t fresh_back)
section
variable {P : Program} {w : World} {K : PySem.W.Frag} {mg : Str → Option Value} {base : Heap} {CR CD : Addr}
open VametBase (readStep readNat readInt readProgram readTimes readCond readRel readRelation readRow readListed readPair)
/-! ### answer -/
def pState (st : Vamete.State) (c : Int) (n : List Int) (r : List (List Int)) : Vamete.State := if c = 0 then stSize st (n.getD 0 0) (n.getD 1 0) else if c = 1 then stProg st (n.getD 0 0) (r.getD 0 []) else st
def pAns (st : Vamete.State) (c : Int) (n : List Int) (r : List (List Int)) : List Int :=
  if c = 0 then ansSize (n.getD 0 0) (n.getD 1 0) else if c = 1 then ansProg (n.getD 0 0) (r.getD 0 []) else if c = 3 then ansCompose st (n.getD 0 0) (n.getD 1 0) else if c = 5 then ansGroup st (r.getD 0 [])
  else if c = 6 then ansOrbit st (r.getD 0 []) (r.getD 1 []) else if c = 7 then ansOrbits st (r.getD 0 []) else if c = 9 then ansGrp st else if c = 11 then ansChain (r.getD 0 []) (r.getD 1 [])
  else if c = 12 then ansKept st (n.getD 0 0) (r.getD 0 []) else ansOf st c (n.getD 0 0)
def Shaped (c : Int) (n : List Int) (r : List (List Int)) : Prop := PyVamete.shape c = some (n.length, r.length) ∧ ∀ x ∈ r, x.length ≤ 1000
theorem shape_cases {c : Int} {p : Nat × Nat} (h : PyVamete.shape c = some p) : c = 0 ∨ c = 1 ∨ c = 2 ∨ c = 3 ∨ c = 4 ∨ c = 5 ∨ c = 6 ∨ c = 7 ∨ c = 8 ∨ c = 9 ∨ c = 10 ∨ c = 11 ∨ c = 12 := by
  have : ∀ c : Int, ¬ (c = 0 ∨ c = 1 ∨ c = 2 ∨ c = 3 ∨ c = 4 ∨ c = 5 ∨ c = 6 ∨ c = 7 ∨ c = 8 ∨ c = 9 ∨ c = 10 ∨ c = 11 ∨ c = 12) → PyVamete.shape c = none := by
    intro c hc
    simp only [not_or] at hc
    obtain ⟨h0, h1, h2, h3, h4, h5, h6, h7, h8, h9, h10, h11, h12⟩ := hc
    unfold PyVamete.shape
    simp only [if_neg h0, if_neg h1, if_neg h2, if_neg h3, if_neg h4, if_neg h5, if_neg h6, if_neg h7, if_neg h8, if_neg h9, if_neg h10, if_neg h11, if_neg h12]
  by_cases hc : c = 0 ∨ c = 1 ∨ c = 2 ∨ c = 3 ∨ c = 4 ∨ c = 5 ∨ c = 6 ∨ c = 7 ∨ c = 8 ∨ c = 9 ∨ c = 10 ∨ c = 11 ∨ c = 12
  · exact hc
  · rw [this c hc] at h
    cases h
def s_answerS (CD : Addr) : Sp := fun vs H Q _ => ∃ x pl B st c n r nv rv, vs = [.ref x, .int c, nv, rv] ∧ DeskB CD H x pl B st ∧ okSt st ∧ (∃ o, H B = some o) ∧ IsD 0 H (dInts n) nv ∧ IsD 0 H (.list (r.map dInts)) rv ∧ Shaped c n r ∧
  ∀ v H', Fr x pl H H' → DeskB CD H' x pl B (pState st c n r) → IsD 0 H' (dInts (pAns st c n r)) v → Q v H'
theorem sc_answer : FnScope ["desk", "call", "numbers", "rows"] ["desk", "call", "numbers", "rows"] (defScope s_answer) := ⟨rfl, rfl, rfl, by decide +kernel, rfl, by decide +kernel, by decide +kernel⟩
theorem ev_numAt {X : Cx} {σ : L2.St} {H : Hp} {a : Expr} {pos p2 : Pos} {l : List Int} {i : Nat} {k : Nat} (ha : EvE X a σ H (Is (dInts l))) (hi : i < l.length) : EvE X (.Subscript a (.Constant (.int (i : Int)) k p2) pos) σ H (Is (.int (l.getD i 0))) := by
  have hg := List.getElem?_eq_getElem hi
  rw [List.getD_eq_getElem?_getD, hg]
  exact ev_ixL (f := 0) (d := .int l[i]) ha (ev_int (k := (i : Int))) (atI_nat (by rw [List.getElem?_map, hg]; rfl))
theorem ev_rowAt {X : Cx} {σ : L2.St} {H : Hp} {a : Expr} {pos p2 : Pos} {l : List (List Int)} {i : Nat} {k : Nat} (ha : EvE X a σ H (Is (.list (l.map dInts)))) (hi : i < l.length) : EvE X (.Subscript a (.Constant (.int (i : Int)) k p2) pos) σ H (Is (dInts (l.getD i []))) := by
  have hg := List.getElem?_eq_getElem hi
  rw [List.getD_eq_getElem?_getD, hg]
  exact ev_ixL (f := 0) (d := dInts l[i]) ha (ev_int (k := (i : Int))) (atI_nat (by rw [List.getElem?_map, hg]; rfl))
theorem getD_small {r : List (List Int)} (h : ∀ x ∈ r, x.length ≤ 1000) (i : Nat) : (r.getD i []).length ≤ 1000 := by
  rw [List.getD_eq_getElem?_getD]
  cases hh : r[i]? with
  | none => exact Nat.zero_le _
  | some x => exact h x (List.mem_of_getElem? hh)
theorem d_answer (t : Txt K mg CR CD) : Def P w K mg base 9 "answer" ["desk", "call", "numbers", "rows"] (s_answerS CD) := by
  refine def_ofS t.f_answer sc_answer (fun vs H Q E h => by obtain ⟨x, pl, B, st, c, n, r, nv, rv, rfl, _⟩ := h; rfl) (fun _ _ _ _ _ _ us hl => match us, hl with | [_, _, _, _], _ => rfl) ?_
  intro f cdv A0 outer s H E vs Q hr hs
  obtain ⟨x, pl, B, st, c, n, r, nv, rv, rfl, hD, ok, hB, hn, hrr, ⟨hsh, hsm⟩, hq⟩ := hs
  have hc := shape_cases hsh
  have vc : ∀ H, IsD 0 H (.int c) (.int c) := fun _ => .int c
  have L : ∀ {a b : Nat}, PyVamete.shape c = some (a, b) → n.length = a ∧ r.length = b := fun h => by
    rw [hsh] at h
    injection h with h
    injection h with h1 h2
    exact ⟨h1, h2⟩
  have hD' : ∀ {H1}, Ex H H1 → DeskP CD st H1 (.ref x) := fun e => (hD.ex e).at_.p
  have fin : ∀ {H1 H2 : Hp} {v : V} {ans : List Int}, Ex H H1 → Ex H1 H2 → pAns st c n r = ans → pState st c n r = st → IsD 0 H2 (dInts ans) v → Q v H2 := fun e1 e2 h1 h2 h3 => hq _ _ (.of (e1.trans e2)) (by rw [h2]; exact hD.ex (e1.trans e2)) (by rw [h1]; exact h3)
  refine go_ifr (et_eq (vr 1 (vc _)) ev_int) (fun h0 H1 e1 => ?_) (fun h0 H1 e1 => ?_)
  · obtain rfl := of_decide_eq_true h0
    obtain ⟨l1, l2⟩ := L (a := 2) (b := 0) rfl
    refine go_retS (d_size (P := P) (w := w) (base := base) t) (hr.mono (by omega)) (ea_cons (vrV 0 (.ref x)) (ea_cons (ev_numAt (i := 0) (vr 2 (hn.ex' e1)) (by omega)) (ea_cons (ev_numAt (i := 1) (vr 2 (hn.ex' e1)) (by omega)) ea_nil))) (fun vs H2 e2 ap => ?_)
    obtain ⟨v1, v2, v3, rfl, p1, p2, p3⟩ := allP3 ap
    cases p1
    obtain rfl := is_int p2
    obtain rfl := is_int p3
    exact ⟨x, pl, B, st, _, _, rfl, hD.ex (e1.trans e2), fun v H3 fr hD3 hv => hq v H3 ((Fr.of (e1.trans e2)).trans fr) hD3 hv⟩
  have h0 := of_decide_eq_false h0
  refine go_ifr (et_eq (vr 1 (vc _)) ev_int) (fun h1 H2 e2 => ?_) (fun h1 H2 e2 => ?_)
  · obtain rfl := of_decide_eq_true h1
    obtain ⟨l1, l2⟩ := L (a := 1) (b := 1) rfl
    have e12 := e1.trans e2
    refine go_retS (d_program (P := P) (w := w) (base := base) t) (hr.mono (by omega)) (ea_cons (vrV 0 (.ref x)) (ea_cons (ev_numAt (i := 0) (vr 2 (hn.ex' e12)) (by omega)) (ea_cons (ev_rowAt (i := 0) (vr 3 (hrr.ex' e12)) (by omega)) ea_nil))) (fun vs H3 e3 ap => ?_)
    obtain ⟨v1, v2, v3, rfl, p1, p2, p3⟩ := allP3 ap
    cases p1
    obtain rfl := is_int p2
    obtain ⟨oB, hB⟩ := hB
    exact ⟨x, pl, B, st, _, _, v3, rfl, hD.ex (e12.trans e3), ⟨oB, (e12.trans e3) _ _ hB⟩, p3, fun v H4 fr hD4 hv => hq v H4 ((Fr.of (e12.trans e3)).trans fr) hD4 hv⟩
  have h1 := of_decide_eq_false h1
  have hst : pState st c n r = st := by unfold pState; rw [if_neg h0, if_neg h1]
  replace e2 := e1.trans e2
  refine go_ifr (et_eq (vr 1 (vc _)) ev_int) (fun h2 H3 e3 => ?_) (fun h2 H3 e3 => ?_)
  · obtain rfl := of_decide_eq_true h2
    obtain ⟨l1, l2⟩ := L (a := 2) (b := 0) rfl
    have e := e2.trans e3
    exact go_ret (ev_call (d_compose t) (hr.mono (by omega)) (ea_cons (vrP 0 (DeskP CD st) (hD' e)) (ea_cons (ev_numAt (i := 0) (vr 2 (hn.ex' e)) (by omega)) (ea_cons (ev_numAt (i := 1) (vr 2 (hn.ex' e)) (by omega)) ea_nil))) ⟨st, _, _, rfl, ok, rfl⟩) fun v7 H7 e7 h7 => fin e e7 rfl hst h7
  have h2 := of_decide_eq_false h2
  replace e3 := e2.trans e3
  refine go_ifr (et_eq (vr 1 (vc _)) ev_int) (fun h3 H4 e4 => ?_) (fun h3 H4 e4 => ?_)
  · obtain rfl := of_decide_eq_true h3
    obtain ⟨l1, l2⟩ := L (a := 0) (b := 1) rfl
    have e := e3.trans e4
    exact go_ret (ev_call (d_told_group t) (hr.mono (by omega)) (ea_cons (vrP 0 (DeskP CD st) (hD' e)) (ea_cons (ev_rowAt (i := 0) (vr 3 (hrr.ex' e)) (by omega)) ea_nil)) ⟨st, _, rfl, ok, getD_small hsm 0, rfl⟩) fun v7 H7 e7 h7 => fin e e7 rfl hst h7
  have h3 := of_decide_eq_false h3
  replace e4 := e3.trans e4
  refine go_ifr (et_eq (vr 1 (vc _)) ev_int) (fun h4 H5 e5 => ?_) (fun h4 H5 e5 => ?_)
  · obtain rfl := of_decide_eq_true h4
    obtain ⟨l1, l2⟩ := L (a := 0) (b := 2) rfl
    have e := e4.trans e5
    exact go_ret (ev_call (d_told_orbit t) (hr.mono (by omega)) (ea_cons (vrP 0 (DeskP CD st) (hD' e)) (ea_cons (ev_rowAt (i := 0) (vr 3 (hrr.ex' e)) (by omega)) (ea_cons (ev_rowAt (i := 1) (vr 3 (hrr.ex' e)) (by omega)) ea_nil))) ⟨st, _, _, rfl, ok, getD_small hsm 0, getD_small hsm 1, rfl⟩) fun v7 H7 e7 h7 => fin e e7 rfl hst h7
  have h4 := of_decide_eq_false h4
  replace e5 := e4.trans e5
  refine go_ifr (et_eq (vr 1 (vc _)) ev_int) (fun h5 H6 e6 => ?_) (fun h5 H6 e6 => ?_)
  · obtain rfl := of_decide_eq_true h5
    obtain ⟨l1, l2⟩ := L (a := 0) (b := 1) rfl
    have e := e5.trans e6
    exact go_ret (ev_call (d_told_orbits t) (hr.mono (by omega)) (ea_cons (vrP 0 (DeskP CD st) (hD' e)) (ea_cons (ev_rowAt (i := 0) (vr 3 (hrr.ex' e)) (by omega)) ea_nil)) ⟨st, _, rfl, ok, getD_small hsm 0, rfl⟩) fun v7 H7 e7 h7 => fin e e7 rfl hst h7
  have h5 := of_decide_eq_false h5
  replace e6 := e5.trans e6
  refine go_ifr (et_eq (vr 1 (vc _)) ev_int) (fun h6 H7 e7 => ?_) (fun h6 H7 e7 => ?_)
  · obtain rfl := of_decide_eq_true h6
    have e := e6.trans e7
    exact go_ret (ev_call (d_group t) (hr.mono (by omega)) (ea_cons (vrP 0 (DeskP CD st) (hD' e)) ea_nil) ⟨st, rfl, ok, rfl⟩) fun v8 H8 e8 h8 => fin e e8 rfl hst h8
  have h6 := of_decide_eq_false h6
  replace e7 := e6.trans e7
  refine go_ifr (et_eq (vr 1 (vc _)) ev_int) (fun h7 H8 e8 => ?_) (fun h7 H8 e8 => ?_)
  · obtain rfl := of_decide_eq_true h7
    obtain ⟨l1, l2⟩ := L (a := 0) (b := 2) rfl
    have e := e7.trans e8
    exact go_ret (ev_call (d_chain t) (hr.mono (by omega)) (ea_cons (ev_rowAt (i := 0) (vr 3 (hrr.ex' e)) (by omega)) (ea_cons (ev_rowAt (i := 1) (vr 3 (hrr.ex' e)) (by omega)) ea_nil)) ⟨_, _, rfl, rfl⟩) fun v9 H9 e9 h9 => fin e e9 rfl hst h9
  have h7 := of_decide_eq_false h7
  replace e8 := e7.trans e8
  refine go_ifr (et_eq (vr 1 (vc _)) ev_int) (fun h8 H9 e9 => ?_) (fun h8 H9 e9 => ?_)
  · obtain rfl := of_decide_eq_true h8
    obtain ⟨l1, l2⟩ := L (a := 1) (b := 1) rfl
    have e := e8.trans e9
    exact go_ret (ev_call (d_kept t) (hr.mono (by omega)) (ea_cons (vrP 0 (DeskP CD st) (hD' e)) (ea_cons (ev_numAt (i := 0) (vr 2 (hn.ex' e)) (by omega)) (ea_cons (ev_rowAt (i := 0) (vr 3 (hrr.ex' e)) (by omega)) ea_nil))) ⟨st, _, _, rfl, ok, rfl⟩) fun v9 HA eA h9 => fin e eA rfl hst h9
  have h8 := of_decide_eq_false h8
  replace e9 := e8.trans e9
  have hn1 : n.length = 1 := by
    have hcc : c = 2 ∨ c = 4 ∨ c = 8 ∨ c = 10 := by omega
    rcases hcc with rfl | rfl | rfl | rfl
    · exact (L (a := 1) (b := 0) rfl).1
    · exact (L (a := 1) (b := 0) rfl).1
    · exact (L (a := 1) (b := 0) rfl).1
    · exact (L (a := 1) (b := 0) rfl).1
  have hans : pAns st c n r = ansOf st c (n.getD 0 0) := by
    unfold pAns
    rw [if_neg h0, if_neg h1, if_neg h2, if_neg h3, if_neg h4, if_neg h5, if_neg h6, if_neg h7, if_neg h8]
  exact go_ret (ev_call (d_of_turn t) hr (ea_cons (vrP 0 (DeskP CD st) (hD' e9)) (ea_cons (vr 1 (vc _)) (ea_cons (ev_numAt (i := 0) (vr 2 (hn.ex' e9)) (by omega)) ea_nil))) ⟨st, c, _, rfl, ok, rfl⟩) fun v9 HA eA h9 => fin e9 eA hans hst h9
end
end TG
set_option Elab.async false
set_option linter.all false
set_option maxRecDepth 100000
set_option maxHeartbeats 2000000
namespace TG
open PySem PySem.Spec PyProof.Rows L2
open Evl (Ex ex_l ex_t fresh_back)
section
variable {P : Program} {w : World} {K : PySem.W.Frag} {mg : Str → Option Value} {base : Heap} {CR CD : Addr}
open VametBase (readStep readNat readInt readProgram readTimes readCond readRel readRelation readRow readListed readPair)
/-! ### a list put aside, taken up again -/
def boxI (B : Addr) (out : List Int) : HO := .ext fun h => ∃ (its : List Value) (n : Nat), Vals (out.map V.int) its ∧ (out.map V.int).length ≤ sizeLine ∧ h.get? B = some { cls := .type "list", data := .seq its.toArray n }
section
variable {X : Cx} {σ : L2.St} {H : Hp} {D : Ends} {rest : List Stmt} {B : Addr} {out : List Int} {pins : List (Addr × Obj)} {s : Shared}
theorem inv_box (I : Inv X pins σ H s) (hB : H B = some (.lst (out.map V.int))) : Inv X pins σ (upd H B (boxI B out)) s := by
  obtain ⟨z, its, n, r, e⟩ := I.hok B _ hB
  exact I.write (x := B) (e := B) (o := boxI B out) (h' := s.heap) (t' := s.toks) (by rw [hB]; exact trivial) (.inl rfl) (fun b u _ hu => hu) ⟨_, e⟩ ⟨⟨its, n, r, z, e⟩, ⟨_, e⟩, fun h1 h2 ⟨its, n, a, b, c⟩ k => ⟨its, n, a, b, k _ c⟩⟩
theorem inv_unbox (I : Inv X pins σ H s) (hB : H B = some (boxI B out)) : Inv X pins σ (upd H B (.lst (out.map V.int))) s := by
  obtain ⟨⟨its, n, r, z, e⟩, _, _⟩ := I.hok B _ hB
  exact I.write (x := B) (e := B) (o := .lst (out.map V.int)) (h' := s.heap) (t' := s.toks) (by rw [hB]; exact trivial) (.inl rfl) (fun b u _ hu => hu) ⟨_, e⟩ ⟨z, its, n, r, e⟩
theorem go_box (hB : H B = some (.lst (out.map V.int))) (h : tSs X rest D σ (upd H B (boxI B out))) : tSs X rest D σ H := fun pins s I => h pins s (inv_box I hB)
theorem go_unbox (hB : H B = some (boxI B out)) (h : tSs X rest D σ (upd H B (.lst (out.map V.int)))) : tSs X rest D σ H := fun pins s I => h pins s (inv_unbox I hB)
end
/-! ### the calls -/
def CP (K : PySem.W.Frag) (l : List Int) : T := fun H v => ∃ a, v = .ref a ∧ SqL K H a (l.map V.int)
theorem sql_ex {K : PySem.W.Frag} {H H' : Hp} {a : Addr} {xs : List V} (e : Ex H H') (h : SqL K H a xs) : SqL K H' a xs := by
  rcases h with (h | ⟨o, h⟩) | h
  · exact .inl (.inl (e _ _ h))
  · exact .inl (.inr ⟨o, e _ _ h⟩)
  · exact .inr h
instance (K : PySem.W.Frag) (l : List Int) : Sta (CP K l) := ⟨fun e ⟨a, h0, h⟩ => ⟨a, h0, sql_ex e h⟩⟩
section
variable {X : Cx} {σ : L2.St} {H : Hp} {a b e : Expr} {pos p2 p : Pos} {l : List Int}
theorem ev_lenC (hm : X.mg "len" = none) (ha : EvE X a σ H (CP X.K l)) (hg : Gl X "len" := by rfl) (hs : starEach [a] X.env = (false, eval a X.env) :: starEach [] X.env := by rfl) : EvE X (.Call (.Name "len" p) [a] [] pos) σ H (Is (dN l.length)) :=
  ev_callB call_len_seq hm PySem.boot_len (ea_cons ha ea_nil hs) (fun vs H1 _ ap Q q => by
    obtain ⟨v, rfl, p', rfl, h⟩ := allP1 ap
    exact ⟨p', _, rfl, Or.inl h, by rw [List.length_map]; exact q _ H1 (Ex.refl H1) (.int _)⟩) hg (he := hs)
theorem ev_ixC {i : Nat} {z : Int} (ha : EvE X a σ H (CP X.K l)) (hb : EvE X b σ H (Is (dN i))) (hz : l[i]? = some z) (hs : PlainIx b := by exact fun _ _ => rfl) : EvE X (.Subscript a b pos) σ H (Is (.int z)) := fun H1 e1 Q q =>
  w_E (pe_ix ix_list (pE a) (pE b) hs) (ha H1 e1 _ fun x H2 e2 p2 => hb H2 (e1.trans e2) _ fun y H3 e3 p3 => by
    obtain rfl := is_int p3
    obtain ⟨p, rfl, h⟩ := p2
    refine ⟨p, _, i, .int z, rfl, rfl, sql_ex e3 h, ?_, q _ H3 (e2.trans e3) (.int z)⟩
    have hl := getl hz
    show (ixN (l.map V.int).length (i : Int)).bind (fun j => (l.map V.int)[j]?) = some (V.int z)
    rw [Evl.ixN_nat (by rw [List.length_map]; exact hl)]
    show (l.map V.int)[i]? = _
    rw [List.getElem?_map, hz]; rfl)
theorem ev_slC {lo hi : Option Expr} {x y : Option Int} (ha : EvE X a σ H (CP X.K l)) (hl : EvO X lo σ H x) (hh : EvO X hi σ H y) : EvE X (.Subscript a (.Slice lo hi none p2) pos) σ H (NewL 0 H ((cutD l x y).map .int)) := fun H1 e1 Q q => by
  obtain ⟨tl, hl, hl2⟩ := hl
  obtain ⟨th, hh, hh2⟩ := hh
  refine w_E (pe_slice sl_list (pE a) hl hh) (ha H1 e1 _ fun v H2 e2 pv => hl2 H2 (e1.trans e2) _ fun H3 e3 => hh2 H3 ((e1.trans e2).trans e3) _ fun H4 e4 => ?_)
  obtain ⟨p, rfl, h⟩ := pv
  refine ⟨p, _, rfl, sql_ex (e3.trans e4) h, fun t ht => ?_⟩
  have e14 := (e2.trans e3).trans e4
  refine q _ _ (e14.trans (Ex.new ht)) ⟨t, _, rfl, fresh_back (e1.trans e14) ht, upd_same, ?_⟩
  show IsAll 0 _ ((cutD l x y).map .int) (cutD (l.map V.int) x y)
  rw [cutD_map]
  exact isAll_ints _
/-- a name's tuple of the top -/
theorem ev_tab {x : Str} {tb : List Int} {i : Nat} {z : Int} {pn : Pos} (h : ∃ a, X.mg x = some (.ref a) ∧ ∀ H, SqT X.K H a (tb.map V.int)) (hb : EvE X b σ H (Is (dN i))) (hz : tb[i]? = some z) (hg : Gl X x := by rfl) (hd : (x == ("__debug__" : Str)) = false := by decide) (hs : PlainIx b := by exact fun _ _ => rfl) : EvE X (.Subscript (.Name x pn) b pos) σ H (Is (.int z)) := fun H1 e1 Q q => by
  obtain ⟨a, hm, hT⟩ := h
  refine w_E (pe_ix ix_tup (pe_glob hg hm (v := .ref a) rfl hd) (pE b) hs) (hb H1 e1 _ fun y H3 e3 p3 => ?_)
  obtain rfl := is_int p3
  refine ⟨a, _, i, .int z, rfl, rfl, hT H3, ?_, q _ H3 e3 (.int z)⟩
  have hl := getl hz
  show (ixN (tb.map V.int).length (i : Int)).bind (fun j => (tb.map V.int)[j]?) = some (V.int z)
  rw [Evl.ixN_nat (by rw [List.length_map]; exact hl)]
  show (tb.map V.int)[i]? = _
  rw [List.getElem?_map, hz]; rfl
end
end
end TG
set_option Elab.async false
set_option linter.all false
set_option maxRecDepth 100000
set_option maxHeartbeats 2000000
namespace TG
open PySem PySem.Spec PyProof.Rows L2
open Evl (Ex ex_l ex_t fresh_back)
section
variable {P : Program} {w : World} {K : PySem.W.Frag} {mg : Str → Option Value} {base : Heap} {CR CD : Addr}
open VametBase (readStep readNat readInt readProgram readTimes readCond readRel readRelation readRow readListed readPair)
section
variable {f g : Nat} {X : Cx} {σ : L2.St} {H H' H0 : Hp} {a b c e o iter : Expr} {es : List Expr} {Q1 Q2 R : T} {pos apos cpos fpos : Pos} {i j : Int} {D : Ends} {rest body as bs : List Stmt} {A B : Addr} {ds ds2 : List PyData} {d : PyData}
theorem go_appZ {xs : List V} {P : T} (ho : EvE X o σ H (RefIs A)) (hA : H A = some (.lst xs)) (hz : xs.length < 16000000) (he : EvE X e σ H P) (k : ∀ y H1, Ex H H1 → P H1 y → tSs X rest D σ (upd H1 A (.lst (xs ++ [y]))))
    (hb : attributeBase o "append" X.env (eval o X.env) = eval o X.env := by rfl)
    (hfew : ((backTo cpos (starEach [e] X.env)).all (fun x => !x.1) && (backToKw cpos (keywordEach [] X.env)).all (fun x => x.1.isSome)
      && decide (([e] : List Expr).length + ([] : List Keyword).length + (if ([] : List Keyword).isEmpty then 0 else 1) < 30)) = true := by rfl)
    (hline : (apos.endLine == cpos.line) = true := by rfl) (hs : starEach [e] X.env = (false, eval e X.env) :: starEach [] X.env := by rfl) (hpl : (backTo cpos (starEach [] X.env)).any (·.1) = false := by rfl)
    (hw : swapsWith (.Call (.Attribute o "append" apos) [e] [] cpos) none pos.line X.env = pure false := by rfl) : tSs X (.Expr (.Call (.Attribute o "append" apos) [e] [] cpos) pos :: rest) D σ H :=
  w_Ss (pss_cons (ps_expr (pe_bm PySem.F.plainAttrs_list PySem.F.slot_list_append PySem.F.type_list_append mt_append (pE o) (pa_cons (pE e) pa_nil hs) hb hfew hline hs hpl) hw) (pSs rest)) (ho H (Ex.refl H) _ fun v H1 e1 p => by
    cases p
    exact ⟨Or.inl ⟨rfl, xs, SqL.of (e1 _ _ hA)⟩, he H1 e1 _ fun y H2 e2 py => ⟨A, xs, y, rfl, rfl, (e1.trans e2) _ _ hA, Nat.lt_trans hz (by decide), k y H2 (e1.trans e2) py⟩⟩)
theorem go_extZ {xs : List V} (ho : EvE X o σ H (RefIs A)) (hA : H A = some (.lst xs)) (he : EvE X e σ H (Isf f (.list ds))) (hz : xs.length + ds.length ≤ 16000000) (k : ∀ ys H1, Ex H H1 → IsAll f H1 ds ys → tSs X rest D σ (upd H1 A (.lst (xs ++ ys))))
    (hb : attributeBase o "extend" X.env (eval o X.env) = eval o X.env := by rfl)
    (hfew : ((backTo cpos (starEach [e] X.env)).all (fun x => !x.1) && (backToKw cpos (keywordEach [] X.env)).all (fun x => x.1.isSome)
      && decide (([e] : List Expr).length + ([] : List Keyword).length + (if ([] : List Keyword).isEmpty then 0 else 1) < 30)) = true := by rfl)
    (hline : (apos.endLine == cpos.line) = true := by rfl) (hs : starEach [e] X.env = (false, eval e X.env) :: starEach [] X.env := by rfl) (hpl : (backTo cpos (starEach [] X.env)).any (·.1) = false := by rfl)
    (hw : swapsWith (.Call (.Attribute o "extend" apos) [e] [] cpos) none pos.line X.env = pure false := by rfl) : tSs X (.Expr (.Call (.Attribute o "extend" apos) [e] [] cpos) pos :: rest) D σ H :=
  w_Ss (pss_cons (ps_expr (pe_bm PySem.F.plainAttrs_list PySem.F.slot_list_extend PySem.F.type_list_extend mt_extend (pE o) (pa_cons (pE e) pa_nil hs) hb hfew hline hs hpl) hw) (pSs rest)) (ho H (Ex.refl H) _ fun v H1 e1 p => by
    cases p
    exact ⟨Or.inl ⟨rfl, xs, SqL.of (e1 _ _ hA)⟩, he H1 e1 _ fun y H2 e2 py => by
      obtain ⟨B, ys, rfl, hB, r⟩ := is_list py
      exact ⟨A, B, xs, ys, rfl, rfl, (e1.trans e2) _ _ hA, hB, Nat.le_trans (by rw [r.length]; exact hz) (by decide), k ys H2 (e1.trans e2) r⟩⟩)
end
/-! ### the parse -/
def pOut : Vamete.State → List (List (List Int)) → List Int
  | _, [] => []
  | st, c :: cs => (((pAns st (c.headD []).head! (c.headD []).tail c.tail).length : Int) :: pAns st (c.headD []).head! (c.headD []).tail c.tail) ++ pOut (pState st (c.headD []).head! (c.headD []).tail c.tail) cs
theorem call_split {l : List Int} {i f : Nat} {cs : List (List (List Int))} (hi : i < l.length) (h : PyFlat.calls PyVamete.shape f (l.drop i) = some cs) : ∃ p n k xs t cs' f', l[i]? = some p ∧ PyVamete.shape p = some (n, k) ∧ i + 1 + n ≤ l.length ∧ PyFlat.rows k (l.drop (i + 1 + n)) = some (xs, t) ∧ PyFlat.calls PyVamete.shape f' t = some cs' ∧ cs = ((p :: (l.drop (i + 1)).take n) :: xs) :: cs' := by
  have hg := List.getElem?_eq_getElem hi
  rw [drop_some hg] at h
  cases f with
  | zero => cases h
  | succ f =>
    have h : (match PyFlat.call PyVamete.shape (l[i] :: l.drop (i + 1)) with | none => none | some (c, t) => match PyFlat.calls PyVamete.shape f t with | none => none | some cs => some (c :: cs)) = some cs := h
    cases hc : PyFlat.call PyVamete.shape (l[i] :: l.drop (i + 1)) with
    | none => rw [hc] at h; cases h
    | some ct =>
      obtain ⟨c, t⟩ := ct
      rw [hc] at h
      have h : (match PyFlat.calls PyVamete.shape f t with | none => none | some cs => some (c :: cs)) = some cs := h
      cases hcs : PyFlat.calls PyVamete.shape f t with
      | none => rw [hcs] at h; cases h
      | some cs' =>
        rw [hcs] at h
        have h : some (c :: cs') = some cs := h
        injection h with hcc
        unfold PyFlat.call at hc
        cases hs : PyVamete.shape l[i] with
        | none => simp only [hs] at hc; cases hc
        | some nk =>
          obtain ⟨n, k⟩ := nk
          simp only [hs] at hc
          split at hc
          · cases hc
          · rename_i hlen
            rw [List.length_drop] at hlen
            rw [List.drop_drop] at hc
            cases hr : PyFlat.rows k (l.drop (i + 1 + n)) with
            | none => rw [hr] at hc; cases hc
            | some xt =>
              obtain ⟨xs, t'⟩ := xt
              rw [hr] at hc
              injection hc with hc
              injection hc with h1 h2
              subst h2
              exact ⟨l[i], n, k, xs, t', cs', f, hg, hs, by omega, hr, hcs, by rw [h1]; exact hcc.symm⟩
theorem rows_split {l : List Int} {j k : Nat} {xs : List (List Int)} {t : List Int} (h : PyFlat.rows (k + 1) (l.drop j) = some (xs, t)) : ∃ (m : Nat) (xs' : List (List Int)), l[j]? = some (m : Int) ∧ j + 1 + m ≤ l.length ∧ xs = (l.drop (j + 1)).take m :: xs' ∧ PyFlat.rows k (l.drop (j + 1 + m)) = some (xs', t) := by
  unfold PyFlat.rows at h
  cases hj : l[j]? with
  | none => rw [drop_none hj] at h; cases h
  | some z =>
    rw [drop_some hj] at h
    have hl := getl hj
    unfold PyFlat.row at h
    by_cases hz : 0 ≤ z ∧ z.toNat ≤ (l.drop (j + 1)).length
    · simp only [if_pos hz] at h
      rw [List.drop_drop] at h
      rw [List.length_drop] at hz
      cases hr : PyFlat.rows k (l.drop (j + 1 + z.toNat)) with
      | none => rw [hr] at h; cases h
      | some xt =>
        obtain ⟨xs', t'⟩ := xt
        rw [hr] at h
        injection h with h
        injection h with h1 h2
        subst h2
        exact ⟨z.toNat, xs', by rw [show ((z.toNat : Nat) : Int) = z by omega], by omega, h1.symm, hr⟩
    · simp only [if_neg hz] at h
      cases h
theorem okSt_step {st : Vamete.State} (ok : okSt st) (c : Int) (n : List Int) (r : List (List Int)) : okSt (pState st c n r) := by
  obtain ⟨o1, o2, o3, o4, o5, o6, o7⟩ := id ok
  unfold pState
  split
  · unfold stSize
    split
    · rename_i h0
      unfold okSize at h0
      simp only [Bool.and_eq_true, decide_eq_true_eq] at h0
      obtain ⟨⟨ha0, ha4⟩, hb0, hb9⟩ := h0
      split
      · exact ok
      · exact ⟨by show (n.getD 0 0).toNat ≤ 4; omega, by show (n.getD 1 0).toNat ≤ 9; omega, by show (2 * (n.getD 1 0).toNat + 1) ^ (n.getD 0 0).toNat ≤ 130; omega, o4, o5, o6, o7⟩
    · exact ok
  · split
    · unfold stProg
      cases hw : VametBase.whole readProgram (r.getD 0 []) with
      | none => exact ok
      | some p =>
        have hp : okProg p ∧ p.length ≤ 8 := by
          rw [whole_fin] at hw
          cases hr : readProgram (r.getD 0 []) with
          | none => rw [hr] at hw; cases hw
          | some pr =>
            obtain ⟨p', r'⟩ := pr
            obtain ⟨h1, h2, _⟩ := prog_pos (l := r.getD 0 []) (k := 0) (by rw [List.drop_zero]; exact hr)
            rw [hr] at hw
            cases r' with
            | nil => injection hw with hw; rw [← hw]; exact ⟨h1, h2⟩
            | cons a b => cases hw
        show okSt (if _ then progd st _ p else st)
        split
        · unfold progd
          split
          · exact ⟨o1, o2, o3, hp.1, o5, hp.2, o7⟩
          · exact ⟨o1, o2, o3, o4, hp.1, o6, hp.2⟩
        · exact ok
    · exact ok
/-! ### the desk beside the list that is filled -/
def DeskC (CD : Addr) (H : Hp) (x pl B : Addr) (st : Vamete.State) : Prop := ∃ dx rv tv a0 a1, H x = some (.ins CD dx (deskF st.places rv tv pl)) ∧ IsD 0 H (dRowsOf st) rv ∧ IsD 2 H (dTurnsOf st.places) tv ∧ H pl = some (.lst [a0, a1]) ∧ IsD 0 H (dProg st.first) a0 ∧ IsD 0 H (dProg st.second) a1 ∧ a0 ≠ .ref B ∧ a1 ≠ .ref B ∧ x ≠ B ∧ pl ≠ B ∧ rv ≠ .ref B ∧ tv ≠ .ref B
theorem DeskC.b {CD x pl B : Addr} {H : Hp} {st : Vamete.State} (h : DeskC CD H x pl B st) : DeskB CD H x pl B st := by
  obtain ⟨dx, rv, tv, a0, a1, h1, h2, h3, h4, h5, h6, h7, h8, _⟩ := h
  exact ⟨dx, rv, tv, a0, a1, h1, h2, h3, h4, h5, h6, h7, h8⟩
theorem DeskC.ex {CD x pl B : Addr} {H H' : Hp} {st : Vamete.State} (h : DeskC CD H x pl B st) (e : Ex H H') : DeskC CD H' x pl B st := by
  obtain ⟨dx, rv, tv, a0, a1, h1, h2, h3, h4, h5, h6, h7⟩ := h
  exact ⟨dx, rv, tv, a0, a1, e _ _ h1, h2.ex' e, h3.ex' e, e _ _ h4, h5.ex' e, h6.ex' e, h7⟩
theorem lst_ne {f : Nat} {H : Hp} {B : Addr} {out : List Int} {ds : List PyData} {v : V} (h : IsD f H (.list ds) v) (hB : H B = some (boxI B out)) : v ≠ .ref B := fun z => by
  obtain ⟨a, xs, e, ha, _⟩ := is_list h
  rw [z] at e
  cases e
  rw [hB] at ha
  cases ha
theorem DeskB.c {CD x pl B : Addr} {H : Hp} {st : Vamete.State} {out : List Int} (h : DeskB CD H x pl B st) (hB : H B = some (boxI B out)) : DeskC CD H x pl B st := by
  obtain ⟨dx, rv, tv, a0, a1, h1, h2, h3, h4, h5, h6, h7, h8⟩ := h
  refine ⟨dx, rv, tv, a0, a1, h1, h2, h3, h4, h5, h6, h7, h8, fun z => ?_, fun z => ?_, lst_ne h2 hB, lst_ne h3 hB⟩
  · rw [z, hB] at h1; cases h1
  · rw [z, hB] at h4; cases h4
theorem keepI {f : Nat} {H : Hp} {B : Addr} {o : HO} {ds : List PyData} {v : V} (h : IsD f H (.list ds) v) (hne : v ≠ .ref B) (hs : ∀ u, H B = some u → ¬ Stays u) (hi : imms ds = true) : IsD f (upd H B o) (.list ds) v := by
  obtain ⟨a, ys, rfl, hx, r⟩ := is_list h
  have : a ≠ B := fun z => hne (by rw [z])
  exact .lst (by rw [upd_ne this]; exact hx) (IsAll.tx (tx_upd hs) _ _ hi r)
theorem DeskC.upd {CD x pl B : Addr} {H : Hp} {st : Vamete.State} {o : HO} (h : DeskC CD H x pl B st) (hs : ∀ u, H B = some u → ¬ Stays u) : DeskC CD (upd H B o) x pl B st := by
  obtain ⟨dx, rv, tv, a0, a1, h1, h2, h3, h4, h5, h6, h7, h8, h9, h10, h11, h12⟩ := h
  exact ⟨dx, rv, tv, a0, a1, by rw [upd_ne h9]; exact h1, keepI h2 h11 hs (imms_map imm_row _), keepI h3 h12 hs (imms_map imm_dT _), by rw [upd_ne h10]; exact h4, keepI h5 h7 hs (imms_map imm_step _), keepI h6 h8 hs (imms_map imm_step _), h7, h8, h9, h10, h11, h12⟩
theorem ex_fr {x pl : Addr} {H H1 H2 : Hp} (e : Ex H H1) (fr : Fr x pl H1 H2) (hx : H x = none) (hpl : H pl = none) : Ex H H2 := fun b o h => fr b o (fun z => by rw [z, hx] at h; cases h) (fun z => by rw [z, hpl] at h; cases h) (e b o h)
theorem tab_ok {c : Int} {n k : Nat} (h : PyVamete.shape c = some (n, k)) : c = ((c.toNat : Nat) : Int) ∧ ([2, 1, 1, 2, 1, 0, 0, 0, 1, 0, 1, 0, 1] : List Int)[c.toNat]? = some (n : Int) ∧ ([0, 1, 0, 0, 0, 1, 2, 1, 0, 0, 0, 2, 1] : List Int)[c.toNat]? = some (k : Int) ∧ k ≤ 2 := by
  rcases shape_cases h with rfl | rfl | rfl | rfl | rfl | rfl | rfl | rfl | rfl | rfl | rfl | rfl | rfl <;> (injection h with h; injection h with h1 h2; subst h1; subst h2; exact ⟨rfl, rfl, rfl, by decide⟩)
theorem ev_addN {X : Cx} {σ : L2.St} {H : Hp} {a b : Expr} {pos : Pos} {m n : Nat} (ha : EvE X a σ H (Is (dN m))) (hb : EvE X b σ H (Is (.int (n : Int)))) : EvE X (.BinOp a .Add b pos) σ H (Is (dN (m + n))) := ev_add ha hb
/-! ### answers -/
theorem allI {H : Hp} {A : Addr} {o : HO} (hs : ∀ u, H A = some u → ¬ Stays u) : ∀ {rs : List (List Int)} {vs : List V}, IsAll 0 H (rs.map dInts) vs → (∀ u ∈ vs, u ≠ .ref A) → IsAll 0 (upd H A o) (rs.map dInts) vs
  | [], [], _, _ => .nil
  | r :: rs, v :: vs, .cons h1 h2, hne => .cons (keepI h1 (hne v List.mem_cons_self) hs (imms_map (fun _ => rfl) _)) (allI hs h2 fun u hu => hne u (List.mem_cons_of_mem _ hu))
def small (cs : List (List (List Int))) : Prop := ∀ c ∈ cs, ∀ r ∈ c.tail, r.length ≤ 1000
def a_answers (K : PySem.W.Frag) : List T → T → Prop := fun Ps R => ∃ (l : List Int) (cs : List (List (List Int))), Ps = [CP K l] ∧ PyFlat.calls PyVamete.shape l.length l = some cs ∧ small cs ∧ (pOut Vamete.start cs).length ≤ 10000000 ∧ R = Is (dInts (pOut Vamete.start cs))
theorem sc_answers : FnScope ["calls", "desk", "found", "at", "call", "numbers", "rows", "row", "own"] ["calls"] (defScope s_answers) := ⟨rfl, rfl, rfl, by decide +kernel, rfl, by decide +kernel, by decide +kernel⟩
theorem okSt_start : okSt Vamete.start := ⟨by decide, by decide, by decide, fun s h => absurd h List.not_mem_nil, fun s h => absurd h List.not_mem_nil, by decide, by decide⟩
theorem b_answers (t : Txt K mg CR CD) : BodyOk P w K mg base ["calls", "desk", "found", "at", "call", "numbers", "rows", "row", "own"] "answers" s_answers 9 (a_answers K) := by
  intro f cdv A0 outer s H E vs Ps R Q hr hA ap hq
  obtain ⟨l, cs0, rfl, hcs0, hsm0, htot, rfl⟩ := hA
  obtain ⟨v, rfl, hv⟩ := allP1 ap
  have mono : ∀ {H H' : Hp} {v : V}, Ex H H' → CP K l H v → CP K l H' v := fun e h => Sta.mono e h
  refine go_set (n := 1) (P := fun H2 v => ∃ x pl, v = .ref x ∧ H x = none ∧ H pl = none ∧ DeskAt CD H2 x pl Vamete.start) (ev_make0 (d_Desk_init (P := P) (w := w) (base := base) t) (hr.mono (by omega)) t.g_Desk (fun H1 e1 x dx hx hdx hne Q' k => ⟨x, dx, rfl, upd_same, fun H' pl ex hpl hD => ⟨rfl, k H' (ex_made hx hdx ex) ⟨x, pl, rfl, fresh_back e1 hx, ?_, hD⟩⟩⟩)) (fun dv H1 e1 hd => ?_) sc_answers.nd
  · have hpx : pl ≠ x := fun z => by rw [z, upd_same] at hpl; cases hpl
    rw [upd_ne hpx] at hpl
    have hpd : pl ≠ dx := fun z => by rw [z, upd_same] at hpl; cases hpl
    rw [upd_ne hpd] at hpl
    exact fresh_back e1 hpl
  obtain ⟨x, pl, rfl, hx0, hpl0, hD1⟩ := hd
  refine go_set (n := 2) (P := NewL 0 H1 []) ev_nil (fun fv H2 e2 hf => ?_) sc_answers.nd
  obtain ⟨B, ys, rfl, hB1, hB2, rB⟩ := hf
  cases rB
  have hB0 : H B = none := fresh_back e1 hB1
  have hC2 : DeskC CD H2 x pl B Vamete.start := by
    obtain ⟨dx, rv, tv, a0, a1, h1, h2, h3, h4, h5, h6⟩ := id hD1
    have off : ∀ {f : Nat} {ds : List PyData} {u : V}, IsD f H1 (.list ds) u → u ≠ .ref B := fun h z => by
      obtain ⟨a, xs, e, ha, _⟩ := is_list h
      rw [z] at e
      cases e
      rw [hB1] at ha
      cases ha
    have := (⟨dx, rv, tv, a0, a1, h1, h2, h3, h4, h5, h6, off h5, off h6, (fun z => by rw [z, hB1] at h1; cases h1), (fun z => by rw [z, hB1] at h4; cases h4), off h2, off h3⟩ : DeskC CD H1 x pl B Vamete.start)
    exact DeskC.ex this e2
  refine go_set (n := 3) (ev_int (k := 0)) (fun av H3 e3 ha => ?_) sc_answers.nd
  obtain rfl := is_int ha
  refine go_while (fun m σ' H' => ∃ (i : Nat) (st : Vamete.State) (out : List Int) (cs : List (List (List Int))) (fu : Nat) (o4 o5 o6 o7 o8 : Option V), m = l.length - i ∧ i ≤ l.length ∧ σ' = [some v, some (.ref x), some (.ref B), some (.int (i : Int)), o4, o5, o6, o7, o8] ∧ Ex H H' ∧ DeskC CD H' x pl B st ∧ okSt st ∧ H' B = some (.lst (out.map V.int)) ∧ PyFlat.calls PyVamete.shape fu (l.drop i) = some cs ∧ small cs ∧ out ++ pOut st cs = pOut Vamete.start cs0) PassesOwn.never ⟨l.length, 0, Vamete.start, [], cs0, l.length, none, none, none, none, none, rfl, Nat.zero_le _, rfl, (e1.trans e2).trans e3, hC2.ex e3, okSt_start, e3 _ _ hB2, hcs0, hsm0, rfl⟩ ?_
  rintro m σ' H4 ⟨i, st, out, cs, fu, o4, o5, o6, o7, o8, rfl, hi, rfl, x4, hC4, ok, hB4, hcs, hsm, hout⟩
  refine ⟨_, et_lt (vr 3 (.int (i : Int) : IsD 0 _ _ _)) (ev_lenC t.b_len (vrP 0 (CP K l) (mono x4 hv))), fun hlt H5 e5 => ?_, fun hge H5 e5 => ?_⟩
  · have hlt : i < l.length := by have := of_decide_eq_true hlt; omega
    obtain ⟨p, n, k, xs, tt, cs', f', hp, hsh, hin, hrows, hcs', rfl⟩ := call_split hlt hcs
    obtain ⟨tb1, tb2, tb3, hk2⟩ := tab_ok hsh
    have hB5 := e5 _ _ hB4
    have nsB : ∀ u, H5 B = some u → ¬ Stays u := fun u hu s => by rw [hB5] at hu; cases hu; exact s
    refine ⟨fun σ2 H6 => ∃ (j : Nat) (st2 : Vamete.State) (out2 : List Int) (fu : Nat) (o4 o5 o6 o7 o8 : Option V), i < j ∧ j ≤ l.length ∧ σ2 = [some v, some (.ref x), some (.ref B), some (.int (j : Int)), o4, o5, o6, o7, o8] ∧ Ex H H6 ∧ DeskC CD H6 x pl B st2 ∧ okSt st2 ∧ H6 B = some (.lst (out2.map V.int)) ∧ PyFlat.calls PyVamete.shape fu (l.drop j) = some cs' ∧ small cs' ∧ out2 ++ pOut st2 cs' = pOut Vamete.start cs0, ?_, ?_⟩
    · rintro σ2 H6 ⟨j, st2, out2, fu, o4, o5, o6, o7, o8, h1, h2, h3, h4, h5, h6, h7, h8, h9, h10⟩
      exact ⟨l.length - j, by omega, j, st2, out2, cs', fu, o4, o5, o6, o7, o8, rfl, h2, h3, h4, h5, h6, h7, h8, h9, h10⟩
    refine go_box hB5 ?_
    have x5 : Ex H (upd H5 B (boxI B out)) := Ex.mut (x4.trans e5) hB0
    have hC5 : DeskC CD (upd H5 B (boxI B out)) x pl B st := (hC4.ex e5).upd nsB
    have hBb : upd H5 B (boxI B out) B = some (boxI B out) := upd_same
    generalize upd H5 B (boxI B out) = G at x5 hC5 hBb
    refine go_set (n := 4) (ev_ixC (i := i) (z := p) (vrP 0 (CP K l) (mono x5 hv)) (vr 3 (.int (i : Int) : IsD 0 _ _ _)) hp) (fun cv G1 g1 hcv => ?_) sc_answers.nd
    obtain rfl := is_int hcv
    have vp : ∀ H, IsD 0 H (dN p.toNat) (.int p) := fun H => by rw [tb1]; exact .int _
    refine go_set (n := 5) (ev_slC (x := some ((i + 1 : Nat) : Int)) (y := some ((i + 1 + n : Nat) : Int)) (vrP 0 (CP K l) (mono (x5.trans g1) hv)) (eo_some (ev_dN1 (k := 1) rfl (vr 3 (.int (i : Int) : IsD 0 _ _ _)))) (eo_some (ev_addN (m := i + 1) (ev_dN1 (k := 1) rfl (vr 3 (.int (i : Int) : IsD 0 _ _ _))) (ev_tab (tb := [2, 1, 1, 2, 1, 0, 0, 0, 1, 0, 1, 0, 1]) t.t_NUMBERS_programs (vr 4 (vp _)) tb2)))) (fun nv G2 g2 hnv => ?_) sc_answers.nd
    rw [cut_mid] at hnv
    have hnl : i + 1 + n - (i + 1) = n := by omega
    rw [hnl] at hnv
    obtain ⟨NA, ns, rfl, hN0, hNA, rN⟩ := hnv
    have hnum : IsD 0 G2 (dInts ((l.drop (i + 1)).take n)) (.ref NA) := .lst hNA rN
    refine go_set (n := 3) (P := Is (dN (i + 1 + n))) (ev_addN (m := i + 1) (ev_dN1 (k := 1) rfl (vr 3 (.int (i : Int) : IsD 0 _ _ _))) (ev_tab (tb := [2, 1, 1, 2, 1, 0, 0, 0, 1, 0, 1, 0, 1]) t.t_NUMBERS_programs (vr 4 (vp _)) tb2)) (fun jv G3 g3 hj => ?_) sc_answers.nd
    obtain rfl := is_int hj
    refine go_set (n := 6) (P := NewL 0 G3 []) ev_nil (fun rv G4 g4 hrv => ?_) sc_answers.nd
    obtain ⟨RA, rs0, rfl, hR3, hRA, rR⟩ := hrv
    cases rR
    have x3 := ((x5.trans g1).trans g2).trans g3
    have hC3 := ((hC5.ex g1).ex g2).ex g3
    have hB3 : G3 B = some (boxI B out) := g3 _ _ (g2 _ _ (g1 _ _ hBb))
    have hnum3 := hnum.ex' g3
    refine go_forR0 (gt := gName 7) (n := k) PassesOwn.never rfl t.b_range (ev_tab (tb := [0, 1, 0, 0, 0, 1, 2, 1, 0, 0, 0, 2, 1]) t.t_ROWS (vr 4 (vp _)) tb3) (by omega) (pgv sc_answers.nd) (fun G5 g5 => ⟨fun q σ' H' => ∃ (j : Nat) (rs : List (List Int)) (vs : List V) (xs2 : List (List Int)) (o7 : Option V), σ' = [some v, some (.ref x), some (.ref B), some (.int (j : Int)), some (.int p), some (.ref NA), some (.ref RA), o7, o8] ∧ Ex G3 H' ∧ H' RA = some (.lst vs) ∧ IsAll 0 H' (rs.map dInts) vs ∧ (∀ u ∈ vs, u ≠ .ref RA) ∧ rs.length = q ∧ i + 1 + n ≤ j ∧ j ≤ l.length ∧ PyFlat.rows (k - q) (l.drop j) = some (xs2, tt) ∧ rs ++ xs2 = xs, ⟨i + 1 + n, [], [], xs, o7, rfl, g4.trans g5, g5 _ _ hRA, .nil, fun u h => absurd h List.not_mem_nil, rfl, Nat.le_refl _, hin, by rw [Nat.sub_zero]; exact hrows, rfl⟩, ?_, ?_⟩)
    · rintro q σ' H6 hqk ⟨j, rs, vs, xs2, o7, rfl, x6, hRA6, r6, hne6, hql, hij, hjl, hrw, hxs⟩
      have hsucc : k - q = (k - (q + 1)) + 1 := by omega
      rw [hsucc] at hrw
      obtain ⟨m, xs2', hm, hjm, rfl, hrw2⟩ := rows_split hrw
      have x06 := x3.trans x6
      have hvl : vs.length = q := by rw [r6.length, List.length_map, hql]
      refine go_app (P := NewL 0 H6 ((cutD l (some ((j + 1 : Nat) : Int)) (some ((j + 1 + m : Nat) : Int))).map .int)) (vrR 6 RA) hRA6 (by omega) (ev_slC (x := some ((j + 1 : Nat) : Int)) (y := some ((j + 1 + m : Nat) : Int)) (vrP 0 (CP K l) (mono x06 hv)) (eo_some (ev_dN1 (k := 1) rfl (vr 3 (.int (j : Int) : IsD 0 _ _ _)))) (eo_some (ev_addN (m := j + 1) (ev_dN1 (k := 1) rfl (vr 3 (.int (j : Int) : IsD 0 _ _ _))) (ev_ixC (i := j) (z := (m : Int)) (vrP 0 (CP K l) (mono x06 hv)) (vr 3 (.int (j : Int) : IsD 0 _ _ _)) hm)))) (fun y H7 e7 hy => ?_)
      obtain ⟨F, fs, rfl, hF6, hF7, rF⟩ := hy
      have hFR : F ≠ RA := fun z => by rw [z, hRA6] at hF6; cases hF6
      have hRA7 := e7 _ _ hRA6
      have nsR : ∀ u, H7 RA = some u → ¬ Stays u := fun u hu s => by rw [hRA7] at hu; cases hu; exact s
      rw [cut_mid] at rF
      have hml : j + 1 + m - (j + 1) = m := by omega
      rw [hml] at rF
      have x8 : Ex G3 (upd H7 RA (.lst (vs ++ [.ref F]))) := Ex.mut (x6.trans e7) hR3
      refine go_set (n := 3) (P := Is (dN (j + 1 + m))) (ev_addN (m := j + 1) (ev_dN1 (k := 1) rfl (vr 3 (.int (j : Int) : IsD 0 _ _ _))) (ev_ixC (i := j) (z := (m : Int)) (vrP 0 (CP K l) (mono (x3.trans x8) hv)) (vr 3 (.int (j : Int) : IsD 0 _ _ _)) hm)) (fun jv H9 e9 hj => go_nil ?_) sc_answers.nd
      obtain rfl := is_int hj
      refine ⟨j + 1 + m, rs ++ [(l.drop (j + 1)).take m], vs ++ [.ref F], xs2', _, rfl, x8.trans e9, e9 _ _ upd_same, ?_, ?_, ?_, by omega, hjm, hrw2, ?_⟩
      · refine IsAll.ex e9 _ _ ?_
        rw [List.map_append]
        refine IsAll.app (allI nsR (IsAll.ex e7 _ _ r6) hne6) (.cons ?_ .nil)
        exact keepI (.lst hF7 rF : IsD 0 H7 (dInts ((l.drop (j + 1)).take m)) (.ref F)) (fun z => by cases z; exact hFR rfl) nsR (imms_map (fun _ => rfl) _)
      · intro u hu
        rcases List.mem_append.mp hu with hu | hu
        · exact hne6 u hu
        · rw [List.mem_singleton.mp hu]
          intro z
          cases z
          exact hFR rfl
      · rw [List.length_append, hql]; rfl
      · rw [List.append_assoc]; exact hxs
    · rintro σ' H6 ⟨j, rs, vs, xs2, o7, rfl, x6, hRA6, r6, hne6, hql, hij, hjl, hrw, hxs⟩
      rw [Nat.sub_self] at hrw
      have hrw : some (([] : List (List Int)), l.drop j) = some (xs2, tt) := hrw
      injection hrw with hrw
      injection hrw with hx2 htt
      subst hx2
      subst htt
      rw [List.append_nil] at hxs
      subst hxs
      have hC6 := hC3.ex x6
      have hB6 := x6 _ _ hB3
      have hnum6 := hnum3.ex' x6
      have x06 := x3.trans x6
      have hsmr : ∀ r ∈ rs, r.length ≤ 1000 := hsm _ List.mem_cons_self
      have hnl2 : ((l.drop (i + 1)).take n).length = n := by rw [List.length_take, List.length_drop]; omega
      refine go_setS (n := 8) (d_answer (P := P) (w := w) (base := base) t) hr (ea_cons (vrV 1 (.ref x)) (ea_cons (vrV 4 (.int p)) (ea_cons (vr 5 hnum6) (ea_cons (vrP 6 (Is (.list (rs.map dInts))) (.lst hRA6 r6)) ea_nil)))) sc_answers.nd (fun vs' H7 e7 ap' => ?_)
      obtain ⟨u1, u2, u3, u4, rfl, p1, p2, p3, p4⟩ := allP4 ap'
      cases p1
      cases p2
      have hB7 := e7 _ _ hB6
      have hC7 := hC6.ex e7
      refine ⟨x, pl, B, st, p, (l.drop (i + 1)).take n, rs, u3, u4, rfl, hC7.b, ok, ⟨_, hB7⟩, p3, p4, ⟨by rw [hnl2, hql]; exact hsh, hsmr⟩, fun ov H8 fr8 hD8 hov => ?_⟩
      have hpo : pOut st (((p :: (l.drop (i + 1)).take n) :: rs) :: cs') = (((pAns st p ((l.drop (i + 1)).take n) rs).length : Int) :: pAns st p ((l.drop (i + 1)).take n) rs) ++ pOut (pState st p ((l.drop (i + 1)).take n) rs) cs' := rfl
      rw [hpo] at hout
      have ok8 := okSt_step ok p ((l.drop (i + 1)).take n) rs
      generalize pAns st p ((l.drop (i + 1)).take n) rs = ans at hout hov
      generalize pState st p ((l.drop (i + 1)).take n) rs = st2 at hout hD8 ok8
      have hlen : out.length + (1 + ans.length) ≤ 10000000 := by
        have := congrArg List.length hout
        rw [List.length_append, List.length_append, List.length_cons] at this
        omega
      obtain ⟨hxB, hplB⟩ : x ≠ B ∧ pl ≠ B := by
        obtain ⟨_, _, _, _, _, _, _, _, _, _, _, _, _, h9, h10, _⟩ := hC7
        exact ⟨h9, h10⟩
      have hB8 : H8 B = some (boxI B out) := fr8 _ _ (Ne.symm hxB) (Ne.symm hplB) hB7
      have hC8 := hD8.c hB8
      have hovB : ov ≠ .ref B := lst_ne hov hB8
      have x08 : Ex H H8 := ex_fr (x06.trans e7) fr8 hx0 hpl0
      have ns8 : ∀ u, H8 B = some u → ¬ Stays u := fun u hu s => by rw [hB8] at hu; cases hu; exact s
      refine go_unbox hB8 ?_
      have hC9 := hC8.upd (o := .lst (out.map V.int)) ns8
      have hov9 := keepI (o := .lst (out.map V.int)) hov hovB ns8 (imms_map (fun _ => rfl) _)
      have x09 : Ex H (upd H8 B (.lst (out.map V.int))) := Ex.mut x08 hB0
      have hB9 : upd H8 B (.lst (out.map V.int)) B = some (.lst (out.map V.int)) := upd_same
      generalize upd H8 B (.lst (out.map V.int)) = G9 at hC9 hov9 x09 hB9
      refine go_appZ (P := Is (.int ((ans.map PyData.int).length : Nat))) (vrR 2 B) hB9 (by rw [List.length_map]; omega) (ev_lenL (f := 0) rfl t.b_len (vr 8 hov9)) (fun y G10 e10 hy => ?_)
      obtain rfl := is_int hy
      rw [List.length_map]
      have hB10 := e10 _ _ hB9
      have ns10 : ∀ u, G10 B = some u → ¬ Stays u := fun u hu s => by rw [hB10] at hu; cases hu; exact s
      have hC11 := (hC9.ex e10).upd (o := .lst (out.map V.int ++ [.int (ans.length : Int)])) ns10
      have hov11 := keepI (o := .lst (out.map V.int ++ [.int (ans.length : Int)])) (hov9.ex' e10) hovB ns10 (imms_map (fun _ => rfl) _)
      have x011 : Ex H (upd G10 B (.lst (out.map V.int ++ [.int (ans.length : Int)]))) := Ex.mut (x09.trans e10) hB0
      have hB11 : upd G10 B (.lst (out.map V.int ++ [.int (ans.length : Int)])) B = some (.lst (out.map V.int ++ [.int (ans.length : Int)])) := upd_same
      generalize upd G10 B (.lst (out.map V.int ++ [.int (ans.length : Int)])) = G11 at hC11 hov11 x011 hB11
      refine go_extZ (f := 0) (ds := ans.map .int) (vrR 2 B) hB11 (vr 8 hov11) (by rw [List.length_append, List.length_map, List.length_map]; show _ + 1 + _ ≤ _; omega) (fun zs G12 e12 rz => go_nil ?_)
      have hzs := ints_of rz
      subst hzs
      have hB12 := e12 _ _ hB11
      have ns12 : ∀ u, G12 B = some u → ¬ Stays u := fun u hu s => by rw [hB12] at hu; cases hu; exact s
      refine ⟨j, st2, out ++ ((ans.length : Int) :: ans), f', _, _, _, _, _, by omega, hjl, rfl, Ex.mut (x011.trans e12) hB0, (hC11.ex e12).upd ns12, ok8, ?_, hcs', fun c hc => hsm c (List.mem_cons_of_mem _ hc), ?_⟩
      · rw [upd_same]
        congr 2
        rw [List.map_append, List.append_assoc]
        rfl
      · rw [List.append_assoc]
        exact hout
  · have hge : l.length ≤ i := by have := of_decide_eq_false hge; omega
    have hi2 : i = l.length := by omega
    subst hi2
    rw [List.drop_length] at hcs
    have : cs = [] := by cases fu <;> (injection hcs with hcs; exact hcs.symm)
    subst this
    rw [show pOut st [] = [] from rfl, List.append_nil] at hout
    rw [← hout] at hq
    exact go_ret (vrP 2 (Is (dInts out)) (.lst (e5 _ _ hB4) (isAll_ints _))) fun v7 H7 e7 h7 => hq v7 H7 ((x4.trans e5).trans e7) h7
theorem ok_answers {f : Addr} {fd : FuncData} (F : Fun K "answers" "answers" s_answers f fd) (t : Txt K mg CR CD) : FnOk P w K mg base CX0 10 f fd ["calls"] (Prom (a_answers K)) := by
  refine F.ok sc_answers ?_ ?_
  · rintro vs H Q E ⟨Ps, R, hA, ap, _⟩
    obtain ⟨_, _, h, _⟩ := hA
    rw [allP_len ap, h]
    rfl
  · rintro cdv A0 outer s H vs Q E hr ⟨Ps, R, hA, ap, hq⟩
    exact ⟨_, pSs _, b_answers t f cdv A0 outer s H E vs Ps R Q hr hA ap hq⟩
end
end TG
set_option Elab.async false
set_option linter.all false
set_option maxRecDepth 100000
set_option maxHeartbeats 4000000
namespace TG
open PySem PySem.Spec PyProof.Rows L2
open Evl (Ex)
def okV : List Int → List Value → Bool
  | [], [] => true
  | n :: ns, .int m _ :: us => decide (n = m) && okV ns us
  | _, _ => false
theorem okV_vals : ∀ {ns : List Int} {us : List Value}, okV ns us = true → Vals (ns.map V.int) us
  | [], [], _ => .nil
  | n :: ns, .int m t :: us, h => by
    have h' : (decide (n = m) && okV ns us) = true := h
    rw [Bool.and_eq_true, decide_eq_true_iff] at h'
    obtain ⟨e, h2⟩ := h'
    subst e
    exact .cons ⟨t, rfl⟩ (okV_vals h2)
theorem all_mk {P : Program} {w : World} {K : PySem.W.Frag} {h : Heap} {mg : Str → Option Value} {fa CR CD : Addr} (X : K.In h) (G : h.Ns mainGlobals mg) (hfa : mg "answers" = some (.ref fa))
    {k_ADD : Tok}
    {k_TIMES : Tok}
    {k_REST : Tok}
    {k_ABS : Tok}
    {k_SORT : Tok}
    {k_REVERSE : Tok}
    {k_ROTATE : Tok}
    {k_TAKE : Tok}
    {k_DROP : Tok}
    {k_ABOVE : Tok}
    {k_ONCE : Tok}
    {k_SUM : Tok}
    {k_GREATEST : Tok}
    {k_LEAST_steps : Tok}
    {k_COUNT : Tok}
    {k_STEPS : Tok}
    {k_SUMS : Tok}
    {k_TWICE : Tok}
    {k_MOST_NUMBERS : Tok}
    {k_MOST_SIZE : Tok}
    {k_EQUAL : Tok}
    {k_BAG : Tok}
    {k_NUMBERS_relations : Tok}
    {k_MOST : Tok}
    {k_LEAST_relations : Tok}
    {k_BEGINS : Tok}
    {k_LONG : Tok}
    {k_ANY : Tok}
    {k_HAS_NUMBERS : Tok}
    {k_RISING : Tok}
    {k_NOT_BELOW : Tok}
    {k_UNLIKE : Tok}
    {k_AS_MANY : Tok}
    {k_KEPT : Tok}
    {k_BROKEN : Tok}
    {k_OFF : Tok}
    {k_MOST_STEPS : Tok}
    {k_MOST_OWN : Tok}
    {k_MOST_REST : Tok}
    {k_MOST_MANY : Tok}
    {k_MOST_ROW : Tok}
    {k_MOST_PLACES : Tok}
    {k_MOST_HIGH : Tok}
    {k_MOST_ROWS : Tok}
    {a_NUMBERS_programs : Addr} {o_NUMBERS_programs : Obj} {i_NUMBERS_programs : Array Value} {n_NUMBERS_programs : Nat}
    {a_ROWS : Addr} {o_ROWS : Obj} {i_ROWS : Array Value} {n_ROWS : Nat}
    {f_Relation_init : Addr} {od_Relation_init an_Relation_init : Option Addr} {sl_Relation_init : Array (Option Value)} {oc_Relation_init kV_Relation_init dc_Relation_init pm_Relation_init cd_Relation_init ct_Relation_init : Value}
    {f_Relation_holds : Addr} {od_Relation_holds an_Relation_holds : Option Addr} {sl_Relation_holds : Array (Option Value)} {oc_Relation_holds kV_Relation_holds dc_Relation_holds pm_Relation_holds cd_Relation_holds ct_Relation_holds : Value}
    {f_Desk_init : Addr} {od_Desk_init an_Desk_init : Option Addr} {sl_Desk_init : Array (Option Value)} {oc_Desk_init kV_Desk_init dc_Desk_init pm_Desk_init cd_Desk_init ct_Desk_init : Value}
    {f_Desk_put_size : Addr} {od_Desk_put_size an_Desk_put_size : Option Addr} {sl_Desk_put_size : Array (Option Value)} {oc_Desk_put_size kV_Desk_put_size dc_Desk_put_size pm_Desk_put_size cd_Desk_put_size ct_Desk_put_size : Value}
    {f_Desk_put_program : Addr} {od_Desk_put_program an_Desk_put_program : Option Addr} {sl_Desk_put_program : Array (Option Value)} {oc_Desk_put_program kV_Desk_put_program dc_Desk_put_program pm_Desk_put_program cd_Desk_put_program ct_Desk_put_program : Value}
    {f_Desk_is_turn : Addr} {od_Desk_is_turn an_Desk_is_turn : Option Addr} {sl_Desk_is_turn : Array (Option Value)} {oc_Desk_is_turn kV_Desk_is_turn dc_Desk_is_turn pm_Desk_is_turn cd_Desk_is_turn ct_Desk_is_turn : Value}
    {f_Desk_are_turns : Addr} {od_Desk_are_turns an_Desk_are_turns : Option Addr} {sl_Desk_are_turns : Array (Option Value)} {oc_Desk_are_turns kV_Desk_are_turns dc_Desk_are_turns pm_Desk_are_turns cd_Desk_are_turns ct_Desk_are_turns : Value}
    {f_Desk_group : Addr} {od_Desk_group an_Desk_group : Option Addr} {sl_Desk_group : Array (Option Value)} {oc_Desk_group kV_Desk_group dc_Desk_group pm_Desk_group cd_Desk_group ct_Desk_group : Value}
    {f_Desk_outcomes : Addr} {od_Desk_outcomes an_Desk_outcomes : Option Addr} {sl_Desk_outcomes : Array (Option Value)} {oc_Desk_outcomes kV_Desk_outcomes dc_Desk_outcomes pm_Desk_outcomes cd_Desk_outcomes ct_Desk_outcomes : Value}
    {f_is_beyond : Addr} {od_is_beyond an_is_beyond : Option Addr} {sl_is_beyond : Array (Option Value)} {oc_is_beyond kV_is_beyond dc_is_beyond pm_is_beyond cd_is_beyond ct_is_beyond : Value}
    {f_once : Addr} {od_once an_once : Option Addr} {sl_once : Array (Option Value)} {oc_once kV_once dc_once pm_once cd_once ct_once : Value}
    {f_sums : Addr} {od_sums an_sums : Option Addr} {sl_sums : Array (Option Value)} {oc_sums kV_sums dc_sums pm_sums cd_sums ct_sums : Value}
    {f_each : Addr} {od_each an_each : Option Addr} {sl_each : Array (Option Value)} {oc_each kV_each dc_each pm_each cd_each ct_each : Value}
    {f_placed : Addr} {od_placed an_placed : Option Addr} {sl_placed : Array (Option Value)} {oc_placed kV_placed dc_placed pm_placed cd_placed ct_placed : Value}
    {f_told : Addr} {od_told an_told : Option Addr} {sl_told : Array (Option Value)} {oc_told kV_told dc_told pm_told cd_told ct_told : Value}
    {f_done : Addr} {od_done an_done : Option Addr} {sl_done : Array (Option Value)} {oc_done kV_done dc_done pm_done cd_done ct_done : Value}
    {f_run : Addr} {od_run an_run : Option Addr} {sl_run : Array (Option Value)} {oc_run kV_run dc_run pm_run cd_run ct_run : Value}
    {f_do_stand : Addr} {od_do_stand an_do_stand : Option Addr} {sl_do_stand : Array (Option Value)} {oc_do_stand kV_do_stand dc_do_stand pm_do_stand cd_do_stand ct_do_stand : Value}
    {f_how : Addr} {od_how an_how : Option Addr} {sl_how : Array (Option Value)} {oc_how kV_how dc_how pm_how cd_how ct_how : Value}
    {f_chained : Addr} {od_chained an_chained : Option Addr} {sl_chained : Array (Option Value)} {oc_chained kV_chained dc_chained pm_chained cd_chained ct_chained : Value}
    {f_number_at : Addr} {od_number_at an_number_at : Option Addr} {sl_number_at : Array (Option Value)} {oc_number_at kV_number_at dc_number_at pm_number_at cd_number_at ct_number_at : Value}
    {f_is_within : Addr} {od_is_within an_is_within : Option Addr} {sl_is_within : Array (Option Value)} {oc_is_within kV_is_within dc_is_within pm_is_within cd_is_within ct_is_within : Value}
    {f_has_own : Addr} {od_has_own an_has_own : Option Addr} {sl_has_own : Array (Option Value)} {oc_has_own kV_has_own dc_has_own pm_has_own cd_has_own ct_has_own : Value}
    {f_is_own : Addr} {od_is_own an_is_own : Option Addr} {sl_is_own : Array (Option Value)} {oc_is_own kV_is_own dc_is_own pm_is_own cd_is_own ct_is_own : Value}
    {f_step_at : Addr} {od_step_at an_step_at : Option Addr} {sl_step_at : Array (Option Value)} {oc_step_at kV_step_at dc_step_at pm_step_at cd_step_at ct_step_at : Value}
    {f_program_at : Addr} {od_program_at an_program_at : Option Addr} {sl_program_at : Array (Option Value)} {oc_program_at kV_program_at dc_program_at pm_program_at cd_program_at ct_program_at : Value}
    {f_program_of : Addr} {od_program_of an_program_of : Option Addr} {sl_program_of : Array (Option Value)} {oc_program_of kV_program_of dc_program_of pm_program_of cd_program_of ct_program_of : Value}
    {f_condition_at : Addr} {od_condition_at an_condition_at : Option Addr} {sl_condition_at : Array (Option Value)} {oc_condition_at kV_condition_at dc_condition_at pm_condition_at cd_condition_at ct_condition_at : Value}
    {f_relation_of : Addr} {od_relation_of an_relation_of : Option Addr} {sl_relation_of : Array (Option Value)} {oc_relation_of kV_relation_of dc_relation_of pm_relation_of cd_relation_of ct_relation_of : Value}
    {f_row_of : Addr} {od_row_of an_row_of : Option Addr} {sl_row_of : Array (Option Value)} {oc_row_of kV_row_of dc_row_of pm_row_of cd_row_of ct_row_of : Value}
    {f_program_numbers : Addr} {od_program_numbers an_program_numbers : Option Addr} {sl_program_numbers : Array (Option Value)} {oc_program_numbers kV_program_numbers dc_program_numbers pm_program_numbers cd_program_numbers ct_program_numbers : Value}
    {f_relation_numbers : Addr} {od_relation_numbers an_relation_numbers : Option Addr} {sl_relation_numbers : Array (Option Value)} {oc_relation_numbers kV_relation_numbers dc_relation_numbers pm_relation_numbers cd_relation_numbers ct_relation_numbers : Value}
    {f_orders : Addr} {od_orders an_orders : Option Addr} {sl_orders : Array (Option Value)} {oc_orders kV_orders dc_orders pm_orders cd_orders ct_orders : Value}
    {f_all_signs : Addr} {od_all_signs an_all_signs : Option Addr} {sl_all_signs : Array (Option Value)} {oc_all_signs kV_all_signs dc_all_signs pm_all_signs cd_all_signs ct_all_signs : Value}
    {f_all_turns : Addr} {od_all_turns an_all_turns : Option Addr} {sl_all_turns : Array (Option Value)} {oc_all_turns kV_all_turns dc_all_turns pm_all_turns cd_all_turns ct_all_turns : Value}
    {f_signed : Addr} {od_signed an_signed : Option Addr} {sl_signed : Array (Option Value)} {oc_signed kV_signed dc_signed pm_signed cd_signed ct_signed : Value}
    {f_turned : Addr} {od_turned an_turned : Option Addr} {sl_turned : Array (Option Value)} {oc_turned kV_turned dc_turned pm_turned cd_turned ct_turned : Value}
    {f_behind : Addr} {od_behind an_behind : Option Addr} {sl_behind : Array (Option Value)} {oc_behind kV_behind dc_behind pm_behind cd_behind ct_behind : Value}
    {f_undone : Addr} {od_undone an_undone : Option Addr} {sl_undone : Array (Option Value)} {oc_undone kV_undone dc_undone pm_undone cd_undone ct_undone : Value}
    {f_unchanging : Addr} {od_unchanging an_unchanging : Option Addr} {sl_unchanging : Array (Option Value)} {oc_unchanging kV_unchanging dc_unchanging pm_unchanging cd_unchanging ct_unchanging : Value}
    {f_generated : Addr} {od_generated an_generated : Option Addr} {sl_generated : Array (Option Value)} {oc_generated kV_generated dc_generated pm_generated cd_generated ct_generated : Value}
    {f_orbit : Addr} {od_orbit an_orbit : Option Addr} {sl_orbit : Array (Option Value)} {oc_orbit kV_orbit dc_orbit pm_orbit cd_orbit ct_orbit : Value}
    {f_rows_of : Addr} {od_rows_of an_rows_of : Option Addr} {sl_rows_of : Array (Option Value)} {oc_rows_of kV_rows_of dc_rows_of pm_rows_of cd_rows_of ct_rows_of : Value}
    {f_many_orbits : Addr} {od_many_orbits an_many_orbits : Option Addr} {sl_many_orbits : Array (Option Value)} {oc_many_orbits kV_many_orbits dc_many_orbits pm_many_orbits cd_many_orbits ct_many_orbits : Value}
    {f_many_rows : Addr} {od_many_rows an_many_rows : Option Addr} {sl_many_rows : Array (Option Value)} {oc_many_rows kV_many_rows dc_many_rows pm_many_rows cd_many_rows ct_many_rows : Value}
    {f_size : Addr} {od_size an_size : Option Addr} {sl_size : Array (Option Value)} {oc_size kV_size dc_size pm_size cd_size ct_size : Value}
    {f_program : Addr} {od_program an_program : Option Addr} {sl_program : Array (Option Value)} {oc_program kV_program dc_program pm_program cd_program ct_program : Value}
    {f_compose : Addr} {od_compose an_compose : Option Addr} {sl_compose : Array (Option Value)} {oc_compose kV_compose dc_compose pm_compose cd_compose ct_compose : Value}
    {f_told_group : Addr} {od_told_group an_told_group : Option Addr} {sl_told_group : Array (Option Value)} {oc_told_group kV_told_group dc_told_group pm_told_group cd_told_group ct_told_group : Value}
    {f_told_orbit : Addr} {od_told_orbit an_told_orbit : Option Addr} {sl_told_orbit : Array (Option Value)} {oc_told_orbit kV_told_orbit dc_told_orbit pm_told_orbit cd_told_orbit ct_told_orbit : Value}
    {f_told_orbits : Addr} {od_told_orbits an_told_orbits : Option Addr} {sl_told_orbits : Array (Option Value)} {oc_told_orbits kV_told_orbits dc_told_orbits pm_told_orbits cd_told_orbits ct_told_orbits : Value}
    {f_first_unlike : Addr} {od_first_unlike an_first_unlike : Option Addr} {sl_first_unlike : Array (Option Value)} {oc_first_unlike kV_first_unlike dc_first_unlike pm_first_unlike cd_first_unlike ct_first_unlike : Value}
    {f_alike : Addr} {od_alike an_alike : Option Addr} {sl_alike : Array (Option Value)} {oc_alike kV_alike dc_alike pm_alike cd_alike ct_alike : Value}
    {f_group : Addr} {od_group an_group : Option Addr} {sl_group : Array (Option Value)} {oc_group kV_group dc_group pm_group cd_group ct_group : Value}
    {f_goes_with : Addr} {od_goes_with an_goes_with : Option Addr} {sl_goes_with : Array (Option Value)} {oc_goes_with kV_goes_with dc_goes_with pm_goes_with cd_goes_with ct_goes_with : Value}
    {f_partner : Addr} {od_partner an_partner : Option Addr} {sl_partner : Array (Option Value)} {oc_partner kV_partner dc_partner pm_partner cd_partner ct_partner : Value}
    {f_chain : Addr} {od_chain an_chain : Option Addr} {sl_chain : Array (Option Value)} {oc_chain kV_chain dc_chain pm_chain cd_chain ct_chain : Value}
    {f_kept : Addr} {od_kept an_kept : Option Addr} {sl_kept : Array (Option Value)} {oc_kept kV_kept dc_kept pm_kept cd_kept ct_kept : Value}
    {f_of_turn : Addr} {od_of_turn an_of_turn : Option Addr} {sl_of_turn : Array (Option Value)} {oc_of_turn kV_of_turn dc_of_turn pm_of_turn cd_of_turn ct_of_turn : Value}
    {f_answer : Addr} {od_answer an_answer : Option Addr} {sl_answer : Array (Option Value)} {oc_answer kV_answer dc_answer pm_answer cd_answer ct_answer : Value}
    {f_answers : Addr} {od_answers an_answers : Option Addr} {sl_answers : Array (Option Value)} {oc_answers kV_answers dc_answers pm_answers cd_answers ct_answers : Value}
    (b_abs : PySem.W.nsIn K mainGlobals "abs" = some none)
    (b_all : PySem.W.nsIn K mainGlobals "all" = some none)
    (b_any : PySem.W.nsIn K mainGlobals "any" = some none)
    (b_enumerate : PySem.W.nsIn K mainGlobals "enumerate" = some none)
    (b_int : PySem.W.nsIn K mainGlobals "int" = some none)
    (b_len : PySem.W.nsIn K mainGlobals "len" = some none)
    (b_list : PySem.W.nsIn K mainGlobals "list" = some none)
    (b_max : PySem.W.nsIn K mainGlobals "max" = some none)
    (b_range : PySem.W.nsIn K mainGlobals "range" = some none)
    (b_set : PySem.W.nsIn K mainGlobals "set" = some none)
    (b_sorted : PySem.W.nsIn K mainGlobals "sorted" = some none)
    (b_sum : PySem.W.nsIn K mainGlobals "sum" = some none)
    (b_tuple : PySem.W.nsIn K mainGlobals "tuple" = some none)
    (b_zip : PySem.W.nsIn K mainGlobals "zip" = some none)
    (c_ADD : PySem.W.nsIn K mainGlobals "ADD" = some (some (.int 0 k_ADD)))
    (c_TIMES : PySem.W.nsIn K mainGlobals "TIMES" = some (some (.int 1 k_TIMES)))
    (c_REST : PySem.W.nsIn K mainGlobals "REST" = some (some (.int 2 k_REST)))
    (c_ABS : PySem.W.nsIn K mainGlobals "ABS" = some (some (.int 3 k_ABS)))
    (c_SORT : PySem.W.nsIn K mainGlobals "SORT" = some (some (.int 4 k_SORT)))
    (c_REVERSE : PySem.W.nsIn K mainGlobals "REVERSE" = some (some (.int 5 k_REVERSE)))
    (c_ROTATE : PySem.W.nsIn K mainGlobals "ROTATE" = some (some (.int 6 k_ROTATE)))
    (c_TAKE : PySem.W.nsIn K mainGlobals "TAKE" = some (some (.int 7 k_TAKE)))
    (c_DROP : PySem.W.nsIn K mainGlobals "DROP" = some (some (.int 8 k_DROP)))
    (c_ABOVE : PySem.W.nsIn K mainGlobals "ABOVE" = some (some (.int 9 k_ABOVE)))
    (c_ONCE : PySem.W.nsIn K mainGlobals "ONCE" = some (some (.int 10 k_ONCE)))
    (c_SUM : PySem.W.nsIn K mainGlobals "SUM" = some (some (.int 11 k_SUM)))
    (c_GREATEST : PySem.W.nsIn K mainGlobals "GREATEST" = some (some (.int 12 k_GREATEST)))
    (c_LEAST_steps : PySem.W.nsIn K mainGlobals "LEAST_steps" = some (some (.int 13 k_LEAST_steps)))
    (c_COUNT : PySem.W.nsIn K mainGlobals "COUNT" = some (some (.int 14 k_COUNT)))
    (c_STEPS : PySem.W.nsIn K mainGlobals "STEPS" = some (some (.int 15 k_STEPS)))
    (c_SUMS : PySem.W.nsIn K mainGlobals "SUMS" = some (some (.int 16 k_SUMS)))
    (c_TWICE : PySem.W.nsIn K mainGlobals "TWICE" = some (some (.int 17 k_TWICE)))
    (c_MOST_NUMBERS : PySem.W.nsIn K mainGlobals "MOST_NUMBERS" = some (some (.int 40 k_MOST_NUMBERS)))
    (c_MOST_SIZE : PySem.W.nsIn K mainGlobals "MOST_SIZE" = some (some (.int 1000000 k_MOST_SIZE)))
    (c_EQUAL : PySem.W.nsIn K mainGlobals "EQUAL" = some (some (.int 0 k_EQUAL)))
    (c_BAG : PySem.W.nsIn K mainGlobals "BAG" = some (some (.int 1 k_BAG)))
    (c_NUMBERS_relations : PySem.W.nsIn K mainGlobals "NUMBERS_relations" = some (some (.int 2 k_NUMBERS_relations)))
    (c_MOST : PySem.W.nsIn K mainGlobals "MOST" = some (some (.int 3 k_MOST)))
    (c_LEAST_relations : PySem.W.nsIn K mainGlobals "LEAST_relations" = some (some (.int 4 k_LEAST_relations)))
    (c_BEGINS : PySem.W.nsIn K mainGlobals "BEGINS" = some (some (.int 5 k_BEGINS)))
    (c_LONG : PySem.W.nsIn K mainGlobals "LONG" = some (some (.int 6 k_LONG)))
    (c_ANY : PySem.W.nsIn K mainGlobals "ANY" = some (some (.int 0 k_ANY)))
    (c_HAS_NUMBERS : PySem.W.nsIn K mainGlobals "HAS_NUMBERS" = some (some (.int 1 k_HAS_NUMBERS)))
    (c_RISING : PySem.W.nsIn K mainGlobals "RISING" = some (some (.int 2 k_RISING)))
    (c_NOT_BELOW : PySem.W.nsIn K mainGlobals "NOT_BELOW" = some (some (.int 3 k_NOT_BELOW)))
    (c_UNLIKE : PySem.W.nsIn K mainGlobals "UNLIKE" = some (some (.int 4 k_UNLIKE)))
    (c_AS_MANY : PySem.W.nsIn K mainGlobals "AS_MANY" = some (some (.int 5 k_AS_MANY)))
    (c_KEPT : PySem.W.nsIn K mainGlobals "KEPT" = some (some (.int 0 k_KEPT)))
    (c_BROKEN : PySem.W.nsIn K mainGlobals "BROKEN" = some (some (.int 1 k_BROKEN)))
    (c_OFF : PySem.W.nsIn K mainGlobals "OFF" = some (some (.int 2 k_OFF)))
    (c_MOST_STEPS : PySem.W.nsIn K mainGlobals "MOST_STEPS" = some (some (.int 8 k_MOST_STEPS)))
    (c_MOST_OWN : PySem.W.nsIn K mainGlobals "MOST_OWN" = some (some (.int 99 k_MOST_OWN)))
    (c_MOST_REST : PySem.W.nsIn K mainGlobals "MOST_REST" = some (some (.int 9 k_MOST_REST)))
    (c_MOST_MANY : PySem.W.nsIn K mainGlobals "MOST_MANY" = some (some (.int 9 k_MOST_MANY)))
    (c_MOST_ROW : PySem.W.nsIn K mainGlobals "MOST_ROW" = some (some (.int 8 k_MOST_ROW)))
    (c_MOST_PLACES : PySem.W.nsIn K mainGlobals "MOST_PLACES" = some (some (.int 4 k_MOST_PLACES)))
    (c_MOST_HIGH : PySem.W.nsIn K mainGlobals "MOST_HIGH" = some (some (.int 9 k_MOST_HIGH)))
    (c_MOST_ROWS : PySem.W.nsIn K mainGlobals "MOST_ROWS" = some (some (.int 130 k_MOST_ROWS)))
    (t_NUMBERS_programs : PySem.W.nsIn K mainGlobals "NUMBERS_programs" = some (some (.ref a_NUMBERS_programs)))
    (tl_NUMBERS_programs : K.lookup a_NUMBERS_programs = some o_NUMBERS_programs)
    (tc_NUMBERS_programs : o_NUMBERS_programs.cls = .type "tuple")
    (td_NUMBERS_programs : o_NUMBERS_programs.data = .seq i_NUMBERS_programs n_NUMBERS_programs)
    (tz_NUMBERS_programs : i_NUMBERS_programs.size ≤ sizeLine)
    (tv_NUMBERS_programs : okV [2, 1, 1, 2, 1, 0, 0, 0, 1, 0, 1, 0, 1] i_NUMBERS_programs.toList = true)
    (t_ROWS : PySem.W.nsIn K mainGlobals "ROWS" = some (some (.ref a_ROWS)))
    (tl_ROWS : K.lookup a_ROWS = some o_ROWS)
    (tc_ROWS : o_ROWS.cls = .type "tuple")
    (td_ROWS : o_ROWS.data = .seq i_ROWS n_ROWS)
    (tz_ROWS : i_ROWS.size ≤ sizeLine)
    (tv_ROWS : okV [0, 1, 0, 0, 0, 1, 2, 1, 0, 0, 0, 2, 1] i_ROWS.toList = true)
    (g_Relation : PySem.W.nsIn K mainGlobals "Relation" = some (some (.ref CR)))
    (pg_Relation : PySem.W.plainGet K CR Str.empty = true)
    (hd_Relation : PySem.W.hasDictIn K CR = true)
    (po_Relation : PySem.W.plainOver K CR = true)
    (sa_Relation : PySem.W.findIn K (.ref CR) "__setattr__" = some (some (.builtin "object.__setattr__")))
    (mk_Relation : PySem.W.makesIn K CR = true)
    (kc_Relation : PySem.W.keepIn K (.ref CR) = true)
    (n_Relation_condition : PySem.W.findIn K (.ref CR) "condition" = some none)
    (n_Relation_own : PySem.W.findIn K (.ref CR) "own" = some none)
    (n_Relation_before : PySem.W.findIn K (.ref CR) "before" = some none)
    (n_Relation_stands : PySem.W.findIn K (.ref CR) "stands" = some none)
    (n_Relation_after : PySem.W.findIn K (.ref CR) "after" = some none)
    (w_Relation_init : PySem.W.findIn K (.ref CR) "__init__" = some (some (.ref f_Relation_init)))
    (i_Relation_init : PySem.W.isFn K (.ref f_Relation_init) = true)
    (l_Relation_init : K.lookup f_Relation_init = some ⟨oc_Relation_init, od_Relation_init, .func (PySem.W.fnOf "__init__" "Relation.__init__" (defArgs s_Relation_init) (defBody s_Relation_init) (defScope s_Relation_init) .none kV_Relation_init dc_Relation_init pm_Relation_init an_Relation_init cd_Relation_init ct_Relation_init), sl_Relation_init⟩)
    (cc_Relation_init : PySem.W.codeIn K cd_Relation_init "Relation.__init__" = true)
    (kk_Relation_init : PySem.W.keepIn K (.ref f_Relation_init) = true)
    (w_Relation_holds : PySem.W.findIn K (.ref CR) "holds" = some (some (.ref f_Relation_holds)))
    (i_Relation_holds : PySem.W.isFn K (.ref f_Relation_holds) = true)
    (l_Relation_holds : K.lookup f_Relation_holds = some ⟨oc_Relation_holds, od_Relation_holds, .func (PySem.W.fnOf "holds" "Relation.holds" (defArgs s_Relation_holds) (defBody s_Relation_holds) (defScope s_Relation_holds) .none kV_Relation_holds dc_Relation_holds pm_Relation_holds an_Relation_holds cd_Relation_holds ct_Relation_holds), sl_Relation_holds⟩)
    (cc_Relation_holds : PySem.W.codeIn K cd_Relation_holds "Relation.holds" = true)
    (kk_Relation_holds : PySem.W.keepIn K (.ref f_Relation_holds) = true)
    (g_Desk : PySem.W.nsIn K mainGlobals "Desk" = some (some (.ref CD)))
    (pg_Desk : PySem.W.plainGet K CD Str.empty = true)
    (hd_Desk : PySem.W.hasDictIn K CD = true)
    (po_Desk : PySem.W.plainOver K CD = true)
    (sa_Desk : PySem.W.findIn K (.ref CD) "__setattr__" = some (some (.builtin "object.__setattr__")))
    (mk_Desk : PySem.W.makesIn K CD = true)
    (kc_Desk : PySem.W.keepIn K (.ref CD) = true)
    (n_Desk_places : PySem.W.findIn K (.ref CD) "places" = some none)
    (n_Desk_rows : PySem.W.findIn K (.ref CD) "rows" = some none)
    (n_Desk_turns : PySem.W.findIn K (.ref CD) "turns" = some none)
    (n_Desk_programs : PySem.W.findIn K (.ref CD) "programs" = some none)
    (w_Desk_init : PySem.W.findIn K (.ref CD) "__init__" = some (some (.ref f_Desk_init)))
    (i_Desk_init : PySem.W.isFn K (.ref f_Desk_init) = true)
    (l_Desk_init : K.lookup f_Desk_init = some ⟨oc_Desk_init, od_Desk_init, .func (PySem.W.fnOf "__init__" "Desk.__init__" (defArgs s_Desk_init) (defBody s_Desk_init) (defScope s_Desk_init) .none kV_Desk_init dc_Desk_init pm_Desk_init an_Desk_init cd_Desk_init ct_Desk_init), sl_Desk_init⟩)
    (cc_Desk_init : PySem.W.codeIn K cd_Desk_init "Desk.__init__" = true)
    (kk_Desk_init : PySem.W.keepIn K (.ref f_Desk_init) = true)
    (w_Desk_put_size : PySem.W.findIn K (.ref CD) "put_size" = some (some (.ref f_Desk_put_size)))
    (i_Desk_put_size : PySem.W.isFn K (.ref f_Desk_put_size) = true)
    (l_Desk_put_size : K.lookup f_Desk_put_size = some ⟨oc_Desk_put_size, od_Desk_put_size, .func (PySem.W.fnOf "put_size" "Desk.put_size" (defArgs s_Desk_put_size) (defBody s_Desk_put_size) (defScope s_Desk_put_size) .none kV_Desk_put_size dc_Desk_put_size pm_Desk_put_size an_Desk_put_size cd_Desk_put_size ct_Desk_put_size), sl_Desk_put_size⟩)
    (cc_Desk_put_size : PySem.W.codeIn K cd_Desk_put_size "Desk.put_size" = true)
    (kk_Desk_put_size : PySem.W.keepIn K (.ref f_Desk_put_size) = true)
    (w_Desk_put_program : PySem.W.findIn K (.ref CD) "put_program" = some (some (.ref f_Desk_put_program)))
    (i_Desk_put_program : PySem.W.isFn K (.ref f_Desk_put_program) = true)
    (l_Desk_put_program : K.lookup f_Desk_put_program = some ⟨oc_Desk_put_program, od_Desk_put_program, .func (PySem.W.fnOf "put_program" "Desk.put_program" (defArgs s_Desk_put_program) (defBody s_Desk_put_program) (defScope s_Desk_put_program) .none kV_Desk_put_program dc_Desk_put_program pm_Desk_put_program an_Desk_put_program cd_Desk_put_program ct_Desk_put_program), sl_Desk_put_program⟩)
    (cc_Desk_put_program : PySem.W.codeIn K cd_Desk_put_program "Desk.put_program" = true)
    (kk_Desk_put_program : PySem.W.keepIn K (.ref f_Desk_put_program) = true)
    (w_Desk_is_turn : PySem.W.findIn K (.ref CD) "is_turn" = some (some (.ref f_Desk_is_turn)))
    (i_Desk_is_turn : PySem.W.isFn K (.ref f_Desk_is_turn) = true)
    (l_Desk_is_turn : K.lookup f_Desk_is_turn = some ⟨oc_Desk_is_turn, od_Desk_is_turn, .func (PySem.W.fnOf "is_turn" "Desk.is_turn" (defArgs s_Desk_is_turn) (defBody s_Desk_is_turn) (defScope s_Desk_is_turn) .none kV_Desk_is_turn dc_Desk_is_turn pm_Desk_is_turn an_Desk_is_turn cd_Desk_is_turn ct_Desk_is_turn), sl_Desk_is_turn⟩)
    (cc_Desk_is_turn : PySem.W.codeIn K cd_Desk_is_turn "Desk.is_turn" = true)
    (kk_Desk_is_turn : PySem.W.keepIn K (.ref f_Desk_is_turn) = true)
    (w_Desk_are_turns : PySem.W.findIn K (.ref CD) "are_turns" = some (some (.ref f_Desk_are_turns)))
    (i_Desk_are_turns : PySem.W.isFn K (.ref f_Desk_are_turns) = true)
    (l_Desk_are_turns : K.lookup f_Desk_are_turns = some ⟨oc_Desk_are_turns, od_Desk_are_turns, .func (PySem.W.fnOf "are_turns" "Desk.are_turns" (defArgs s_Desk_are_turns) (defBody s_Desk_are_turns) (defScope s_Desk_are_turns) .none kV_Desk_are_turns dc_Desk_are_turns pm_Desk_are_turns an_Desk_are_turns cd_Desk_are_turns ct_Desk_are_turns), sl_Desk_are_turns⟩)
    (cc_Desk_are_turns : PySem.W.codeIn K cd_Desk_are_turns "Desk.are_turns" = true)
    (kk_Desk_are_turns : PySem.W.keepIn K (.ref f_Desk_are_turns) = true)
    (w_Desk_group : PySem.W.findIn K (.ref CD) "group" = some (some (.ref f_Desk_group)))
    (i_Desk_group : PySem.W.isFn K (.ref f_Desk_group) = true)
    (l_Desk_group : K.lookup f_Desk_group = some ⟨oc_Desk_group, od_Desk_group, .func (PySem.W.fnOf "group" "Desk.group" (defArgs s_Desk_group) (defBody s_Desk_group) (defScope s_Desk_group) .none kV_Desk_group dc_Desk_group pm_Desk_group an_Desk_group cd_Desk_group ct_Desk_group), sl_Desk_group⟩)
    (cc_Desk_group : PySem.W.codeIn K cd_Desk_group "Desk.group" = true)
    (kk_Desk_group : PySem.W.keepIn K (.ref f_Desk_group) = true)
    (w_Desk_outcomes : PySem.W.findIn K (.ref CD) "outcomes" = some (some (.ref f_Desk_outcomes)))
    (i_Desk_outcomes : PySem.W.isFn K (.ref f_Desk_outcomes) = true)
    (l_Desk_outcomes : K.lookup f_Desk_outcomes = some ⟨oc_Desk_outcomes, od_Desk_outcomes, .func (PySem.W.fnOf "outcomes" "Desk.outcomes" (defArgs s_Desk_outcomes) (defBody s_Desk_outcomes) (defScope s_Desk_outcomes) .none kV_Desk_outcomes dc_Desk_outcomes pm_Desk_outcomes an_Desk_outcomes cd_Desk_outcomes ct_Desk_outcomes), sl_Desk_outcomes⟩)
    (cc_Desk_outcomes : PySem.W.codeIn K cd_Desk_outcomes "Desk.outcomes" = true)
    (kk_Desk_outcomes : PySem.W.keepIn K (.ref f_Desk_outcomes) = true)
    (d_is_beyond : PySem.W.nsIn K mainGlobals "is_beyond" = some (some (.ref f_is_beyond)))
    (l_is_beyond : K.lookup f_is_beyond = some ⟨oc_is_beyond, od_is_beyond, .func (PySem.W.fnOf "is_beyond" "is_beyond" (defArgs s_is_beyond) (defBody s_is_beyond) (defScope s_is_beyond) .none kV_is_beyond dc_is_beyond pm_is_beyond an_is_beyond cd_is_beyond ct_is_beyond), sl_is_beyond⟩)
    (cc_is_beyond : PySem.W.codeIn K cd_is_beyond "is_beyond" = true)
    (kk_is_beyond : PySem.W.keepIn K (.ref f_is_beyond) = true)
    (d_once : PySem.W.nsIn K mainGlobals "once" = some (some (.ref f_once)))
    (l_once : K.lookup f_once = some ⟨oc_once, od_once, .func (PySem.W.fnOf "once" "once" (defArgs s_once) (defBody s_once) (defScope s_once) .none kV_once dc_once pm_once an_once cd_once ct_once), sl_once⟩)
    (cc_once : PySem.W.codeIn K cd_once "once" = true)
    (kk_once : PySem.W.keepIn K (.ref f_once) = true)
    (d_sums : PySem.W.nsIn K mainGlobals "sums" = some (some (.ref f_sums)))
    (l_sums : K.lookup f_sums = some ⟨oc_sums, od_sums, .func (PySem.W.fnOf "sums" "sums" (defArgs s_sums) (defBody s_sums) (defScope s_sums) .none kV_sums dc_sums pm_sums an_sums cd_sums ct_sums), sl_sums⟩)
    (cc_sums : PySem.W.codeIn K cd_sums "sums" = true)
    (kk_sums : PySem.W.keepIn K (.ref f_sums) = true)
    (d_each : PySem.W.nsIn K mainGlobals "each" = some (some (.ref f_each)))
    (l_each : K.lookup f_each = some ⟨oc_each, od_each, .func (PySem.W.fnOf "each" "each" (defArgs s_each) (defBody s_each) (defScope s_each) .none kV_each dc_each pm_each an_each cd_each ct_each), sl_each⟩)
    (cc_each : PySem.W.codeIn K cd_each "each" = true)
    (kk_each : PySem.W.keepIn K (.ref f_each) = true)
    (d_placed : PySem.W.nsIn K mainGlobals "placed" = some (some (.ref f_placed)))
    (l_placed : K.lookup f_placed = some ⟨oc_placed, od_placed, .func (PySem.W.fnOf "placed" "placed" (defArgs s_placed) (defBody s_placed) (defScope s_placed) .none kV_placed dc_placed pm_placed an_placed cd_placed ct_placed), sl_placed⟩)
    (cc_placed : PySem.W.codeIn K cd_placed "placed" = true)
    (kk_placed : PySem.W.keepIn K (.ref f_placed) = true)
    (d_told : PySem.W.nsIn K mainGlobals "told" = some (some (.ref f_told)))
    (l_told : K.lookup f_told = some ⟨oc_told, od_told, .func (PySem.W.fnOf "told" "told" (defArgs s_told) (defBody s_told) (defScope s_told) .none kV_told dc_told pm_told an_told cd_told ct_told), sl_told⟩)
    (cc_told : PySem.W.codeIn K cd_told "told" = true)
    (kk_told : PySem.W.keepIn K (.ref f_told) = true)
    (d_done : PySem.W.nsIn K mainGlobals "done" = some (some (.ref f_done)))
    (l_done : K.lookup f_done = some ⟨oc_done, od_done, .func (PySem.W.fnOf "done" "done" (defArgs s_done) (defBody s_done) (defScope s_done) .none kV_done dc_done pm_done an_done cd_done ct_done), sl_done⟩)
    (cc_done : PySem.W.codeIn K cd_done "done" = true)
    (kk_done : PySem.W.keepIn K (.ref f_done) = true)
    (d_run : PySem.W.nsIn K mainGlobals "run" = some (some (.ref f_run)))
    (l_run : K.lookup f_run = some ⟨oc_run, od_run, .func (PySem.W.fnOf "run" "run" (defArgs s_run) (defBody s_run) (defScope s_run) .none kV_run dc_run pm_run an_run cd_run ct_run), sl_run⟩)
    (cc_run : PySem.W.codeIn K cd_run "run" = true)
    (kk_run : PySem.W.keepIn K (.ref f_run) = true)
    (d_do_stand : PySem.W.nsIn K mainGlobals "do_stand" = some (some (.ref f_do_stand)))
    (l_do_stand : K.lookup f_do_stand = some ⟨oc_do_stand, od_do_stand, .func (PySem.W.fnOf "do_stand" "do_stand" (defArgs s_do_stand) (defBody s_do_stand) (defScope s_do_stand) .none kV_do_stand dc_do_stand pm_do_stand an_do_stand cd_do_stand ct_do_stand), sl_do_stand⟩)
    (cc_do_stand : PySem.W.codeIn K cd_do_stand "do_stand" = true)
    (kk_do_stand : PySem.W.keepIn K (.ref f_do_stand) = true)
    (d_how : PySem.W.nsIn K mainGlobals "how" = some (some (.ref f_how)))
    (l_how : K.lookup f_how = some ⟨oc_how, od_how, .func (PySem.W.fnOf "how" "how" (defArgs s_how) (defBody s_how) (defScope s_how) .none kV_how dc_how pm_how an_how cd_how ct_how), sl_how⟩)
    (cc_how : PySem.W.codeIn K cd_how "how" = true)
    (kk_how : PySem.W.keepIn K (.ref f_how) = true)
    (d_chained : PySem.W.nsIn K mainGlobals "chained" = some (some (.ref f_chained)))
    (l_chained : K.lookup f_chained = some ⟨oc_chained, od_chained, .func (PySem.W.fnOf "chained" "chained" (defArgs s_chained) (defBody s_chained) (defScope s_chained) .none kV_chained dc_chained pm_chained an_chained cd_chained ct_chained), sl_chained⟩)
    (cc_chained : PySem.W.codeIn K cd_chained "chained" = true)
    (kk_chained : PySem.W.keepIn K (.ref f_chained) = true)
    (d_number_at : PySem.W.nsIn K mainGlobals "number_at" = some (some (.ref f_number_at)))
    (l_number_at : K.lookup f_number_at = some ⟨oc_number_at, od_number_at, .func (PySem.W.fnOf "number_at" "number_at" (defArgs s_number_at) (defBody s_number_at) (defScope s_number_at) .none kV_number_at dc_number_at pm_number_at an_number_at cd_number_at ct_number_at), sl_number_at⟩)
    (cc_number_at : PySem.W.codeIn K cd_number_at "number_at" = true)
    (kk_number_at : PySem.W.keepIn K (.ref f_number_at) = true)
    (d_is_within : PySem.W.nsIn K mainGlobals "is_within" = some (some (.ref f_is_within)))
    (l_is_within : K.lookup f_is_within = some ⟨oc_is_within, od_is_within, .func (PySem.W.fnOf "is_within" "is_within" (defArgs s_is_within) (defBody s_is_within) (defScope s_is_within) .none kV_is_within dc_is_within pm_is_within an_is_within cd_is_within ct_is_within), sl_is_within⟩)
    (cc_is_within : PySem.W.codeIn K cd_is_within "is_within" = true)
    (kk_is_within : PySem.W.keepIn K (.ref f_is_within) = true)
    (d_has_own : PySem.W.nsIn K mainGlobals "has_own" = some (some (.ref f_has_own)))
    (l_has_own : K.lookup f_has_own = some ⟨oc_has_own, od_has_own, .func (PySem.W.fnOf "has_own" "has_own" (defArgs s_has_own) (defBody s_has_own) (defScope s_has_own) .none kV_has_own dc_has_own pm_has_own an_has_own cd_has_own ct_has_own), sl_has_own⟩)
    (cc_has_own : PySem.W.codeIn K cd_has_own "has_own" = true)
    (kk_has_own : PySem.W.keepIn K (.ref f_has_own) = true)
    (d_is_own : PySem.W.nsIn K mainGlobals "is_own" = some (some (.ref f_is_own)))
    (l_is_own : K.lookup f_is_own = some ⟨oc_is_own, od_is_own, .func (PySem.W.fnOf "is_own" "is_own" (defArgs s_is_own) (defBody s_is_own) (defScope s_is_own) .none kV_is_own dc_is_own pm_is_own an_is_own cd_is_own ct_is_own), sl_is_own⟩)
    (cc_is_own : PySem.W.codeIn K cd_is_own "is_own" = true)
    (kk_is_own : PySem.W.keepIn K (.ref f_is_own) = true)
    (d_step_at : PySem.W.nsIn K mainGlobals "step_at" = some (some (.ref f_step_at)))
    (l_step_at : K.lookup f_step_at = some ⟨oc_step_at, od_step_at, .func (PySem.W.fnOf "step_at" "step_at" (defArgs s_step_at) (defBody s_step_at) (defScope s_step_at) .none kV_step_at dc_step_at pm_step_at an_step_at cd_step_at ct_step_at), sl_step_at⟩)
    (cc_step_at : PySem.W.codeIn K cd_step_at "step_at" = true)
    (kk_step_at : PySem.W.keepIn K (.ref f_step_at) = true)
    (d_program_at : PySem.W.nsIn K mainGlobals "program_at" = some (some (.ref f_program_at)))
    (l_program_at : K.lookup f_program_at = some ⟨oc_program_at, od_program_at, .func (PySem.W.fnOf "program_at" "program_at" (defArgs s_program_at) (defBody s_program_at) (defScope s_program_at) .none kV_program_at dc_program_at pm_program_at an_program_at cd_program_at ct_program_at), sl_program_at⟩)
    (cc_program_at : PySem.W.codeIn K cd_program_at "program_at" = true)
    (kk_program_at : PySem.W.keepIn K (.ref f_program_at) = true)
    (d_program_of : PySem.W.nsIn K mainGlobals "program_of" = some (some (.ref f_program_of)))
    (l_program_of : K.lookup f_program_of = some ⟨oc_program_of, od_program_of, .func (PySem.W.fnOf "program_of" "program_of" (defArgs s_program_of) (defBody s_program_of) (defScope s_program_of) .none kV_program_of dc_program_of pm_program_of an_program_of cd_program_of ct_program_of), sl_program_of⟩)
    (cc_program_of : PySem.W.codeIn K cd_program_of "program_of" = true)
    (kk_program_of : PySem.W.keepIn K (.ref f_program_of) = true)
    (d_condition_at : PySem.W.nsIn K mainGlobals "condition_at" = some (some (.ref f_condition_at)))
    (l_condition_at : K.lookup f_condition_at = some ⟨oc_condition_at, od_condition_at, .func (PySem.W.fnOf "condition_at" "condition_at" (defArgs s_condition_at) (defBody s_condition_at) (defScope s_condition_at) .none kV_condition_at dc_condition_at pm_condition_at an_condition_at cd_condition_at ct_condition_at), sl_condition_at⟩)
    (cc_condition_at : PySem.W.codeIn K cd_condition_at "condition_at" = true)
    (kk_condition_at : PySem.W.keepIn K (.ref f_condition_at) = true)
    (d_relation_of : PySem.W.nsIn K mainGlobals "relation_of" = some (some (.ref f_relation_of)))
    (l_relation_of : K.lookup f_relation_of = some ⟨oc_relation_of, od_relation_of, .func (PySem.W.fnOf "relation_of" "relation_of" (defArgs s_relation_of) (defBody s_relation_of) (defScope s_relation_of) .none kV_relation_of dc_relation_of pm_relation_of an_relation_of cd_relation_of ct_relation_of), sl_relation_of⟩)
    (cc_relation_of : PySem.W.codeIn K cd_relation_of "relation_of" = true)
    (kk_relation_of : PySem.W.keepIn K (.ref f_relation_of) = true)
    (d_row_of : PySem.W.nsIn K mainGlobals "row_of" = some (some (.ref f_row_of)))
    (l_row_of : K.lookup f_row_of = some ⟨oc_row_of, od_row_of, .func (PySem.W.fnOf "row_of" "row_of" (defArgs s_row_of) (defBody s_row_of) (defScope s_row_of) .none kV_row_of dc_row_of pm_row_of an_row_of cd_row_of ct_row_of), sl_row_of⟩)
    (cc_row_of : PySem.W.codeIn K cd_row_of "row_of" = true)
    (kk_row_of : PySem.W.keepIn K (.ref f_row_of) = true)
    (d_program_numbers : PySem.W.nsIn K mainGlobals "program_numbers" = some (some (.ref f_program_numbers)))
    (l_program_numbers : K.lookup f_program_numbers = some ⟨oc_program_numbers, od_program_numbers, .func (PySem.W.fnOf "program_numbers" "program_numbers" (defArgs s_program_numbers) (defBody s_program_numbers) (defScope s_program_numbers) .none kV_program_numbers dc_program_numbers pm_program_numbers an_program_numbers cd_program_numbers ct_program_numbers), sl_program_numbers⟩)
    (cc_program_numbers : PySem.W.codeIn K cd_program_numbers "program_numbers" = true)
    (kk_program_numbers : PySem.W.keepIn K (.ref f_program_numbers) = true)
    (d_relation_numbers : PySem.W.nsIn K mainGlobals "relation_numbers" = some (some (.ref f_relation_numbers)))
    (l_relation_numbers : K.lookup f_relation_numbers = some ⟨oc_relation_numbers, od_relation_numbers, .func (PySem.W.fnOf "relation_numbers" "relation_numbers" (defArgs s_relation_numbers) (defBody s_relation_numbers) (defScope s_relation_numbers) .none kV_relation_numbers dc_relation_numbers pm_relation_numbers an_relation_numbers cd_relation_numbers ct_relation_numbers), sl_relation_numbers⟩)
    (cc_relation_numbers : PySem.W.codeIn K cd_relation_numbers "relation_numbers" = true)
    (kk_relation_numbers : PySem.W.keepIn K (.ref f_relation_numbers) = true)
    (d_orders : PySem.W.nsIn K mainGlobals "orders" = some (some (.ref f_orders)))
    (l_orders : K.lookup f_orders = some ⟨oc_orders, od_orders, .func (PySem.W.fnOf "orders" "orders" (defArgs s_orders) (defBody s_orders) (defScope s_orders) .none kV_orders dc_orders pm_orders an_orders cd_orders ct_orders), sl_orders⟩)
    (cc_orders : PySem.W.codeIn K cd_orders "orders" = true)
    (kk_orders : PySem.W.keepIn K (.ref f_orders) = true)
    (d_all_signs : PySem.W.nsIn K mainGlobals "all_signs" = some (some (.ref f_all_signs)))
    (l_all_signs : K.lookup f_all_signs = some ⟨oc_all_signs, od_all_signs, .func (PySem.W.fnOf "all_signs" "all_signs" (defArgs s_all_signs) (defBody s_all_signs) (defScope s_all_signs) .none kV_all_signs dc_all_signs pm_all_signs an_all_signs cd_all_signs ct_all_signs), sl_all_signs⟩)
    (cc_all_signs : PySem.W.codeIn K cd_all_signs "all_signs" = true)
    (kk_all_signs : PySem.W.keepIn K (.ref f_all_signs) = true)
    (d_all_turns : PySem.W.nsIn K mainGlobals "all_turns" = some (some (.ref f_all_turns)))
    (l_all_turns : K.lookup f_all_turns = some ⟨oc_all_turns, od_all_turns, .func (PySem.W.fnOf "all_turns" "all_turns" (defArgs s_all_turns) (defBody s_all_turns) (defScope s_all_turns) .none kV_all_turns dc_all_turns pm_all_turns an_all_turns cd_all_turns ct_all_turns), sl_all_turns⟩)
    (cc_all_turns : PySem.W.codeIn K cd_all_turns "all_turns" = true)
    (kk_all_turns : PySem.W.keepIn K (.ref f_all_turns) = true)
    (d_signed : PySem.W.nsIn K mainGlobals "signed" = some (some (.ref f_signed)))
    (l_signed : K.lookup f_signed = some ⟨oc_signed, od_signed, .func (PySem.W.fnOf "signed" "signed" (defArgs s_signed) (defBody s_signed) (defScope s_signed) .none kV_signed dc_signed pm_signed an_signed cd_signed ct_signed), sl_signed⟩)
    (cc_signed : PySem.W.codeIn K cd_signed "signed" = true)
    (kk_signed : PySem.W.keepIn K (.ref f_signed) = true)
    (d_turned : PySem.W.nsIn K mainGlobals "turned" = some (some (.ref f_turned)))
    (l_turned : K.lookup f_turned = some ⟨oc_turned, od_turned, .func (PySem.W.fnOf "turned" "turned" (defArgs s_turned) (defBody s_turned) (defScope s_turned) .none kV_turned dc_turned pm_turned an_turned cd_turned ct_turned), sl_turned⟩)
    (cc_turned : PySem.W.codeIn K cd_turned "turned" = true)
    (kk_turned : PySem.W.keepIn K (.ref f_turned) = true)
    (d_behind : PySem.W.nsIn K mainGlobals "behind" = some (some (.ref f_behind)))
    (l_behind : K.lookup f_behind = some ⟨oc_behind, od_behind, .func (PySem.W.fnOf "behind" "behind" (defArgs s_behind) (defBody s_behind) (defScope s_behind) .none kV_behind dc_behind pm_behind an_behind cd_behind ct_behind), sl_behind⟩)
    (cc_behind : PySem.W.codeIn K cd_behind "behind" = true)
    (kk_behind : PySem.W.keepIn K (.ref f_behind) = true)
    (d_undone : PySem.W.nsIn K mainGlobals "undone" = some (some (.ref f_undone)))
    (l_undone : K.lookup f_undone = some ⟨oc_undone, od_undone, .func (PySem.W.fnOf "undone" "undone" (defArgs s_undone) (defBody s_undone) (defScope s_undone) .none kV_undone dc_undone pm_undone an_undone cd_undone ct_undone), sl_undone⟩)
    (cc_undone : PySem.W.codeIn K cd_undone "undone" = true)
    (kk_undone : PySem.W.keepIn K (.ref f_undone) = true)
    (d_unchanging : PySem.W.nsIn K mainGlobals "unchanging" = some (some (.ref f_unchanging)))
    (l_unchanging : K.lookup f_unchanging = some ⟨oc_unchanging, od_unchanging, .func (PySem.W.fnOf "unchanging" "unchanging" (defArgs s_unchanging) (defBody s_unchanging) (defScope s_unchanging) .none kV_unchanging dc_unchanging pm_unchanging an_unchanging cd_unchanging ct_unchanging), sl_unchanging⟩)
    (cc_unchanging : PySem.W.codeIn K cd_unchanging "unchanging" = true)
    (kk_unchanging : PySem.W.keepIn K (.ref f_unchanging) = true)
    (d_generated : PySem.W.nsIn K mainGlobals "generated" = some (some (.ref f_generated)))
    (l_generated : K.lookup f_generated = some ⟨oc_generated, od_generated, .func (PySem.W.fnOf "generated" "generated" (defArgs s_generated) (defBody s_generated) (defScope s_generated) .none kV_generated dc_generated pm_generated an_generated cd_generated ct_generated), sl_generated⟩)
    (cc_generated : PySem.W.codeIn K cd_generated "generated" = true)
    (kk_generated : PySem.W.keepIn K (.ref f_generated) = true)
    (d_orbit : PySem.W.nsIn K mainGlobals "orbit" = some (some (.ref f_orbit)))
    (l_orbit : K.lookup f_orbit = some ⟨oc_orbit, od_orbit, .func (PySem.W.fnOf "orbit" "orbit" (defArgs s_orbit) (defBody s_orbit) (defScope s_orbit) .none kV_orbit dc_orbit pm_orbit an_orbit cd_orbit ct_orbit), sl_orbit⟩)
    (cc_orbit : PySem.W.codeIn K cd_orbit "orbit" = true)
    (kk_orbit : PySem.W.keepIn K (.ref f_orbit) = true)
    (d_rows_of : PySem.W.nsIn K mainGlobals "rows_of" = some (some (.ref f_rows_of)))
    (l_rows_of : K.lookup f_rows_of = some ⟨oc_rows_of, od_rows_of, .func (PySem.W.fnOf "rows_of" "rows_of" (defArgs s_rows_of) (defBody s_rows_of) (defScope s_rows_of) .none kV_rows_of dc_rows_of pm_rows_of an_rows_of cd_rows_of ct_rows_of), sl_rows_of⟩)
    (cc_rows_of : PySem.W.codeIn K cd_rows_of "rows_of" = true)
    (kk_rows_of : PySem.W.keepIn K (.ref f_rows_of) = true)
    (d_many_orbits : PySem.W.nsIn K mainGlobals "many_orbits" = some (some (.ref f_many_orbits)))
    (l_many_orbits : K.lookup f_many_orbits = some ⟨oc_many_orbits, od_many_orbits, .func (PySem.W.fnOf "many_orbits" "many_orbits" (defArgs s_many_orbits) (defBody s_many_orbits) (defScope s_many_orbits) .none kV_many_orbits dc_many_orbits pm_many_orbits an_many_orbits cd_many_orbits ct_many_orbits), sl_many_orbits⟩)
    (cc_many_orbits : PySem.W.codeIn K cd_many_orbits "many_orbits" = true)
    (kk_many_orbits : PySem.W.keepIn K (.ref f_many_orbits) = true)
    (d_many_rows : PySem.W.nsIn K mainGlobals "many_rows" = some (some (.ref f_many_rows)))
    (l_many_rows : K.lookup f_many_rows = some ⟨oc_many_rows, od_many_rows, .func (PySem.W.fnOf "many_rows" "many_rows" (defArgs s_many_rows) (defBody s_many_rows) (defScope s_many_rows) .none kV_many_rows dc_many_rows pm_many_rows an_many_rows cd_many_rows ct_many_rows), sl_many_rows⟩)
    (cc_many_rows : PySem.W.codeIn K cd_many_rows "many_rows" = true)
    (kk_many_rows : PySem.W.keepIn K (.ref f_many_rows) = true)
    (d_size : PySem.W.nsIn K mainGlobals "size" = some (some (.ref f_size)))
    (l_size : K.lookup f_size = some ⟨oc_size, od_size, .func (PySem.W.fnOf "size" "size" (defArgs s_size) (defBody s_size) (defScope s_size) .none kV_size dc_size pm_size an_size cd_size ct_size), sl_size⟩)
    (cc_size : PySem.W.codeIn K cd_size "size" = true)
    (kk_size : PySem.W.keepIn K (.ref f_size) = true)
    (d_program : PySem.W.nsIn K mainGlobals "program" = some (some (.ref f_program)))
    (l_program : K.lookup f_program = some ⟨oc_program, od_program, .func (PySem.W.fnOf "program" "program" (defArgs s_program) (defBody s_program) (defScope s_program) .none kV_program dc_program pm_program an_program cd_program ct_program), sl_program⟩)
    (cc_program : PySem.W.codeIn K cd_program "program" = true)
    (kk_program : PySem.W.keepIn K (.ref f_program) = true)
    (d_compose : PySem.W.nsIn K mainGlobals "compose" = some (some (.ref f_compose)))
    (l_compose : K.lookup f_compose = some ⟨oc_compose, od_compose, .func (PySem.W.fnOf "compose" "compose" (defArgs s_compose) (defBody s_compose) (defScope s_compose) .none kV_compose dc_compose pm_compose an_compose cd_compose ct_compose), sl_compose⟩)
    (cc_compose : PySem.W.codeIn K cd_compose "compose" = true)
    (kk_compose : PySem.W.keepIn K (.ref f_compose) = true)
    (d_told_group : PySem.W.nsIn K mainGlobals "told_group" = some (some (.ref f_told_group)))
    (l_told_group : K.lookup f_told_group = some ⟨oc_told_group, od_told_group, .func (PySem.W.fnOf "told_group" "told_group" (defArgs s_told_group) (defBody s_told_group) (defScope s_told_group) .none kV_told_group dc_told_group pm_told_group an_told_group cd_told_group ct_told_group), sl_told_group⟩)
    (cc_told_group : PySem.W.codeIn K cd_told_group "told_group" = true)
    (kk_told_group : PySem.W.keepIn K (.ref f_told_group) = true)
    (d_told_orbit : PySem.W.nsIn K mainGlobals "told_orbit" = some (some (.ref f_told_orbit)))
    (l_told_orbit : K.lookup f_told_orbit = some ⟨oc_told_orbit, od_told_orbit, .func (PySem.W.fnOf "told_orbit" "told_orbit" (defArgs s_told_orbit) (defBody s_told_orbit) (defScope s_told_orbit) .none kV_told_orbit dc_told_orbit pm_told_orbit an_told_orbit cd_told_orbit ct_told_orbit), sl_told_orbit⟩)
    (cc_told_orbit : PySem.W.codeIn K cd_told_orbit "told_orbit" = true)
    (kk_told_orbit : PySem.W.keepIn K (.ref f_told_orbit) = true)
    (d_told_orbits : PySem.W.nsIn K mainGlobals "told_orbits" = some (some (.ref f_told_orbits)))
    (l_told_orbits : K.lookup f_told_orbits = some ⟨oc_told_orbits, od_told_orbits, .func (PySem.W.fnOf "told_orbits" "told_orbits" (defArgs s_told_orbits) (defBody s_told_orbits) (defScope s_told_orbits) .none kV_told_orbits dc_told_orbits pm_told_orbits an_told_orbits cd_told_orbits ct_told_orbits), sl_told_orbits⟩)
    (cc_told_orbits : PySem.W.codeIn K cd_told_orbits "told_orbits" = true)
    (kk_told_orbits : PySem.W.keepIn K (.ref f_told_orbits) = true)
    (d_first_unlike : PySem.W.nsIn K mainGlobals "first_unlike" = some (some (.ref f_first_unlike)))
    (l_first_unlike : K.lookup f_first_unlike = some ⟨oc_first_unlike, od_first_unlike, .func (PySem.W.fnOf "first_unlike" "first_unlike" (defArgs s_first_unlike) (defBody s_first_unlike) (defScope s_first_unlike) .none kV_first_unlike dc_first_unlike pm_first_unlike an_first_unlike cd_first_unlike ct_first_unlike), sl_first_unlike⟩)
    (cc_first_unlike : PySem.W.codeIn K cd_first_unlike "first_unlike" = true)
    (kk_first_unlike : PySem.W.keepIn K (.ref f_first_unlike) = true)
    (d_alike : PySem.W.nsIn K mainGlobals "alike" = some (some (.ref f_alike)))
    (l_alike : K.lookup f_alike = some ⟨oc_alike, od_alike, .func (PySem.W.fnOf "alike" "alike" (defArgs s_alike) (defBody s_alike) (defScope s_alike) .none kV_alike dc_alike pm_alike an_alike cd_alike ct_alike), sl_alike⟩)
    (cc_alike : PySem.W.codeIn K cd_alike "alike" = true)
    (kk_alike : PySem.W.keepIn K (.ref f_alike) = true)
    (d_group : PySem.W.nsIn K mainGlobals "group" = some (some (.ref f_group)))
    (l_group : K.lookup f_group = some ⟨oc_group, od_group, .func (PySem.W.fnOf "group" "group" (defArgs s_group) (defBody s_group) (defScope s_group) .none kV_group dc_group pm_group an_group cd_group ct_group), sl_group⟩)
    (cc_group : PySem.W.codeIn K cd_group "group" = true)
    (kk_group : PySem.W.keepIn K (.ref f_group) = true)
    (d_goes_with : PySem.W.nsIn K mainGlobals "goes_with" = some (some (.ref f_goes_with)))
    (l_goes_with : K.lookup f_goes_with = some ⟨oc_goes_with, od_goes_with, .func (PySem.W.fnOf "goes_with" "goes_with" (defArgs s_goes_with) (defBody s_goes_with) (defScope s_goes_with) .none kV_goes_with dc_goes_with pm_goes_with an_goes_with cd_goes_with ct_goes_with), sl_goes_with⟩)
    (cc_goes_with : PySem.W.codeIn K cd_goes_with "goes_with" = true)
    (kk_goes_with : PySem.W.keepIn K (.ref f_goes_with) = true)
    (d_partner : PySem.W.nsIn K mainGlobals "partner" = some (some (.ref f_partner)))
    (l_partner : K.lookup f_partner = some ⟨oc_partner, od_partner, .func (PySem.W.fnOf "partner" "partner" (defArgs s_partner) (defBody s_partner) (defScope s_partner) .none kV_partner dc_partner pm_partner an_partner cd_partner ct_partner), sl_partner⟩)
    (cc_partner : PySem.W.codeIn K cd_partner "partner" = true)
    (kk_partner : PySem.W.keepIn K (.ref f_partner) = true)
    (d_chain : PySem.W.nsIn K mainGlobals "chain" = some (some (.ref f_chain)))
    (l_chain : K.lookup f_chain = some ⟨oc_chain, od_chain, .func (PySem.W.fnOf "chain" "chain" (defArgs s_chain) (defBody s_chain) (defScope s_chain) .none kV_chain dc_chain pm_chain an_chain cd_chain ct_chain), sl_chain⟩)
    (cc_chain : PySem.W.codeIn K cd_chain "chain" = true)
    (kk_chain : PySem.W.keepIn K (.ref f_chain) = true)
    (d_kept : PySem.W.nsIn K mainGlobals "kept" = some (some (.ref f_kept)))
    (l_kept : K.lookup f_kept = some ⟨oc_kept, od_kept, .func (PySem.W.fnOf "kept" "kept" (defArgs s_kept) (defBody s_kept) (defScope s_kept) .none kV_kept dc_kept pm_kept an_kept cd_kept ct_kept), sl_kept⟩)
    (cc_kept : PySem.W.codeIn K cd_kept "kept" = true)
    (kk_kept : PySem.W.keepIn K (.ref f_kept) = true)
    (d_of_turn : PySem.W.nsIn K mainGlobals "of_turn" = some (some (.ref f_of_turn)))
    (l_of_turn : K.lookup f_of_turn = some ⟨oc_of_turn, od_of_turn, .func (PySem.W.fnOf "of_turn" "of_turn" (defArgs s_of_turn) (defBody s_of_turn) (defScope s_of_turn) .none kV_of_turn dc_of_turn pm_of_turn an_of_turn cd_of_turn ct_of_turn), sl_of_turn⟩)
    (cc_of_turn : PySem.W.codeIn K cd_of_turn "of_turn" = true)
    (kk_of_turn : PySem.W.keepIn K (.ref f_of_turn) = true)
    (d_answer : PySem.W.nsIn K mainGlobals "answer" = some (some (.ref f_answer)))
    (l_answer : K.lookup f_answer = some ⟨oc_answer, od_answer, .func (PySem.W.fnOf "answer" "answer" (defArgs s_answer) (defBody s_answer) (defScope s_answer) .none kV_answer dc_answer pm_answer an_answer cd_answer ct_answer), sl_answer⟩)
    (cc_answer : PySem.W.codeIn K cd_answer "answer" = true)
    (kk_answer : PySem.W.keepIn K (.ref f_answer) = true)
    (d_answers : PySem.W.nsIn K mainGlobals "answers" = some (some (.ref f_answers)))
    (l_answers : K.lookup f_answers = some ⟨oc_answers, od_answers, .func (PySem.W.fnOf "answers" "answers" (defArgs s_answers) (defBody s_answers) (defScope s_answers) .none kV_answers dc_answers pm_answers an_answers cd_answers ct_answers), sl_answers⟩)
    (cc_answers : PySem.W.codeIn K cd_answers "answers" = true)
    (kk_answers : PySem.W.keepIn K (.ref f_answers) = true) :
    ∃ fd : FuncData, (∀ (s : Shared) (us : List Value), us.length = (["calls"] : List Str).length → BindsTo s fd ⟨us, []⟩ ((["calls"] : List Str).zip us)) ∧ ∀ base : Heap, K.In base → base.Ns mainGlobals mg → FnOk P w K mg base CX0 10 fa fd ["calls"] (Prom (a_answers K)) := by
  have e := hfa.symm.trans (PySem.W.mg_of X G d_answers)
  cases e
  have t : Txt K mg CR CD := {
    b_abs := PySem.W.mg_none_of X G b_abs,
    b_all := PySem.W.mg_none_of X G b_all,
    b_any := PySem.W.mg_none_of X G b_any,
    b_enumerate := PySem.W.mg_none_of X G b_enumerate,
    b_int := PySem.W.mg_none_of X G b_int,
    b_len := PySem.W.mg_none_of X G b_len,
    b_list := PySem.W.mg_none_of X G b_list,
    b_max := PySem.W.mg_none_of X G b_max,
    b_range := PySem.W.mg_none_of X G b_range,
    b_set := PySem.W.mg_none_of X G b_set,
    b_sorted := PySem.W.mg_none_of X G b_sorted,
    b_sum := PySem.W.mg_none_of X G b_sum,
    b_tuple := PySem.W.mg_none_of X G b_tuple,
    b_zip := PySem.W.mg_none_of X G b_zip,
    c_ADD := ⟨_, PySem.W.mg_of X G c_ADD⟩,
    c_TIMES := ⟨_, PySem.W.mg_of X G c_TIMES⟩,
    c_REST := ⟨_, PySem.W.mg_of X G c_REST⟩,
    c_ABS := ⟨_, PySem.W.mg_of X G c_ABS⟩,
    c_SORT := ⟨_, PySem.W.mg_of X G c_SORT⟩,
    c_REVERSE := ⟨_, PySem.W.mg_of X G c_REVERSE⟩,
    c_ROTATE := ⟨_, PySem.W.mg_of X G c_ROTATE⟩,
    c_TAKE := ⟨_, PySem.W.mg_of X G c_TAKE⟩,
    c_DROP := ⟨_, PySem.W.mg_of X G c_DROP⟩,
    c_ABOVE := ⟨_, PySem.W.mg_of X G c_ABOVE⟩,
    c_ONCE := ⟨_, PySem.W.mg_of X G c_ONCE⟩,
    c_SUM := ⟨_, PySem.W.mg_of X G c_SUM⟩,
    c_GREATEST := ⟨_, PySem.W.mg_of X G c_GREATEST⟩,
    c_LEAST_steps := ⟨_, PySem.W.mg_of X G c_LEAST_steps⟩,
    c_COUNT := ⟨_, PySem.W.mg_of X G c_COUNT⟩,
    c_STEPS := ⟨_, PySem.W.mg_of X G c_STEPS⟩,
    c_SUMS := ⟨_, PySem.W.mg_of X G c_SUMS⟩,
    c_TWICE := ⟨_, PySem.W.mg_of X G c_TWICE⟩,
    c_MOST_NUMBERS := ⟨_, PySem.W.mg_of X G c_MOST_NUMBERS⟩,
    c_MOST_SIZE := ⟨_, PySem.W.mg_of X G c_MOST_SIZE⟩,
    c_EQUAL := ⟨_, PySem.W.mg_of X G c_EQUAL⟩,
    c_BAG := ⟨_, PySem.W.mg_of X G c_BAG⟩,
    c_NUMBERS_relations := ⟨_, PySem.W.mg_of X G c_NUMBERS_relations⟩,
    c_MOST := ⟨_, PySem.W.mg_of X G c_MOST⟩,
    c_LEAST_relations := ⟨_, PySem.W.mg_of X G c_LEAST_relations⟩,
    c_BEGINS := ⟨_, PySem.W.mg_of X G c_BEGINS⟩,
    c_LONG := ⟨_, PySem.W.mg_of X G c_LONG⟩,
    c_ANY := ⟨_, PySem.W.mg_of X G c_ANY⟩,
    c_HAS_NUMBERS := ⟨_, PySem.W.mg_of X G c_HAS_NUMBERS⟩,
    c_RISING := ⟨_, PySem.W.mg_of X G c_RISING⟩,
    c_NOT_BELOW := ⟨_, PySem.W.mg_of X G c_NOT_BELOW⟩,
    c_UNLIKE := ⟨_, PySem.W.mg_of X G c_UNLIKE⟩,
    c_AS_MANY := ⟨_, PySem.W.mg_of X G c_AS_MANY⟩,
    c_KEPT := ⟨_, PySem.W.mg_of X G c_KEPT⟩,
    c_BROKEN := ⟨_, PySem.W.mg_of X G c_BROKEN⟩,
    c_OFF := ⟨_, PySem.W.mg_of X G c_OFF⟩,
    c_MOST_STEPS := ⟨_, PySem.W.mg_of X G c_MOST_STEPS⟩,
    c_MOST_OWN := ⟨_, PySem.W.mg_of X G c_MOST_OWN⟩,
    c_MOST_REST := ⟨_, PySem.W.mg_of X G c_MOST_REST⟩,
    c_MOST_MANY := ⟨_, PySem.W.mg_of X G c_MOST_MANY⟩,
    c_MOST_ROW := ⟨_, PySem.W.mg_of X G c_MOST_ROW⟩,
    c_MOST_PLACES := ⟨_, PySem.W.mg_of X G c_MOST_PLACES⟩,
    c_MOST_HIGH := ⟨_, PySem.W.mg_of X G c_MOST_HIGH⟩,
    c_MOST_ROWS := ⟨_, PySem.W.mg_of X G c_MOST_ROWS⟩,
    t_NUMBERS_programs := ⟨_, PySem.W.mg_of X G t_NUMBERS_programs, fun _ => .inr ⟨_, _, _, tl_NUMBERS_programs, tc_NUMBERS_programs, td_NUMBERS_programs, tz_NUMBERS_programs, okV_vals tv_NUMBERS_programs⟩⟩,
    t_ROWS := ⟨_, PySem.W.mg_of X G t_ROWS, fun _ => .inr ⟨_, _, _, tl_ROWS, tc_ROWS, td_ROWS, tz_ROWS, okV_vals tv_ROWS⟩⟩,
    g_Relation := PySem.W.mg_of X G g_Relation,
    cl_Relation := ⟨pg_Relation, hd_Relation, po_Relation, sa_Relation⟩,
    n_Relation_condition := n_Relation_condition,
    n_Relation_own := n_Relation_own,
    n_Relation_before := n_Relation_before,
    n_Relation_stands := n_Relation_stands,
    n_Relation_after := n_Relation_after,
    m_Relation_init := ⟨_, _, ⟨mk_Relation, w_Relation_init, i_Relation_init, kc_Relation⟩, fun_mk (st := s_Relation_init) l_Relation_init cc_Relation_init kk_Relation_init⟩,
    m_Relation_holds := ⟨_, _, ⟨w_Relation_holds, i_Relation_holds, kk_Relation_holds⟩, fun_mk (st := s_Relation_holds) l_Relation_holds cc_Relation_holds kk_Relation_holds⟩,
    g_Desk := PySem.W.mg_of X G g_Desk,
    cl_Desk := ⟨pg_Desk, hd_Desk, po_Desk, sa_Desk⟩,
    n_Desk_places := n_Desk_places,
    n_Desk_rows := n_Desk_rows,
    n_Desk_turns := n_Desk_turns,
    n_Desk_programs := n_Desk_programs,
    m_Desk_init := ⟨_, _, ⟨mk_Desk, w_Desk_init, i_Desk_init, kc_Desk⟩, fun_mk (st := s_Desk_init) l_Desk_init cc_Desk_init kk_Desk_init⟩,
    m_Desk_put_size := ⟨_, _, ⟨w_Desk_put_size, i_Desk_put_size, kk_Desk_put_size⟩, fun_mk (st := s_Desk_put_size) l_Desk_put_size cc_Desk_put_size kk_Desk_put_size⟩,
    m_Desk_put_program := ⟨_, _, ⟨w_Desk_put_program, i_Desk_put_program, kk_Desk_put_program⟩, fun_mk (st := s_Desk_put_program) l_Desk_put_program cc_Desk_put_program kk_Desk_put_program⟩,
    m_Desk_is_turn := ⟨_, _, ⟨w_Desk_is_turn, i_Desk_is_turn, kk_Desk_is_turn⟩, fun_mk (st := s_Desk_is_turn) l_Desk_is_turn cc_Desk_is_turn kk_Desk_is_turn⟩,
    m_Desk_are_turns := ⟨_, _, ⟨w_Desk_are_turns, i_Desk_are_turns, kk_Desk_are_turns⟩, fun_mk (st := s_Desk_are_turns) l_Desk_are_turns cc_Desk_are_turns kk_Desk_are_turns⟩,
    m_Desk_group := ⟨_, _, ⟨w_Desk_group, i_Desk_group, kk_Desk_group⟩, fun_mk (st := s_Desk_group) l_Desk_group cc_Desk_group kk_Desk_group⟩,
    m_Desk_outcomes := ⟨_, _, ⟨w_Desk_outcomes, i_Desk_outcomes, kk_Desk_outcomes⟩, fun_mk (st := s_Desk_outcomes) l_Desk_outcomes cc_Desk_outcomes kk_Desk_outcomes⟩,
    f_is_beyond := ⟨_, _, PySem.W.mg_of X G d_is_beyond, fun_mk (st := s_is_beyond) l_is_beyond cc_is_beyond kk_is_beyond⟩,
    f_once := ⟨_, _, PySem.W.mg_of X G d_once, fun_mk (st := s_once) l_once cc_once kk_once⟩,
    f_sums := ⟨_, _, PySem.W.mg_of X G d_sums, fun_mk (st := s_sums) l_sums cc_sums kk_sums⟩,
    f_each := ⟨_, _, PySem.W.mg_of X G d_each, fun_mk (st := s_each) l_each cc_each kk_each⟩,
    f_placed := ⟨_, _, PySem.W.mg_of X G d_placed, fun_mk (st := s_placed) l_placed cc_placed kk_placed⟩,
    f_told := ⟨_, _, PySem.W.mg_of X G d_told, fun_mk (st := s_told) l_told cc_told kk_told⟩,
    f_done := ⟨_, _, PySem.W.mg_of X G d_done, fun_mk (st := s_done) l_done cc_done kk_done⟩,
    f_run := ⟨_, _, PySem.W.mg_of X G d_run, fun_mk (st := s_run) l_run cc_run kk_run⟩,
    f_do_stand := ⟨_, _, PySem.W.mg_of X G d_do_stand, fun_mk (st := s_do_stand) l_do_stand cc_do_stand kk_do_stand⟩,
    f_how := ⟨_, _, PySem.W.mg_of X G d_how, fun_mk (st := s_how) l_how cc_how kk_how⟩,
    f_chained := ⟨_, _, PySem.W.mg_of X G d_chained, fun_mk (st := s_chained) l_chained cc_chained kk_chained⟩,
    f_number_at := ⟨_, _, PySem.W.mg_of X G d_number_at, fun_mk (st := s_number_at) l_number_at cc_number_at kk_number_at⟩,
    f_is_within := ⟨_, _, PySem.W.mg_of X G d_is_within, fun_mk (st := s_is_within) l_is_within cc_is_within kk_is_within⟩,
    f_has_own := ⟨_, _, PySem.W.mg_of X G d_has_own, fun_mk (st := s_has_own) l_has_own cc_has_own kk_has_own⟩,
    f_is_own := ⟨_, _, PySem.W.mg_of X G d_is_own, fun_mk (st := s_is_own) l_is_own cc_is_own kk_is_own⟩,
    f_step_at := ⟨_, _, PySem.W.mg_of X G d_step_at, fun_mk (st := s_step_at) l_step_at cc_step_at kk_step_at⟩,
    f_program_at := ⟨_, _, PySem.W.mg_of X G d_program_at, fun_mk (st := s_program_at) l_program_at cc_program_at kk_program_at⟩,
    f_program_of := ⟨_, _, PySem.W.mg_of X G d_program_of, fun_mk (st := s_program_of) l_program_of cc_program_of kk_program_of⟩,
    f_condition_at := ⟨_, _, PySem.W.mg_of X G d_condition_at, fun_mk (st := s_condition_at) l_condition_at cc_condition_at kk_condition_at⟩,
    f_relation_of := ⟨_, _, PySem.W.mg_of X G d_relation_of, fun_mk (st := s_relation_of) l_relation_of cc_relation_of kk_relation_of⟩,
    f_row_of := ⟨_, _, PySem.W.mg_of X G d_row_of, fun_mk (st := s_row_of) l_row_of cc_row_of kk_row_of⟩,
    f_program_numbers := ⟨_, _, PySem.W.mg_of X G d_program_numbers, fun_mk (st := s_program_numbers) l_program_numbers cc_program_numbers kk_program_numbers⟩,
    f_relation_numbers := ⟨_, _, PySem.W.mg_of X G d_relation_numbers, fun_mk (st := s_relation_numbers) l_relation_numbers cc_relation_numbers kk_relation_numbers⟩,
    f_orders := ⟨_, _, PySem.W.mg_of X G d_orders, fun_mk (st := s_orders) l_orders cc_orders kk_orders⟩,
    f_all_signs := ⟨_, _, PySem.W.mg_of X G d_all_signs, fun_mk (st := s_all_signs) l_all_signs cc_all_signs kk_all_signs⟩,
    f_all_turns := ⟨_, _, PySem.W.mg_of X G d_all_turns, fun_mk (st := s_all_turns) l_all_turns cc_all_turns kk_all_turns⟩,
    f_signed := ⟨_, _, PySem.W.mg_of X G d_signed, fun_mk (st := s_signed) l_signed cc_signed kk_signed⟩,
    f_turned := ⟨_, _, PySem.W.mg_of X G d_turned, fun_mk (st := s_turned) l_turned cc_turned kk_turned⟩,
    f_behind := ⟨_, _, PySem.W.mg_of X G d_behind, fun_mk (st := s_behind) l_behind cc_behind kk_behind⟩,
    f_undone := ⟨_, _, PySem.W.mg_of X G d_undone, fun_mk (st := s_undone) l_undone cc_undone kk_undone⟩,
    f_unchanging := ⟨_, _, PySem.W.mg_of X G d_unchanging, fun_mk (st := s_unchanging) l_unchanging cc_unchanging kk_unchanging⟩,
    f_generated := ⟨_, _, PySem.W.mg_of X G d_generated, fun_mk (st := s_generated) l_generated cc_generated kk_generated⟩,
    f_orbit := ⟨_, _, PySem.W.mg_of X G d_orbit, fun_mk (st := s_orbit) l_orbit cc_orbit kk_orbit⟩,
    f_rows_of := ⟨_, _, PySem.W.mg_of X G d_rows_of, fun_mk (st := s_rows_of) l_rows_of cc_rows_of kk_rows_of⟩,
    f_many_orbits := ⟨_, _, PySem.W.mg_of X G d_many_orbits, fun_mk (st := s_many_orbits) l_many_orbits cc_many_orbits kk_many_orbits⟩,
    f_many_rows := ⟨_, _, PySem.W.mg_of X G d_many_rows, fun_mk (st := s_many_rows) l_many_rows cc_many_rows kk_many_rows⟩,
    f_size := ⟨_, _, PySem.W.mg_of X G d_size, fun_mk (st := s_size) l_size cc_size kk_size⟩,
    f_program := ⟨_, _, PySem.W.mg_of X G d_program, fun_mk (st := s_program) l_program cc_program kk_program⟩,
    f_compose := ⟨_, _, PySem.W.mg_of X G d_compose, fun_mk (st := s_compose) l_compose cc_compose kk_compose⟩,
    f_told_group := ⟨_, _, PySem.W.mg_of X G d_told_group, fun_mk (st := s_told_group) l_told_group cc_told_group kk_told_group⟩,
    f_told_orbit := ⟨_, _, PySem.W.mg_of X G d_told_orbit, fun_mk (st := s_told_orbit) l_told_orbit cc_told_orbit kk_told_orbit⟩,
    f_told_orbits := ⟨_, _, PySem.W.mg_of X G d_told_orbits, fun_mk (st := s_told_orbits) l_told_orbits cc_told_orbits kk_told_orbits⟩,
    f_first_unlike := ⟨_, _, PySem.W.mg_of X G d_first_unlike, fun_mk (st := s_first_unlike) l_first_unlike cc_first_unlike kk_first_unlike⟩,
    f_alike := ⟨_, _, PySem.W.mg_of X G d_alike, fun_mk (st := s_alike) l_alike cc_alike kk_alike⟩,
    f_group := ⟨_, _, PySem.W.mg_of X G d_group, fun_mk (st := s_group) l_group cc_group kk_group⟩,
    f_goes_with := ⟨_, _, PySem.W.mg_of X G d_goes_with, fun_mk (st := s_goes_with) l_goes_with cc_goes_with kk_goes_with⟩,
    f_partner := ⟨_, _, PySem.W.mg_of X G d_partner, fun_mk (st := s_partner) l_partner cc_partner kk_partner⟩,
    f_chain := ⟨_, _, PySem.W.mg_of X G d_chain, fun_mk (st := s_chain) l_chain cc_chain kk_chain⟩,
    f_kept := ⟨_, _, PySem.W.mg_of X G d_kept, fun_mk (st := s_kept) l_kept cc_kept kk_kept⟩,
    f_of_turn := ⟨_, _, PySem.W.mg_of X G d_of_turn, fun_mk (st := s_of_turn) l_of_turn cc_of_turn kk_of_turn⟩,
    f_answer := ⟨_, _, PySem.W.mg_of X G d_answer, fun_mk (st := s_answer) l_answer cc_answer kk_answer⟩,
    f_answers := ⟨_, _, PySem.W.mg_of X G d_answers, fun_mk (st := s_answers) l_answers cc_answers kk_answers⟩ }
  exact ⟨PySem.W.fnOf "answers" "answers" (defArgs s_answers) (defBody s_answers) (defScope s_answers) .none kV_answers dc_answers pm_answers an_answers cd_answers ct_answers, fun s us hu => match us, hu with | [_], _ => .of_eq rfl, fun base _ _ => ok_answers (fun_mk (st := s_answers) l_answers cc_answers kk_answers) t⟩
end TG
set_option Elab.async false
set_option linter.all false
set_option maxRecDepth 100000
set_option maxHeartbeats 2000000
namespace TG
open PySem PySem.Spec PyProof.Rows L2
open Evl (Ex ex_l ex_t fresh_back)
section
variable {P : Program} {w : World} {K : PySem.W.Frag} {mg : Str → Option Value} {base : Heap} {CR CD : Addr}
open VametBase (readStep readNat readInt readProgram readTimes readCond readRel readRelation readRow readListed readPair)
/-! ### plain laws: rows -/
theorem rows_front (h : Nat) : ∀ n, pRows h (n + 1) = (rgI (0 - (h : Int)) (2 * h + 1)).flatMap fun d => (pRows h n).map fun r => d :: r
  | 0 => by
    show ([[]] : List (List Int)).flatMap (fun o => (rgI (0 - (h : Int)) (2 * h + 1)).map fun p => o ++ [p]) = _
    rw [List.flatMap_cons, List.flatMap_nil, List.append_nil]
    show (rgI (0 - (h : Int)) (2 * h + 1)).map (fun p => [p]) = (rgI (0 - (h : Int)) (2 * h + 1)).flatMap fun d => [[d]]
    generalize rgI (0 - (h : Int)) (2 * h + 1) = L
    induction L with
    | nil => rfl
    | cons a L ih => rw [List.map_cons, List.flatMap_cons, ih]; rfl
  | n + 1 => by
    show (pRows h (n + 1)).flatMap (fun o => (rgI (0 - (h : Int)) (2 * h + 1)).map fun p => o ++ [p]) = _
    conv => lhs; rw [rows_front h n, List.flatMap_assoc]
    refine congrArg (fun F => (rgI (0 - (h : Int)) (2 * h + 1)).flatMap F) ?_
    funext d
    show ((pRows h n).map fun r => d :: r).flatMap (fun o => (rgI (0 - (h : Int)) (2 * h + 1)).map fun p => o ++ [p]) = ((pRows h n).flatMap fun o => (rgI (0 - (h : Int)) (2 * h + 1)).map fun p => o ++ [p]).map fun r => d :: r
    rw [List.flatMap_map, List.map_flatMap]
    refine congrArg (fun F => (pRows h n).flatMap F) ?_
    funext o
    rw [List.map_map]
    rfl
theorem rowsOf_eq (h : Nat) : ∀ n, Vamete.rowsOf n h = pRows h n
  | 0 => rfl
  | n + 1 => by
    rw [rows_front]
    show (List.range (2 * h + 1)).flatMap (fun d => (Vamete.rowsOf n h).map fun r => (VametBase.int d - VametBase.int h) :: r) = _
    rw [rowsOf_eq h n]
    unfold rgI
    rw [List.flatMap_map]
    refine congrArg (fun F => (List.range (2 * h + 1)).flatMap F) ?_
    funext d
    have : VametBase.int d - VametBase.int h = 0 - (h : Int) + (d : Int) := by show (d : Int) - (h : Int) = _; omega
    rw [this]
theorem rows_eq (st : Vamete.State) : Vamete.rows st = rowsS st := rowsOf_eq st.high st.places
/-! ### turns by number -/
theorem turnAt_eq (st : Vamete.State) (k : Int) : Vamete.turnAt st k = if isTurn st k then some (turnOf st k) else none := by
  show (if k < 0 then none else (Vamete.allTurns st.places)[k.toNat]?) = _
  by_cases hk : isTurn st k = true
  · obtain ⟨h1, _, h3⟩ := turn_get hk
    rw [if_pos hk, if_neg (by omega), h1]
  · rw [if_neg hk]
    by_cases h : k < 0
    · rw [if_pos h]
    · rw [if_neg h]
      have hk : ¬ (decide (0 ≤ k) && decide (k < ((Vamete.allTurns st.places).length : Int))) = true := hk
      rw [Bool.and_eq_true, decide_eq_true_iff, decide_eq_true_iff] at hk
      exact List.getElem?_eq_none (by omega)
theorem turnsAt_eq (st : Vamete.State) (l : List Int) : l.mapM (Vamete.turnAt st) = if l.all (isTurn st) then some (l.map (turnOf st)) else none := by
  rw [mapM_opt _ default]
  have e1 : (fun x => (Vamete.turnAt st x).isSome) = isTurn st := by
    funext k
    rw [turnAt_eq]
    cases isTurn st k <;> rfl
  rw [e1]
  by_cases h : l.all (isTurn st) = true
  · rw [if_pos h, if_pos h]
    congr 1
    refine List.map_congr_left fun k hk => ?_
    rw [turnAt_eq, List.all_eq_true.mp h k hk]
    rfl
  · rw [if_neg h, if_neg h]
theorem onTurn_eq (st : Vamete.State) (k : Int) (F : Vamete.Turn → List Int) : Vamete.onTurn st k F = (st, if isTurn st k then F (turnOf st k) else [-2]) := by
  unfold Vamete.onTurn
  rw [turnAt_eq]
  cases isTurn st k <;> rfl
theorem onTurns_eq (st : Vamete.State) (l : List Int) (F : List Vamete.Turn → List Int) : Vamete.onTurns st l F = (st, if l.all (isTurn st) then F (l.map (turnOf st)) else [-2]) := by
  unfold Vamete.onTurns
  rw [turnsAt_eq]
  cases l.all (isTurn st) <;> rfl
theorem number_eq (st : Vamete.State) (t : Vamete.Turn) : Vamete.number st t = (idxOf st t : Int) := rfl
/-! ### numbers of turns, rising -/
def idxs (n : Nat) (g : List Vamete.Turn) : List Nat := ((Vamete.allTurns n).zipIdx.filter fun z => g.contains z.1).map fun z => z.2
theorem mem_idxs {n : Nat} {g : List Vamete.Turn} {i : Nat} : i ∈ idxs n g ↔ ∃ t, (Vamete.allTurns n)[i]? = some t ∧ t ∈ g := by
  unfold idxs
  rw [List.mem_map]
  constructor
  · rintro ⟨⟨t, j⟩, hz, rfl⟩
    rw [List.mem_filter] at hz
    have := List.mem_zipIdx_iff_getElem?.mp hz.1
    exact ⟨t, this, by simpa using hz.2⟩
  · rintro ⟨t, h1, h2⟩
    exact ⟨(t, i), List.mem_filter.mpr ⟨List.mem_zipIdx_iff_getElem?.mpr h1, by simpa using h2⟩, rfl⟩
theorem idxs_sorted (n : Nat) (g : List Vamete.Turn) : (idxs n g).Pairwise (· < ·) := by
  unfold idxs
  rw [List.pairwise_map]
  refine List.Pairwise.filter _ ?_
  have : ∀ (l : List Vamete.Turn) (k : Nat), (l.zipIdx k).Pairwise fun a b => a.2 < b.2 := by
    intro l
    induction l with
    | nil => intro k; exact .nil
    | cons a l ih =>
      intro k
      rw [List.zipIdx_cons, List.pairwise_cons]
      refine ⟨fun z hz => ?_, ih (k + 1)⟩
      have := List.le_snd_of_mem_zipIdx hz
      show k < z.2
      omega
  exact this _ 0
theorem told_eq {n : Nat} (hn : n ≤ 4) {g : List Vamete.Turn} (hg : Grown n g) : (idxs n g).length = g.length ∧ (idxs n g).map (fun (i : Nat) => (i : Int)) = VametBase.sorted (g.map fun t => (((Vamete.allTurns n).findIdx fun s => s == t : Nat) : Int)) := by
  have nd1 : (idxs n g).Nodup := (idxs_sorted n g).imp fun h => Nat.ne_of_lt h
  have hinj : ∀ t ∈ g, ∀ u ∈ g, ((Vamete.allTurns n).findIdx fun s => s == t) = ((Vamete.allTurns n).findIdx fun s => s == u) → t = u := fun t ht u hu e => by
    have h1 := (idx_at (hg.mem t ht)).1
    have h2 := (idx_at (hg.mem u hu)).1
    rw [e, h2] at h1
    injection h1 with h1
    exact h1.symm
  have nd2 : (g.map fun t => ((Vamete.allTurns n).findIdx fun s => s == t)).Nodup := by
    have hnd := hg.nd
    clear nd1
    have : ∀ L : List Vamete.Turn, L.Nodup → (∀ t ∈ L, t ∈ g) → (L.map fun t => ((Vamete.allTurns n).findIdx fun s => s == t)).Nodup := by
      intro L
      induction L with
      | nil => intro _ _; exact .nil
      | cons a L ih =>
        intro hL hs
        rw [List.nodup_cons] at hL
        rw [List.map_cons, List.nodup_cons]
        refine ⟨fun hm => ?_, ih hL.2 fun t ht => hs t (List.mem_cons_of_mem _ ht)⟩
        obtain ⟨u, hu, e⟩ := List.mem_map.mp hm
        have := hinj u (hs u (List.mem_cons_of_mem _ hu)) a (hs a List.mem_cons_self) e
        exact hL.1 (this ▸ hu)
    exact this g hnd fun t ht => ht
  have hmem : ∀ i, i ∈ idxs n g ↔ i ∈ g.map fun t => ((Vamete.allTurns n).findIdx fun s => s == t) := fun i => by
    rw [mem_idxs, List.mem_map]
    constructor
    · rintro ⟨t, h1, h2⟩
      refine ⟨t, h2, ?_⟩
      obtain ⟨g1, g2, g3⟩ := idx_at (List.mem_of_getElem? h1)
      rcases Nat.lt_trichotomy ((Vamete.allTurns n).findIdx fun s => s == t) i with hlt | heq | hgt
      · obtain ⟨a1, a2⟩ := List.getElem?_eq_some_iff.mp h1
        obtain ⟨a3, a4⟩ := List.getElem?_eq_some_iff.mp g1
        exact absurd (a4.trans a2.symm) (List.pairwise_iff_getElem.mp (turns_nodup hn) _ i a3 a1 hlt)
      · exact heq
      · exact absurd h1 (g2 i hgt)
    · rintro ⟨t, ht, rfl⟩
      exact ⟨t, (idx_at (hg.mem t ht)).1, ht⟩
  have hperm : (idxs n g).Perm (g.map fun t => ((Vamete.allTurns n).findIdx fun s => s == t)) := (List.perm_ext_iff_of_nodup nd1 nd2).mpr hmem
  refine ⟨by rw [hperm.length_eq, List.length_map], ?_⟩
  refine sorted_uniq ?_ ?_
  · have := hperm.map (fun (i : Nat) => (i : Int))
    rw [List.map_map] at this
    exact this
  · rw [List.pairwise_map]
    exact (idxs_sorted n g).imp fun h => by omega
end
end TG
set_option Elab.async false
set_option linter.all false
set_option maxRecDepth 100000
set_option maxHeartbeats 2000000
namespace TG
open PySem PySem.Spec PyProof.Rows L2
open Evl (Ex ex_l ex_t fresh_back)
section
variable {P : Program} {w : World} {K : PySem.W.Frag} {mg : Str → Option Value} {base : Heap} {CR CD : Addr}
/-! ### plain laws: orbits -/
theorem lex_find : ∀ (x y : List Int), x.length = y.length → ((x.zip y).find? fun z => z.1 != z.2).any (fun z => decide (z.1 < z.2)) = decide (x < y)
  | [], [], _ => rfl
  | [], _ :: _, h => by simp at h
  | _ :: _, [], h => by simp at h
  | a :: x, b :: y, h => by
    rw [List.zip_cons_cons, List.find?_cons]
    by_cases hab : a = b
    · subst hab
      have : (a != a) = false := by simp
      simp only [this]
      rw [lex_find x y (by simpa using h)]
      by_cases hxy : x < y
      · rw [decide_eq_true hxy, decide_eq_true (List.cons_lt_cons_iff.mpr (.inr ⟨rfl, hxy⟩))]
      · rw [decide_eq_false hxy, decide_eq_false fun z => ?_]
        rcases List.cons_lt_cons_iff.mp z with z | z
        · exact absurd z (Int.lt_irrefl a)
        · exact hxy z.2
    · have : (a != b) = true := by simpa using hab
      simp only [this]
      show decide (a < b) = _
      by_cases hlt : a < b
      · rw [decide_eq_true hlt, decide_eq_true (List.cons_lt_cons_iff.mpr (.inl hlt))]
      · rw [decide_eq_false hlt, decide_eq_false fun z => ?_]
        rcases List.cons_lt_cons_iff.mp z with z | z
        · exact hlt z
        · exact hab z.1
theorem put_mem {n : Nat} {x : List Int} (hx : x.length = n) : ∀ (l : List (List Int)), ∀ y, y ∈ Vamete.putRow x l ↔ y = x ∨ y ∈ l
  | [], y => by show y ∈ [x] ↔ _; simp
  | a :: l, y => by
    show y ∈ (if x = a then a :: l else if ((x.zip a).find? fun z => z.1 != z.2).any (fun z => decide (z.1 < z.2)) then x :: a :: l else a :: Vamete.putRow x l) ↔ _
    split
    · rename_i h
      subst h
      simp
    · split
      · simp
      · rw [List.mem_cons, put_mem hx l y, List.mem_cons]
        constructor
        · rintro (h | h | h)
          · exact .inr (.inl h)
          · exact .inl h
          · exact .inr (.inr h)
        · rintro (h | h | h)
          · exact .inr (.inl h)
          · exact .inl h
          · exact .inr (.inr h)
theorem put_sorted {n : Nat} {x : List Int} (hx : x.length = n) : ∀ (l : List (List Int)), (∀ y ∈ l, y.length = n) → l.Pairwise (· < ·) → (Vamete.putRow x l).Pairwise (· < ·)
  | [], _, _ => by show [x].Pairwise (· < ·); exact List.pairwise_singleton _ _
  | a :: l, hl, hs => by
    show (if x = a then a :: l else if ((x.zip a).find? fun z => z.1 != z.2).any (fun z => decide (z.1 < z.2)) then x :: a :: l else a :: Vamete.putRow x l).Pairwise (· < ·)
    have ha := hl a List.mem_cons_self
    obtain ⟨h1, h2⟩ := List.pairwise_cons.mp hs
    split
    · exact hs
    · rename_i hne
      rw [lex_find x a (hx.trans ha.symm)]
      split
      · rename_i hlt
        have hlt := of_decide_eq_true hlt
        refine List.pairwise_cons.mpr ⟨fun y hy => ?_, hs⟩
        rcases List.mem_cons.mp hy with rfl | hy
        · exact hlt
        · exact List.lt_trans hlt (h1 y hy)
      · rename_i hnlt
        have hnlt : ¬ x < a := fun z => hnlt (decide_eq_true z)
        have hax : a < x := by
          rcases Std.lt_trichotomy a x with h | h | h
          · exact h
          · exact absurd h.symm hne
          · exact absurd h hnlt
        refine List.pairwise_cons.mpr ⟨fun y hy => ?_, put_sorted hx l (fun y hy => hl y (List.mem_cons_of_mem _ hy)) h2⟩
        rcases (put_mem hx l y).mp hy with rfl | hy
        · exact hax
        · exact h1 y hy
theorem fold_put {n : Nat} {r : List Int} : ∀ (ts : List Vamete.Turn) (l : List (List Int)), (∀ t ∈ ts, Wf n t) → (∀ y ∈ l, y.length = n) → l.Pairwise (· < ·) →
    (∀ y ∈ ts.foldl (fun l t => Vamete.putRow (Vamete.turned t r) l) l, y.length = n) ∧ (ts.foldl (fun l t => Vamete.putRow (Vamete.turned t r) l) l).Pairwise (· < ·) ∧ ∀ y, y ∈ ts.foldl (fun l t => Vamete.putRow (Vamete.turned t r) l) l ↔ (∃ t ∈ ts, y = Vamete.turned t r) ∨ y ∈ l
  | [], l, _, hl, hs => ⟨hl, hs, fun y => by simp⟩
  | t :: ts, l, hw, hl, hs => by
    rw [List.foldl_cons]
    have hlen := turned_len (hw t List.mem_cons_self) r
    have hm := put_mem hlen l
    obtain ⟨a, b, c⟩ := fold_put ts (Vamete.putRow (Vamete.turned t r) l) (fun u hu => hw u (List.mem_cons_of_mem _ hu)) (fun y hy => by
      rcases (hm y).mp hy with rfl | hy
      · exact hlen
      · exact hl y hy) (put_sorted hlen l hl hs)
    refine ⟨a, b, fun y => ?_⟩
    rw [c y, hm y]
    constructor
    · rintro (⟨u, hu, rfl⟩ | rfl | h)
      · exact .inl ⟨u, List.mem_cons_of_mem _ hu, rfl⟩
      · exact .inl ⟨t, List.mem_cons_self, rfl⟩
      · exact .inr h
    · rintro (⟨u, hu, rfl⟩ | h)
      · rcases List.mem_cons.mp hu with rfl | hu
        · exact .inr (.inl rfl)
        · exact .inl ⟨u, hu, rfl⟩
      · exact .inr (.inr h)
theorem keys_mem : ∀ (ts : List Vamete.Turn) (r : List Int) (l : List (List Int)) (y : List Int), y ∈ ts.foldl (fun l t => addK l (Vamete.turned t r)) l ↔ (∃ t ∈ ts, y = Vamete.turned t r) ∨ y ∈ l
  | [], r, l, y => by simp
  | t :: ts, r, l, y => by
    rw [List.foldl_cons, keys_mem ts r]
    have hm : y ∈ addK l (Vamete.turned t r) ↔ y = Vamete.turned t r ∨ y ∈ l := by
      unfold addK
      split
      · rename_i h
        constructor
        · exact .inr
        · rintro (rfl | h')
          · exact h
          · exact h'
      · rw [List.mem_append, List.mem_singleton]
        exact or_comm
    rw [hm]
    constructor
    · rintro (⟨u, hu, rfl⟩ | rfl | h)
      · exact .inl ⟨u, List.mem_cons_of_mem _ hu, rfl⟩
      · exact .inl ⟨t, List.mem_cons_self, rfl⟩
      · exact .inr h
    · rintro (⟨u, hu, rfl⟩ | h)
      · rcases List.mem_cons.mp hu with rfl | hu
        · exact .inr (.inl rfl)
        · exact .inl ⟨u, hu, rfl⟩
      · exact .inr (.inr h)
def sOrbit (ts : List Vamete.Turn) (r : List Int) : List (List Int) := ts.foldl (fun l t => Vamete.putRow (Vamete.turned t r) l) []
theorem mem_pOrbit {ts : List Vamete.Turn} {r y : List Int} : y ∈ pOrbit ts r ↔ ∃ t ∈ ts, y = Vamete.turned t r := by
  unfold pOrbit
  rw [(List.mergeSort_perm _ _).mem_iff]
  unfold keysOf
  rw [keys_mem]
  simp
theorem orbit_eq {n : Nat} {ts : List Vamete.Turn} {r : List Int} (hw : ∀ t ∈ ts, Wf n t) : sOrbit ts r = pOrbit ts r := by
  obtain ⟨h1, h2, h3⟩ := fold_put (r := r) ts [] hw (fun _ h => absurd h List.not_mem_nil) .nil
  have hk := keys_each ts r [] hw (fun _ h => absurd h List.not_mem_nil) .nil
  have nd1 : (sOrbit ts r).Nodup := h2.imp fun h => fun e => by
    rw [e] at h
    exact absurd h (List.lt_irrefl _)
  have nd2 : (pOrbit ts r).Nodup := (List.mergeSort_perm _ _).nodup_iff.mpr hk.2
  have hperm : (sOrbit ts r).Perm (pOrbit ts r) := (List.perm_ext_iff_of_nodup nd1 nd2).mpr fun y => by
    rw [mem_pOrbit]
    have := h3 y
    simp only [List.not_mem_nil, or_false] at this
    exact this
  refine List.Perm.eq_of_pairwise (le := fun a b => leRow a b = true) (fun a b _ _ x y => ?_) ?_ ?_ hperm
  · exact List.le_antisymm (of_decide_eq_true x) (of_decide_eq_true y)
  · exact h2.imp fun h => decide_eq_true (List.le_of_lt h)
  · unfold pOrbit
    refine List.pairwise_mergeSort ?_ ?_ _
    · intro a b c x y
      exact decide_eq_true (List.le_trans (of_decide_eq_true x) (of_decide_eq_true y))
    · intro a b
      rcases List.le_total a b with h | h
      · rw [show leRow a b = true from decide_eq_true h]; rfl
      · rw [show leRow b a = true from decide_eq_true h, Bool.or_true]
end
end TG
set_option Elab.async false
set_option linter.all false
set_option maxRecDepth 100000
set_option maxHeartbeats 2000000
namespace TG
open PySem PySem.Spec PyProof.Rows L2
open Evl (Ex ex_l ex_t fresh_back)
section
variable {P : Program} {w : World} {K : PySem.W.Frag} {mg : Str → Option Value} {base : Heap} {CR CD : Addr}
/-! ### plain laws: the group acts -/
open Vamete (Turn after same turned)
theorem zip_at {α β : Type} {l : List α} {m : List β} {i : Nat} (h1 : i < l.length) (h2 : i < m.length) : (l.zip m)[i]? = some (l[i], m[i]) := by
  rw [List.getElem?_eq_getElem (by rw [List.length_zip]; omega), List.getElem_zip]
theorem turned_at {n : Nat} {t : Turn} (w : Wf n t) (x : List Int) (i : Nat) (hi : i < n) : (turned t x)[i]? = some (Vamete.signed ((t.signs[i]?).getD false) ((x[(t.places[i]?).getD 0]?).getD 0)) := by
  unfold Vamete.turned
  have h1 : i < t.places.length := by rw [w.pl]; exact hi
  have h2 : i < t.signs.length := by rw [w.sl]; exact hi
  rw [List.getElem?_map, zip_at h1 h2, List.getElem?_eq_getElem h1, List.getElem?_eq_getElem h2]
  rfl
theorem signed_signed (a b : Bool) (x : Int) : Vamete.signed (a != b) x = Vamete.signed a (Vamete.signed b x) := by
  unfold Vamete.signed
  cases a <;> cases b <;> simp
theorem turned_after {n : Nat} {t s : Turn} (wt : Wf n t) (ws : Wf n s) (wa : Wf n (after t s)) (x : List Int) : turned (after t s) x = turned t (turned s x) := by
  refine List.ext_getElem? fun i => ?_
  by_cases hi : i < n
  · rw [turned_at wa x i hi, turned_at wt _ i hi]
    have h1 : i < t.places.length := by rw [wt.pl]; exact hi
    have h2 : i < t.signs.length := by rw [wt.sl]; exact hi
    have hp : t.places[i] < n := wt.lt _ (List.getElem_mem h1)
    have e1 : (after t s).places[i]? = some ((s.places[t.places[i]]?).getD 0) := by
      show (t.places.map fun p => (s.places[p]?).getD 0)[i]? = _
      rw [List.getElem?_map, List.getElem?_eq_getElem h1]
      rfl
    have e2 : (after t s).signs[i]? = some (t.signs[i] != (s.signs[t.places[i]]?).getD false) := by
      show ((t.places.zip t.signs).map fun p => p.2 != (s.signs[p.1]?).getD false)[i]? = _
      rw [List.getElem?_map, zip_at h1 h2]
      rfl
    rw [e1, e2, List.getElem?_eq_getElem h1, List.getElem?_eq_getElem h2]
    show some (Vamete.signed (t.signs[i] != (s.signs[t.places[i]]?).getD false) ((x[(s.places[t.places[i]]?).getD 0]?).getD 0)) = some (Vamete.signed t.signs[i] (((turned s x)[t.places[i]]?).getD 0))
    rw [turned_at ws x _ hp, signed_signed]
    rfl
  · have l1 : (turned (after t s) x).length = n := turned_len wa x
    have l2 : (turned t (turned s x)).length = n := turned_len wt _
    rw [List.getElem?_eq_none (by omega), List.getElem?_eq_none (by omega)]
theorem turned_same {n : Nat} {x : List Int} (hx : x.length = n) : turned (same n) x = x := by
  have w : Wf n (same n) := ⟨List.length_range, List.length_replicate, fun p hp => List.mem_range.mp hp⟩
  refine List.ext_getElem? fun i => ?_
  by_cases hi : i < n
  · rw [turned_at w x i hi]
    have e1 : (same n).places[i]? = some i := List.getElem?_range hi
    have e2 : (same n).signs[i]? = some false := by
      show (List.replicate n false)[i]? = _
      rw [List.getElem?_replicate, if_pos hi]
    have hix : i < x.length := by omega
    rw [e1, e2]
    show some (Vamete.signed false ((x[i]?).getD 0)) = _
    rw [List.getElem?_eq_getElem hix]
    rfl
  · have l1 : (turned (same n) x).length = n := turned_len w x
    rw [List.getElem?_eq_none (by omega), List.getElem?_eq_none (by omega)]
def powT (n : Nat) (t : Turn) : Nat → Turn
  | 0 => same n
  | k + 1 => after t (powT n t k)
theorem pow24 {n : Nat} (h : n ≤ 4) : ∀ t ∈ Vamete.allTurns n, powT n t 24 = same n := by
  rcases small4 h with rfl | rfl | rfl | rfl | rfl <;> decide +kernel
end
end TG
set_option Elab.async false
set_option linter.all false
set_option maxRecDepth 100000
set_option maxHeartbeats 2000000
namespace TG
open PySem PySem.Spec PyProof.Rows L2
open Evl (Ex ex_l ex_t fresh_back)
section
variable {P : Program} {w : World} {K : PySem.W.Frag} {mg : Str → Option Value} {base : Heap} {CR CD : Addr}
/-! ### plain laws: what grows is closed -/
open Vamete (Turn after same turned)
inductive Word (n : Nat) (gs : List Turn) : Turn → Prop
  | one : Word n gs (same n)
  | more {g t : Turn} : g ∈ gs → Word n gs t → Word n gs (after g t)
theorem add_fold (t : Turn) : ∀ (gs L : List Turn), (∀ x ∈ L, x ∈ gs.foldl (addOne t) L) ∧ (∀ g ∈ gs, after g t ∈ gs.foldl (addOne t) L) ∧ ∀ x ∈ gs.foldl (addOne t) L, x ∈ L ∨ ∃ g ∈ gs, x = after g t
  | [], L => ⟨fun _ h => h, fun _ h => absurd h List.not_mem_nil, fun _ h => .inl h⟩
  | g :: gs, L => by
    rw [List.foldl_cons]
    obtain ⟨a, b, c⟩ := add_fold t gs (addOne t L g)
    have h1 : ∀ x ∈ L, x ∈ addOne t L g := fun x hx => by
      unfold addOne
      split
      · exact hx
      · exact List.mem_append_left _ hx
    have h2 : after g t ∈ addOne t L g := by
      unfold addOne
      split
      · rename_i h; simpa using h
      · exact List.mem_append_right _ List.mem_cons_self
    have h3 : ∀ x ∈ addOne t L g, x ∈ L ∨ x = after g t := fun x hx => by
      unfold addOne at hx
      split at hx
      · exact .inl hx
      · rcases List.mem_append.mp hx with hx | hx
        · exact .inl hx
        · exact .inr (List.mem_singleton.mp hx)
    refine ⟨fun x hx => a x (h1 x hx), fun u hu => ?_, fun x hx => ?_⟩
    · rcases List.mem_cons.mp hu with rfl | hu
      · exact a _ h2
      · exact b u hu
    · rcases c x hx with h | ⟨u, hu, rfl⟩
      · rcases h3 x h with h | h
        · exact .inl h
        · exact .inr ⟨g, List.mem_cons_self, h⟩
      · exact .inr ⟨u, List.mem_cons_of_mem _ hu, rfl⟩
/-- what the growing holds at place i -/
structure GrowI (n : Nat) (gs : List Turn) (i : Nat) (L : List Turn) : Prop where
  ok : Grown n L
  one : same n ∈ L
  wd : ∀ t ∈ L, Word n gs t
  done : ∀ j, j < i → ∀ t, L[j]? = some t → ∀ g ∈ gs, after g t ∈ L
theorem grow_closed {n : Nat} (hn : n ≤ 4) {gs : List Turn} (hg : ∀ g ∈ gs, g ∈ Vamete.allTurns n) : ∀ (f i : Nat) (L : List Turn), GrowI n gs i L → i ≤ L.length → (Vamete.allTurns n).length + 1 ≤ f + i → ∃ i', GrowI n gs i' (Vamete.growFrom gs f i L) ∧ (Vamete.growFrom gs f i L).length ≤ i'
  | 0, i, L, h, hi, hf => by
    have := nodup_len h.ok.nd h.ok.mem
    omega
  | f + 1, i, L, h, hi, hf => by
    cases ht : L[i]? with
    | none =>
      rw [grow_end ht]
      exact ⟨i, h, List.getElem?_eq_none_iff.mp ht⟩
    | some t =>
      rw [grow_at ht]
      have hlt := (List.getElem?_eq_some_iff.mp ht).1
      have htm := List.mem_of_getElem? ht
      obtain ⟨a, b, c⟩ := add_fold t gs L
      have hL : Grown n (gs.foldl (addOne t) L) := by
        have hx := grow_ok hn hg 1 i L h.ok
        rw [grow_at ht] at hx
        exact hx
      have hget : ∀ j u, L[j]? = some u → (gs.foldl (addOne t) L)[j]? = some u := fun j u hj => fold_get gs L hj
      have hlen : L.length ≤ (gs.foldl (addOne t) L).length := nodup_len h.ok.nd a
      refine grow_closed hn hg f (i + 1) _ ⟨hL, a _ h.one, fun u hu => ?_, fun j hj u hu g hg' => ?_⟩ (by show i + 1 ≤ (gs.foldl (addOne t) L).length; omega) (by omega)
      · rcases c u hu with h1 | ⟨g, hg', rfl⟩
        · exact h.wd u h1
        · exact .more hg' (h.wd t htm)
      · by_cases hji : j < i
        · have hjl : j < L.length := by omega
          have e1 := hget j _ (List.getElem?_eq_getElem hjl)
          have hu : (gs.foldl (addOne t) L)[j]? = some u := hu
          rw [hu] at e1
          injection e1 with e1
          exact a _ (h.done j hji u (by rw [e1, List.getElem?_eq_getElem hjl]) g hg')
        · have hj' : j = i := by omega
          subst hj'
          have e1 := hget j t ht
          have hu : (gs.foldl (addOne t) L)[j]? = some u := hu
          rw [hu] at e1
          injection e1 with e1
          rw [e1]
          exact b g hg'
theorem gen_closed {n : Nat} (hn : n ≤ 4) {gs : List Turn} (hg : ∀ g ∈ gs, g ∈ Vamete.allTurns n) : same n ∈ Vamete.generated n gs ∧ (∀ t ∈ Vamete.generated n gs, Word n gs t) ∧ ∀ t ∈ Vamete.generated n gs, ∀ g ∈ gs, after g t ∈ Vamete.generated n gs := by
  obtain ⟨i', h, hl⟩ := grow_closed hn hg ((Vamete.allTurns n).length + 1) 0 [same n] ⟨⟨fun t ht => by rw [List.mem_singleton.mp ht]; exact same_mem hn, List.nodup_cons.mpr ⟨List.not_mem_nil, .nil⟩⟩, List.mem_cons_self, fun t ht => by rw [List.mem_singleton.mp ht]; exact .one, fun j hj => absurd hj (Nat.not_lt_zero _)⟩ (Nat.zero_le _) (by omega)
  refine ⟨h.one, h.wd, fun t ht g hg' => ?_⟩
  obtain ⟨j, hj1, hj2⟩ := List.mem_iff_getElem.mp ht
  have hj1' : j < (Vamete.generated n gs).length := hj1
  have hl' : (Vamete.generated n gs).length ≤ i' := hl
  exact h.done j (by omega) t (by
    show (Vamete.generated n gs)[j]? = some t
    rw [List.getElem?_eq_getElem hj1', hj2]) g hg'
end
end TG
set_option Elab.async false
set_option linter.all false
set_option maxRecDepth 100000
set_option maxHeartbeats 2000000
namespace TG
open PySem PySem.Spec PyProof.Rows L2
open Evl (Ex ex_l ex_t fresh_back)
section
variable {P : Program} {w : World} {K : PySem.W.Frag} {mg : Str → Option Value} {base : Heap} {CR CD : Addr}
/-! ### plain laws: orbits part the rows -/
open Vamete (Turn after same turned)
section
variable {n : Nat} {gs : List Turn}
def Rl (n : Nat) (gs : List Turn) (x y : List Int) : Prop := ∃ t ∈ Vamete.generated n gs, y = turned t x
theorem rl_refl (hn : n ≤ 4) (hg : ∀ g ∈ gs, g ∈ Vamete.allTurns n) {x : List Int} (hx : x.length = n) : Rl n gs x x := ⟨same n, (gen_closed hn hg).1, (turned_same hx).symm⟩
theorem word_mem (hn : n ≤ 4) (hg : ∀ g ∈ gs, g ∈ Vamete.allTurns n) {t : Turn} (h : Word n gs t) : t ∈ Vamete.allTurns n := by
  induction h with
  | one => exact same_mem hn
  | more hgm _ ih => exact after_mem hn (hg _ hgm) ih
theorem rl_word (hn : n ≤ 4) (hg : ∀ g ∈ gs, g ∈ Vamete.allTurns n) {x y : List Int} (hxy : Rl n gs x y) {t : Turn} (h : Word n gs t) : Rl n gs x (turned t y) := by
  obtain ⟨s, hs, rfl⟩ := hxy
  have hsm := (gen_ok hn hg).mem s hs
  induction h with
  | one => exact ⟨s, hs, turned_same (turned_len (turn_wf hn hsm) x)⟩
  | @more g t hgm hw ih =>
    obtain ⟨u, hu, e⟩ := ih
    have hum := (gen_ok hn hg).mem u hu
    have htm := word_mem hn hg hw
    have hgm' := hg g hgm
    refine ⟨after g u, (gen_closed hn hg).2.2 u hu g hgm, ?_⟩
    rw [turned_after (turn_wf hn hgm') (turn_wf hn htm) (turn_wf hn (after_mem hn hgm' htm)), e, turned_after (turn_wf hn hgm') (turn_wf hn hum) (turn_wf hn (after_mem hn hgm' hum))]
theorem rl_trans (hn : n ≤ 4) (hg : ∀ g ∈ gs, g ∈ Vamete.allTurns n) {x y z : List Int} (h1 : Rl n gs x y) (h2 : Rl n gs y z) : Rl n gs x z := by
  obtain ⟨t, ht, rfl⟩ := h2
  exact rl_word hn hg h1 ((gen_closed hn hg).2.1 t ht)
theorem pow_mem (hn : n ≤ 4) {t : Turn} (ht : t ∈ Vamete.allTurns n) : ∀ k, powT n t k ∈ Vamete.allTurns n
  | 0 => same_mem hn
  | k + 1 => after_mem hn ht (pow_mem hn ht k)
theorem rl_pow (hn : n ≤ 4) (hg : ∀ g ∈ gs, g ∈ Vamete.allTurns n) {t : Turn} (ht : t ∈ Vamete.generated n gs) {x : List Int} (hx : x.length = n) : ∀ k, Rl n gs (turned t x) (turned (powT n t (k + 1)) x)
  | 0 => by
    have htm := (gen_ok hn hg).mem t ht
    have e : turned (powT n t 1) x = turned t x := by
      show turned (after t (same n)) x = _
      rw [turned_after (turn_wf hn htm) (turn_wf hn (same_mem hn)) (turn_wf hn (after_mem hn htm (same_mem hn))), turned_same hx]
    rw [e]
    exact rl_refl hn hg (turned_len (turn_wf hn htm) x)
  | k + 1 => by
    have htm := (gen_ok hn hg).mem t ht
    have hp := pow_mem hn htm (k + 1)
    have e : turned (powT n t (k + 1 + 1)) x = turned t (turned (powT n t (k + 1)) x) := turned_after (turn_wf hn htm) (turn_wf hn hp) (turn_wf hn (after_mem hn htm hp)) x
    rw [e]
    exact rl_word hn hg (rl_pow hn hg ht hx k) ((gen_closed hn hg).2.1 t ht)
theorem rl_symm (hn : n ≤ 4) (hg : ∀ g ∈ gs, g ∈ Vamete.allTurns n) {x y : List Int} (hx : x.length = n) (h : Rl n gs x y) : Rl n gs y x := by
  obtain ⟨t, ht, rfl⟩ := h
  have htm := (gen_ok hn hg).mem t ht
  have := rl_pow hn hg ht hx 23
  rw [pow24 hn t htm, turned_same hx] at this
  exact this
end
end
end TG
set_option Elab.async false
set_option linter.all false
set_option maxRecDepth 100000
set_option maxHeartbeats 2000000
namespace TG
open PySem PySem.Spec PyProof.Rows L2
open Evl (Ex ex_l ex_t fresh_back)
section
variable {P : Program} {w : World} {K : PySem.W.Frag} {mg : Str → Option Value} {base : Heap} {CR CD : Addr}
/-! ### plain laws: counting orbits -/
open Vamete (Turn after same turned)
theorem addK_mem {ks : List (List Int)} {k y : List Int} : y ∈ addK ks k ↔ y ∈ ks ∨ y = k := by
  unfold addK
  split
  · rename_i h
    constructor
    · exact .inl
    · rintro (h' | rfl)
      · exact h'
      · exact h
  · rw [List.mem_append, List.mem_singleton]
theorem addK_fold_mem : ∀ (l ks : List (List Int)) (y : List Int), y ∈ l.foldl addK ks ↔ y ∈ ks ∨ y ∈ l
  | [], ks, y => by simp
  | a :: l, ks, y => by
    rw [List.foldl_cons, addK_fold_mem l, addK_mem, List.mem_cons, or_assoc]
theorem head_least {n : Nat} {ts : List Turn} {x : List Int} (hw : ∀ t ∈ ts, Wf n t) (hself : ∃ t ∈ ts, x = turned t x) : ((sOrbit ts x).head? == some x) = true ↔ ∀ t ∈ ts, ¬ turned t x < x := by
  obtain ⟨h1, h2, h3⟩ := fold_put (r := x) ts [] hw (fun _ h => absurd h List.not_mem_nil) .nil
  have hm : ∀ y, y ∈ sOrbit ts x ↔ ∃ t ∈ ts, y = turned t x := fun y => by
    have := h3 y
    simp only [List.not_mem_nil, or_false] at this
    exact this
  have hs : (sOrbit ts x).Pairwise (· < ·) := h2
  generalize sOrbit ts x = S at hm hs
  cases S with
  | nil => exact absurd ((hm x).mpr hself) List.not_mem_nil
  | cons a S =>
    obtain ⟨p1, p2⟩ := List.pairwise_cons.mp hs
    show (some a == some x) = true ↔ _
    constructor
    · intro h
      have h : a = x := by simpa using h
      subst h
      intro t ht hlt
      have := (hm (turned t a)).mpr ⟨t, ht, rfl⟩
      rcases List.mem_cons.mp this with e | hin
      · rw [e] at hlt; exact List.lt_irrefl _ hlt
      · exact List.lt_irrefl _ (List.lt_trans hlt (p1 _ hin))
    · intro h
      have hx := (hm x).mpr hself
      rcases List.mem_cons.mp hx with e | hin
      · rw [e]; simp
      · obtain ⟨t, ht, e⟩ := (hm a).mp List.mem_cons_self
        exact absurd (by rw [← e]; exact p1 _ hin) (h t ht)
theorem many_inv {n : Nat} (hn : n ≤ 4) {gs : List Turn} (hg : ∀ g ∈ gs, g ∈ Vamete.allTurns n) (rows : List (List Int)) (hlen : ∀ r ∈ rows, r.length = n) (hcl : ∀ r ∈ rows, ∀ t ∈ Vamete.generated n gs, turned t r ∈ rows) (hsort : rows.Pairwise (· < ·)) :
    ∀ j, j ≤ rows.length → ((rows.take j).foldl (manyStep (Vamete.generated n gs)) (0, [])).1 = ((rows.take j).filter fun x => (sOrbit (Vamete.generated n gs) x).head? == some x).length ∧
      ∀ y, y ∈ ((rows.take j).foldl (manyStep (Vamete.generated n gs)) (0, [])).2 ↔ ∃ x ∈ rows.take j, Rl n gs x y
  | 0, _ => ⟨rfl, fun y => by simp⟩
  | j + 1, hj => by
    obtain ⟨h1, h2⟩ := many_inv hn hg rows hlen hcl hsort j (by omega)
    have hr := List.getElem?_eq_getElem (l := rows) (i := j) (by omega)
    have hrm : rows[j] ∈ rows := List.getElem_mem _
    have hwf : ∀ t ∈ Vamete.generated n gs, Wf n t := fun t ht => turn_wf hn ((gen_ok hn hg).mem t ht)
    have hself := rl_refl hn hg (hlen _ hrm)
    have hstep : (rows.take (j + 1)).foldl (manyStep (Vamete.generated n gs)) (0, []) = manyStep (Vamete.generated n gs) ((rows.take j).foldl (manyStep (Vamete.generated n gs)) (0, [])) rows[j] := by
      rw [List.take_add_one, hr, List.foldl_append]; rfl
    have htake : rows.take (j + 1) = rows.take j ++ [rows[j]] := by rw [List.take_add_one, hr]; rfl
    have hbefore : ∀ y ∈ rows, y < rows[j] → y ∈ rows.take j := fun y hy hlt => by
      obtain ⟨i, hi, rfl⟩ := List.mem_iff_getElem.mp hy
      rcases Nat.lt_trichotomy i j with h | h | h
      · rw [List.mem_take_iff_getElem]
        exact ⟨i, by omega, rfl⟩
      · subst h; exact absurd hlt (List.lt_irrefl _)
      · exact absurd (List.lt_trans hlt (List.pairwise_iff_getElem.mp hsort j i (by omega) hi h)) (List.lt_irrefl _)
    have hafter : ∀ y ∈ rows.take j, y < rows[j] := fun y hy => by
      obtain ⟨i, hi, rfl⟩ := List.mem_take_iff_getElem.mp hy
      exact List.pairwise_iff_getElem.mp hsort i j (by omega) (by omega) (by omega)
    have hkey : rows[j] ∈ ((rows.take j).foldl (manyStep (Vamete.generated n gs)) (0, [])).2 ↔ ¬ ((sOrbit (Vamete.generated n gs) rows[j]).head? == some rows[j]) = true := by
      rw [h2, head_least hwf hself]
      constructor
      · rintro ⟨x, hx, hR⟩ hall
        obtain ⟨t, ht, e⟩ := rl_symm hn hg (hlen x (List.mem_of_mem_take hx)) hR
        exact hall t ht (by rw [← e]; exact hafter x hx)
      · intro hnot
        simp only [Classical.not_forall, Classical.not_not] at hnot
        obtain ⟨t, ht, hlt⟩ := hnot
        have hmem := hcl _ hrm t ht
        exact ⟨turned t rows[j], hbefore _ hmem hlt, rl_symm hn hg (hlen _ hrm) ⟨t, ht, rfl⟩⟩
    rw [hstep, htake, List.filter_append, List.length_append]
    generalize (rows.take j).foldl (manyStep (Vamete.generated n gs)) (0, []) = M at h1 h2 hkey
    unfold manyStep
    by_cases hin : rows[j] ∈ M.2
    · rw [if_pos hin]
      have hno := hkey.mp hin
      have e : ([rows[j]].filter fun x => (sOrbit (Vamete.generated n gs) x).head? == some x) = [] := by
        rw [List.filter_cons, if_neg hno]; rfl
      rw [e]
      refine ⟨h1, fun y => ?_⟩
      rw [h2]
      constructor
      · rintro ⟨x, hx, hR⟩
        exact ⟨x, List.mem_append_left _ hx, hR⟩
      · rintro ⟨x, hx, hR⟩
        rcases List.mem_append.mp hx with hx | hx
        · exact ⟨x, hx, hR⟩
        · rw [List.mem_singleton.mp hx] at hR
          obtain ⟨x', hx', hR'⟩ := (h2 _).mp hin
          exact ⟨x', hx', rl_trans hn hg hR' hR⟩
    · rw [if_neg hin]
      have hyes : ((sOrbit (Vamete.generated n gs) rows[j]).head? == some rows[j]) = true := Classical.byContradiction fun z => hin (hkey.mpr z)
      have e : ([rows[j]].filter fun x => (sOrbit (Vamete.generated n gs) x).head? == some x) = [rows[j]] := by
        rw [List.filter_cons, if_pos hyes]; rfl
      rw [e]
      refine ⟨by show M.1 + 1 = _ + 1; rw [h1], fun y => ?_⟩
      show y ∈ (pOrbit (Vamete.generated n gs) rows[j]).foldl addK M.2 ↔ _
      rw [addK_fold_mem, h2, mem_pOrbit]
      constructor
      · rintro (⟨x, hx, hR⟩ | ⟨t, ht, rfl⟩)
        · exact ⟨x, List.mem_append_left _ hx, hR⟩
        · exact ⟨rows[j], List.mem_append_right _ List.mem_cons_self, t, ht, rfl⟩
      · rintro ⟨x, hx, hR⟩
        rcases List.mem_append.mp hx with hx | hx
        · exact .inl ⟨x, hx, hR⟩
        · rw [List.mem_singleton.mp hx] at hR
          exact .inr hR
end
end TG
set_option Elab.async false
set_option linter.all false
set_option maxRecDepth 100000
set_option maxHeartbeats 2000000
namespace TG
open PySem PySem.Spec PyProof.Rows L2
open Evl (Ex ex_l ex_t fresh_back)
section
variable {P : Program} {w : World} {K : PySem.W.Frag} {mg : Str → Option Value} {base : Heap} {CR CD : Addr}
open VametBase (readStep readNat readInt readProgram readTimes readCond readRel readRelation readRow readListed readPair)
open Vamete (Turn after same turned)
/-! ### plain laws: each call -/
theorem rgI_sorted (lo : Int) (n : Nat) : (rgI lo n).Pairwise (· < ·) := by
  unfold rgI
  rw [List.pairwise_map]
  exact List.pairwise_lt_range.imp fun h => by omega
theorem pRows_sorted (h : Nat) : ∀ n, (pRows h n).Pairwise (· < ·)
  | 0 => List.pairwise_singleton _ _
  | n + 1 => by
    rw [rows_front]
    have ih := pRows_sorted h n
    have hd := rgI_sorted (0 - (h : Int)) (2 * h + 1)
    generalize rgI (0 - (h : Int)) (2 * h + 1) = L at hd
    induction L with
    | nil => exact .nil
    | cons a L ihL =>
      obtain ⟨h1, h2⟩ := List.pairwise_cons.mp hd
      rw [List.flatMap_cons, List.pairwise_append]
      refine ⟨?_, ihL h2, ?_⟩
      · rw [List.pairwise_map]
        exact ih.imp fun h => List.cons_lt_cons_iff.mpr (.inr ⟨rfl, h⟩)
      · intro x hx y hy
        obtain ⟨r, _, rfl⟩ := List.mem_map.mp hx
        obtain ⟨b, hb, hy⟩ := List.mem_flatMap.mp hy
        obtain ⟨r', _, rfl⟩ := List.mem_map.mp hy
        exact List.cons_lt_cons_iff.mpr (.inl (h1 b hb))
theorem count_eq {st : Vamete.State} (ok : okSt st) {l : List Int} (hl : l.all (isTurn st) = true) : Vamete.orbitCount st.places (l.map (turnOf st)) (Vamete.rows st) = pMany (genOf st l) (rowsS st) := by
  rw [rows_eq]
  have hg : ∀ g ∈ l.map (turnOf st), g ∈ Vamete.allTurns st.places := fun g hg => by
    obtain ⟨k, hk, rfl⟩ := List.mem_map.mp hg
    exact (turn_get (List.all_eq_true.mp hl k hk)).2.1
  have hgm := (gen_ok ok.1 hg).mem
  have := (many_inv ok.1 hg (rowsS st) (pRows_each st.high st.places) (fun r hr t ht => turned_mem (turn_wf ok.1 (hgm t ht)) hr) (pRows_sorted st.high st.places) (rowsS st).length (Nat.le_refl _)).1
  rw [List.take_length] at this
  exact this.symm
theorem numbers_eq {st : Vamete.State} (ok : okSt st) {g : List Turn} (hg : Grown st.places g) : Vamete.numbersTold st g = (g.length : Int) :: VametBase.sorted (g.map fun t => (idxOf st t : Int)) := by
  obtain ⟨h1, h2⟩ := told_eq ok.1 hg
  show ((idxs st.places g).length : Int) :: (idxs st.places g).map VametBase.int = _
  rw [h1]
  exact congrArg _ h2
theorem unlike_neg (st : Vamete.State) (t : Turn) : decide (unlikeN st t < 0) = (Vamete.unlikeAt st.first (rowsS st) t).isNone := by
  unfold unlikeN
  cases Vamete.unlikeAt st.first (rowsS st) t with
  | none => rfl
  | some i =>
    show decide ((i : Int) < 0) = false
    exact decide_eq_false (by omega)
theorem grp_eq {st : Vamete.State} (ok : okSt st) : Vamete.numbersTold st (Vamete.groupOf st.first st.places (Vamete.rows st)) = ansGrp st := by
  rw [rows_eq]
  have e : idxs st.places (Vamete.groupOf st.first st.places (rowsS st)) = grpI st (Vamete.allTurns st.places).length := by
    unfold idxs grpI
    rw [show (Vamete.allTurns st.places).length = (Vamete.allTurns st.places).zipIdx.length by rw [List.length_zipIdx], List.take_length]
    congr 1
    refine List.filter_congr fun z hz => ?_
    have hzm : z.1 ∈ Vamete.allTurns st.places := List.mem_of_getElem? (List.mem_zipIdx_iff_getElem?.mp hz)
    rw [unlike_neg]
    unfold Vamete.groupOf
    cases hh : (Vamete.unlikeAt st.first (rowsS st) z.1).isNone with
    | true => simpa using ⟨hzm, Option.isNone_iff_eq_none.mp hh⟩
    | false =>
      rw [List.contains_eq_mem]
      refine decide_eq_false fun hm => ?_
      have := (List.mem_filter.mp hm).2
      rw [hh] at this
      cases this
  show ((idxs st.places (Vamete.groupOf st.first st.places (rowsS st))).length : Int) :: (idxs st.places (Vamete.groupOf st.first st.places (rowsS st))).map VametBase.int = _
  rw [e]
  rfl
theorem kept_eq (st : Vamete.State) (f : VametBase.Program) (q : VametBase.Relation) : ∀ (v : VametBase.Verdict), ((Vamete.rows st).map (VametBase.verdict f q)).countP (fun u => u == v) = (verdicts st f q).count (vN v) := by
  intro v
  rw [rows_eq]
  unfold verdicts
  rw [List.count_eq_countP, List.countP_map, List.countP_map]
  congr 1
  funext r
  show (VametBase.verdict f q r == v) = (vN (VametBase.verdict f q r) == vN v)
  cases VametBase.verdict f q r <;> cases v <;> rfl
theorem readNat_one (most : Nat) (a : Int) : readNat 0 most [a] = if 0 ≤ a ∧ a ≤ most then some (a.toNat, []) else none := rfl
end
end TG
set_option Elab.async false
set_option linter.all false
set_option maxRecDepth 100000
set_option maxHeartbeats 2000000
namespace TG
open PySem PySem.Spec PyProof.Rows L2
open Evl (Ex ex_l ex_t fresh_back)
section
variable {P : Program} {w : World} {K : PySem.W.Frag} {mg : Str → Option Value} {base : Heap} {CR CD : Addr}
open VametBase (readStep readNat readInt readProgram readTimes readCond readRel readRelation readRow readListed readPair)
open Vamete (Turn after same turned)
/-! ### plain laws: a step -/
theorem step_size {st : Vamete.State} (ok : okSt st) (a b : Int) : Vamete.step st (.size a b) = (stSize st a b, ansSize a b) := by
  show (match readNat 0 4 [a], readNat 0 9 [b] with
    | some a, some b => if 130 < Vamete.countOf a.1 b.1 then Vamete.refused st (-7) else ({ st with places := a.1, high := b.1 }, [VametBase.int (Vamete.countOf a.1 b.1), VametBase.int (Vamete.allTurns a.1).length])
    | _, _ => Vamete.refused st (-1)) = _
  rw [readNat_one, readNat_one]
  unfold stSize ansSize okSize
  by_cases h1 : 0 ≤ a ∧ a ≤ (4 : Nat)
  · rw [if_pos h1]
    by_cases h2 : 0 ≤ b ∧ b ≤ (9 : Nat)
    · rw [if_pos h2]
      have e : (decide (0 ≤ a) && decide (a ≤ 4) && (decide (0 ≤ b) && decide (b ≤ 9))) = true := by
        simp only [Bool.and_eq_true, decide_eq_true_eq]
        exact ⟨⟨h1.1, by omega⟩, h2.1, by omega⟩
      rw [if_pos e, if_pos e]
      show (if 130 < (2 * b.toNat + 1) ^ a.toNat then (st, [(-7 : Int)]) else ({ st with places := a.toNat, high := b.toNat }, [(((2 * b.toNat + 1) ^ a.toNat : Nat) : Int), ((Vamete.allTurns a.toNat).length : Int)])) = _
      rw [pRows_len]
      by_cases h3 : 130 < (2 * b.toNat + 1) ^ a.toNat
      · rw [if_pos h3, if_pos h3, if_pos h3]
      · rw [if_neg h3, if_neg h3, if_neg h3]
        rfl
    · rw [if_neg h2]
      have e : ¬ (decide (0 ≤ a) && decide (a ≤ 4) && (decide (0 ≤ b) && decide (b ≤ 9))) = true := by
        simp only [Bool.and_eq_true, decide_eq_true_eq]
        omega
      rw [if_neg e, if_neg e]
      rfl
  · rw [if_neg h1]
    have e : ¬ (decide (0 ≤ a) && decide (a ≤ 4) && (decide (0 ≤ b) && decide (b ≤ 9))) = true := by
      simp only [Bool.and_eq_true, decide_eq_true_eq]
      omega
    rw [if_neg e, if_neg e]
    rfl
theorem step_program (st : Vamete.State) (k : Int) (l : List Int) : Vamete.step st (.program k l) = (stProg st k l, ansProg k l) := by
  show (match VametBase.whole readProgram l with
    | none => Vamete.refused st (-1)
    | some p => if k = 0 then ({ st with first := p }, [VametBase.int p.length]) else if k = 1 then ({ st with second := p }, [VametBase.int p.length]) else Vamete.refused st (-2)) = _
  unfold stProg ansProg
  cases VametBase.whole readProgram l with
  | none => rfl
  | some p =>
    show (if k = 0 then (({ st with first := p } : Vamete.State), [VametBase.int p.length]) else if k = 1 then ({ st with second := p }, [VametBase.int p.length]) else Vamete.refused st (-2)) = ((if k = 0 ∨ k = 1 then progd st k p else st), (if k = 0 ∨ k = 1 then [(p.length : Int)] else [-2]))
    unfold progd
    by_cases h0 : k = 0
    · simp only [if_pos h0, if_pos (show k = 0 ∨ k = 1 from .inl h0)]
      rfl
    · by_cases h1 : k = 1
      · simp only [if_neg h0, if_pos h1, if_pos (show k = 0 ∨ k = 1 from .inr h1)]
        rfl
      · simp only [if_neg h0, if_neg h1, if_neg (show ¬ (k = 0 ∨ k = 1) from fun h => h.elim h0 h1)]
        rfl
theorem step_compose (st : Vamete.State) (a b : Int) : Vamete.step st (.compose a b) = (st, ansCompose st a b) := by
  show (match Vamete.turnAt st a, Vamete.turnAt st b with
    | some t, some u => (st, [Vamete.number st (after t u)])
    | _, _ => Vamete.refused st (-2)) = _
  rw [turnAt_eq, turnAt_eq]
  unfold ansCompose
  cases isTurn st a <;> cases isTurn st b <;> rfl
theorem step_group {st : Vamete.State} (ok : okSt st) (l : List Int) : Vamete.step st (.generated l) = (st, ansGroup st l) := by
  show Vamete.onTurns st l (fun g => Vamete.numbersTold st (Vamete.generated st.places g)) = _
  rw [onTurns_eq]
  unfold ansGroup
  cases h : l.all (isTurn st) with
  | false => rfl
  | true =>
    show (st, Vamete.numbersTold st (genOf st l)) = _
    rw [numbers_eq ok (genOf_ok ok h)]
    rfl
theorem step_orbit {st : Vamete.State} (ok : okSt st) (l m : List Int) : Vamete.step st (.orbit l m) = (st, ansOrbit st l m) := by
  show (match VametBase.whole readRow m with
    | none => Vamete.refused st (-5)
    | some x => if x.length ≠ st.places then Vamete.refused st (-5) else Vamete.onTurns st l fun g => let o := Vamete.orbit g x
      VametBase.int o.length :: o.flatten) = _
  unfold ansOrbit
  cases VametBase.whole readRow m with
  | none => rfl
  | some x =>
    show (if x.length ≠ st.places then Vamete.refused st (-5) else Vamete.onTurns st l fun g => VametBase.int (Vamete.orbit g x).length :: (Vamete.orbit g x).flatten) = (st, if x.length = st.places then (if l.all (isTurn st) then ((pOrbit (genOf st l) x).length : Int) :: (pOrbit (genOf st l) x).flatten else [-2]) else [-5])
    by_cases hx : x.length = st.places
    · rw [if_neg (fun h => h hx), if_pos hx, onTurns_eq]
      cases h : l.all (isTurn st) with
      | false => rfl
      | true =>
        have e : Vamete.orbit (l.map (turnOf st)) x = pOrbit (genOf st l) x := by
          unfold Vamete.orbit
          rw [hx]
          exact orbit_eq (n := st.places) fun t ht => turn_wf ok.1 ((genOf_ok ok h).mem t ht)
        show (st, VametBase.int (Vamete.orbit (l.map (turnOf st)) x).length :: (Vamete.orbit (l.map (turnOf st)) x).flatten) = _
        rw [e]
        rfl
    · rw [if_pos hx, if_neg hx]
      rfl
theorem step_orbits {st : Vamete.State} (ok : okSt st) (l : List Int) : Vamete.step st (.orbits l) = (st, ansOrbits st l) := by
  show Vamete.onTurns st l (fun g => [VametBase.int (Vamete.orbitCount st.places g (Vamete.rows st))]) = _
  rw [onTurns_eq]
  unfold ansOrbits
  cases h : l.all (isTurn st) with
  | false => rfl
  | true =>
    show (st, [VametBase.int (Vamete.orbitCount st.places (l.map (turnOf st)) (Vamete.rows st))]) = _
    rw [count_eq ok h]
    rfl
theorem step_turn (st : Vamete.State) (k : Int) : Vamete.step st (.turn k) = (st, ansOf st 2 k) := by
  show Vamete.onTurn st k Vamete.turnTold = _
  rw [onTurn_eq]
  rfl
theorem step_back (st : Vamete.State) (k : Int) : Vamete.step st (.back k) = (st, ansOf st 4 k) := by
  show Vamete.onTurn st k (fun t => [Vamete.number st (Vamete.back t)]) = _
  rw [onTurn_eq]
  rfl
theorem alike_eq (st : Vamete.State) (t : Turn) : (match Vamete.unlikeAt st.first (Vamete.rows st) t with
    | none => [(1 : Int)]
    | some i => [0, VametBase.int i]) = ansAlike st t := by
  rw [rows_eq]
  unfold ansAlike unlikeN
  cases Vamete.unlikeAt st.first (rowsS st) t with
  | none => rfl
  | some i =>
    show [0, (i : Int)] = if (i : Int) < 0 then [1] else [0, (i : Int)]
    rw [if_neg (by omega)]
theorem step_alike (st : Vamete.State) (k : Int) : Vamete.step st (.alike k) = (st, ansOf st 8 k) := by
  show Vamete.onTurn st k (fun t => match Vamete.unlikeAt st.first (Vamete.rows st) t with
    | none => [(1 : Int)]
    | some i => [0, VametBase.int i]) = _
  rw [onTurn_eq, alike_eq]
  rfl
theorem step_partner (st : Vamete.State) (k : Int) : Vamete.step st (.partner k) = (st, ansOf st 10 k) := by
  show Vamete.onTurn st k (fun t => match Vamete.partner st.first (Vamete.rows st) t with
    | none => [0]
    | some u => [1, VametBase.int u.1, VametBase.int (Vamete.numberOf u.1 u.2)]) = _
  rw [onTurn_eq, rows_eq]
  rfl
theorem step_grp {st : Vamete.State} (ok : okSt st) : Vamete.step st .group = (st, ansGrp st) := by
  show (st, Vamete.numbersTold st (Vamete.groupOf st.first st.places (Vamete.rows st))) = _
  rw [grp_eq ok]
theorem step_chain (st : Vamete.State) (l m : List Int) : Vamete.step st (.chain l m) = (st, ansChain l m) := by
  show (match VametBase.whole readRelation l, VametBase.whole readRelation m with
    | some a, some b => (st, match Vamete.chained a b with
      | none => [0]
      | some c => 1 :: VametBase.flatRelation c)
    | _, _ => Vamete.refused st (-5)) = _
  unfold ansChain
  cases VametBase.whole readRelation l with
  | none => rfl
  | some a => cases VametBase.whole readRelation m with
    | none => rfl
    | some b => rfl
theorem step_kept (st : Vamete.State) (k : Int) (l : List Int) : Vamete.step st (.kept k l) = (st, ansKept st k l) := by
  show (match Vamete.whichOf st k, VametBase.whole readRelation l with
    | none, _ => Vamete.refused st (-2)
    | some _, none => Vamete.refused st (-5)
    | some f, some q => let l := (Vamete.rows st).map (VametBase.verdict f q)
      (st, [VametBase.int (l.countP fun v => v == VametBase.Verdict.kept), VametBase.int (l.countP fun v => v == VametBase.Verdict.broken), VametBase.int (l.countP fun v => v == VametBase.Verdict.off)])) = _
  unfold ansKept
  cases Vamete.whichOf st k with
  | none => rfl
  | some f => cases VametBase.whole readRelation l with
    | none => rfl
    | some q =>
      show (st, [VametBase.int (((Vamete.rows st).map (VametBase.verdict f q)).countP fun v => v == VametBase.Verdict.kept), VametBase.int (((Vamete.rows st).map (VametBase.verdict f q)).countP fun v => v == VametBase.Verdict.broken), VametBase.int (((Vamete.rows st).map (VametBase.verdict f q)).countP fun v => v == VametBase.Verdict.off)]) = _
      rw [kept_eq, kept_eq, kept_eq]
      rfl
theorem len0 {α : Type} {l : List α} (h : 0 = l.length) : l = [] := List.length_eq_zero_iff.mp h.symm
theorem len1 {α : Type} {l : List α} (h : 1 = l.length) : ∃ a, l = [a] := List.length_eq_one_iff.mp h.symm
theorem len2 {α : Type} {l : List α} (h : 2 = l.length) : ∃ a b, l = [a, b] := match l, h with | [a, b], _ => ⟨a, b, rfl⟩
theorem step_eq {st : Vamete.State} (ok : okSt st) {c : Int} {n : List Int} {r : List (List Int)} (hs : PyVamete.shape c = some (n.length, r.length)) : VameteNeutral.step st (PyVamete.whole ((c :: n) :: r)) = (pState st c n r, pAns st c n r) := by
  have get : ∀ {a b : Nat}, PyVamete.shape c = some (a, b) → a = n.length ∧ b = r.length := fun h => by
    rw [hs] at h
    injection h with h
    injection h with h1 h2
    exact ⟨h1.symm, h2.symm⟩
  rcases shape_cases hs with h | h | h | h | h | h | h | h | h | h | h | h | h
  · obtain ⟨g1, g2⟩ := get (by rw [h]; rfl)
    obtain ⟨a, b, rfl⟩ := len2 g1
    obtain rfl := len0 g2
    subst h
    exact step_size ok a b
  · obtain ⟨g1, g2⟩ := get (by rw [h]; rfl)
    obtain ⟨a, rfl⟩ := len1 g1
    obtain ⟨x, rfl⟩ := len1 g2
    subst h
    exact step_program st a x
  · obtain ⟨g1, g2⟩ := get (by rw [h]; rfl)
    obtain ⟨a, rfl⟩ := len1 g1
    obtain rfl := len0 g2
    subst h
    exact step_turn st a
  · obtain ⟨g1, g2⟩ := get (by rw [h]; rfl)
    obtain ⟨a, b, rfl⟩ := len2 g1
    obtain rfl := len0 g2
    subst h
    exact step_compose st a b
  · obtain ⟨g1, g2⟩ := get (by rw [h]; rfl)
    obtain ⟨a, rfl⟩ := len1 g1
    obtain rfl := len0 g2
    subst h
    exact step_back st a
  · obtain ⟨g1, g2⟩ := get (by rw [h]; rfl)
    obtain rfl := len0 g1
    obtain ⟨x, rfl⟩ := len1 g2
    subst h
    exact step_group ok x
  · obtain ⟨g1, g2⟩ := get (by rw [h]; rfl)
    obtain rfl := len0 g1
    obtain ⟨x, y, rfl⟩ := len2 g2
    subst h
    exact step_orbit ok x y
  · obtain ⟨g1, g2⟩ := get (by rw [h]; rfl)
    obtain rfl := len0 g1
    obtain ⟨x, rfl⟩ := len1 g2
    subst h
    exact step_orbits ok x
  · obtain ⟨g1, g2⟩ := get (by rw [h]; rfl)
    obtain ⟨a, rfl⟩ := len1 g1
    obtain rfl := len0 g2
    subst h
    exact step_alike st a
  · obtain ⟨g1, g2⟩ := get (by rw [h]; rfl)
    obtain rfl := len0 g1
    obtain rfl := len0 g2
    subst h
    exact step_grp ok
  · obtain ⟨g1, g2⟩ := get (by rw [h]; rfl)
    obtain ⟨a, rfl⟩ := len1 g1
    obtain rfl := len0 g2
    subst h
    exact step_partner st a
  · obtain ⟨g1, g2⟩ := get (by rw [h]; rfl)
    obtain rfl := len0 g1
    obtain ⟨x, y, rfl⟩ := len2 g2
    subst h
    exact step_chain st x y
  · obtain ⟨g1, g2⟩ := get (by rw [h]; rfl)
    obtain ⟨a, rfl⟩ := len1 g1
    obtain ⟨x, rfl⟩ := len1 g2
    subst h
    exact step_kept st a x
/-! ### what's asked -/
def Good (c : List (List Int)) : Prop := ∃ p n r, c = (p :: n) :: r ∧ PyVamete.shape p = some (n.length, r.length)
theorem rows_length : ∀ {k : Nat} {l t : List Int} {xs : List (List Int)}, PyFlat.rows k l = some (xs, t) → xs.length = k
  | 0, l, t, xs, h => by
    injection h with h
    injection h with h1 h2
    rw [← h1]
    rfl
  | k + 1, l, t, xs, h => by
    unfold PyFlat.rows at h
    cases h1 : PyFlat.row l with
    | none => rw [h1] at h; cases h
    | some xs1 =>
      obtain ⟨x, s⟩ := xs1
      rw [h1] at h
      have h : (match PyFlat.rows k s with | none => none | some (xs, t) => some (x :: xs, t)) = some (xs, t) := h
      cases h2 : PyFlat.rows k s with
      | none => rw [h2] at h; cases h
      | some ys =>
        obtain ⟨ys, u⟩ := ys
        rw [h2] at h
        injection h with h
        injection h with h3 h4
        rw [← h3, List.length_cons, rows_length h2]
theorem calls_good : ∀ {f : Nat} {l : List Int} {cs : List (List (List Int))}, PyFlat.calls PyVamete.shape f l = some cs → ∀ c ∈ cs, Good c
  | f, [], cs, h => by
    have h : some [] = some cs := by cases f <;> exact h
    injection h with h
    rw [← h]
    exact fun _ hc => absurd hc List.not_mem_nil
  | 0, _ :: _, cs, h => by cases h
  | f + 1, p :: r, cs, h => by
    have h : (match PyFlat.call PyVamete.shape (p :: r) with | none => none | some (c, t) => match PyFlat.calls PyVamete.shape f t with | none => none | some cs => some (c :: cs)) = some cs := h
    cases hc : PyFlat.call PyVamete.shape (p :: r) with
    | none => rw [hc] at h; cases h
    | some ct =>
      obtain ⟨c, t⟩ := ct
      rw [hc] at h
      have h : (match PyFlat.calls PyVamete.shape f t with | none => none | some cs => some (c :: cs)) = some cs := h
      cases hcs : PyFlat.calls PyVamete.shape f t with
      | none => rw [hcs] at h; cases h
      | some cs' =>
        rw [hcs] at h
        injection h with h
        rw [← h]
        intro d hd
        rcases List.mem_cons.mp hd with rfl | hd
        · have hc : (match PyVamete.shape p with | none => none | some (n, k) => if r.length < n then none else match PyFlat.rows k (r.drop n) with | none => none | some (xs, t) => some ((p :: r.take n) :: xs, t)) = some (d, t) := hc
          cases hs : PyVamete.shape p with
          | none => rw [hs] at hc; cases hc
          | some nk =>
            obtain ⟨n, k⟩ := nk
            rw [hs] at hc
            have hc : (if r.length < n then none else match PyFlat.rows k (r.drop n) with | none => none | some (xs, t) => some ((p :: r.take n) :: xs, t)) = some (d, t) := hc
            split at hc
            · cases hc
            · rename_i hlen
              cases hr : PyFlat.rows k (r.drop n) with
              | none => rw [hr] at hc; cases hc
              | some xt =>
                obtain ⟨xs, u⟩ := xt
                rw [hr] at hc
                injection hc with hc
                injection hc with h1 h2
                refine ⟨p, r.take n, xs, h1.symm, ?_⟩
                rw [hs, List.length_take, rows_length hr, Nat.min_eq_left (by omega)]
        · exact calls_good hcs d hd
theorem played_eq : ∀ {cs : List (List (List Int))} {st : Vamete.State}, okSt st → (∀ c ∈ cs, Good c) → pOut st cs = PyFlat.told (PyFlat.played VameteNeutral.step st (cs.map PyVamete.whole))
  | [], _, _, _ => rfl
  | c :: cs, st, ok, h => by
    obtain ⟨p, n, r, rfl, hs⟩ := h c List.mem_cons_self
    have ih := played_eq (okSt_step ok p n r) fun d hd => h d (List.mem_cons_of_mem _ hd)
    have e := step_eq ok hs
    show (((pAns st p n r).length : Int) :: pAns st p n r) ++ pOut (pState st p n r) cs = (((VameteNeutral.step st (PyVamete.whole ((p :: n) :: r))).2.length : Int) :: (VameteNeutral.step st (PyVamete.whole ((p :: n) :: r))).2) ++ PyFlat.told (PyFlat.played VameteNeutral.step (VameteNeutral.step st (PyVamete.whole ((p :: n) :: r))).1 (cs.map PyVamete.whole))
    rw [e, ih]
theorem lists_small {B : List (Int × Int × Nat × Nat)} (hB : ∀ b ∈ B, b.2.2.2 ≤ 1000) : ∀ {r : List (List Int)}, r.length = B.length → PyInside.lists B r = true → ∀ x ∈ r, x.length ≤ 1000 := by
  induction B with
  | nil => intro r hr _ x hx; rw [List.length_eq_zero_iff.mp hr] at hx; exact absurd hx List.not_mem_nil
  | cons b B ih =>
    intro r hr h x hx
    cases r with
    | nil => exact absurd hx List.not_mem_nil
    | cons y r =>
      obtain ⟨lo, hi, least, most⟩ := b
      have h : (decide (least ≤ y.length) && decide (y.length ≤ most) && y.all (PyInside.within lo hi) && PyInside.lists B r) = true := h
      simp only [Bool.and_eq_true, decide_eq_true_eq] at h
      obtain ⟨⟨⟨_, h2⟩, _⟩, h4⟩ := h
      rcases List.mem_cons.mp hx with rfl | hx
      · exact Nat.le_trans h2 (hB _ List.mem_cons_self)
      · exact ih (fun b hb => hB b (List.mem_cons_of_mem _ hb)) (Nat.succ.inj hr) h4 x hx
theorem bound_rows {p : Int} {n : List Int} {r : List (List Int)} (hs : PyVamete.shape p = some (n.length, r.length)) : (PyVamete.bound p).2.length = r.length ∧ ∀ b ∈ (PyVamete.bound p).2, b.2.2.2 ≤ 1000 := by
  rcases shape_cases hs with h | h | h | h | h | h | h | h | h | h | h | h | h <;> subst h <;> (injection hs with hs; injection hs with h1 h2; rw [← h2]; exact ⟨rfl, by decide⟩)
theorem asked_of {l : List Int} (hA : PyVamete.answers_asked l = true) : ∃ cs, PyFlat.calls PyVamete.shape l.length l = some cs ∧ small cs ∧ (pOut Vamete.start cs).length ≤ 10000000 ∧ pOut Vamete.start cs = PyVamete.answers l := by
  unfold PyVamete.answers_asked at hA
  cases hc : PyFlat.calls PyVamete.shape l.length l with
  | none => rw [hc] at hA; cases hA
  | some cs =>
    rw [hc] at hA
    have hA : (!cs.isEmpty && PyFlat.atMost 15 cs && PyInside.calls PyVamete.bound cs && VameteNeutral.asked (cs.map PyVamete.whole) && PyFlat.short 10000000 (PyVamete.answers l)) = true := hA
    simp only [Bool.and_eq_true] at hA
    obtain ⟨⟨⟨_, hb⟩, _⟩, hsh⟩ := hA
    have hg := calls_good hc
    have e : pOut Vamete.start cs = PyVamete.answers l := by
      rw [played_eq okSt_start hg]
      unfold PyVamete.answers PyVamete.calls
      rw [hc]
      rfl
    refine ⟨cs, rfl, fun c hcm => ?_, ?_, e⟩
    · obtain ⟨p, n, r, rfl, hs⟩ := hg c hcm
      have h := List.all_eq_true.mp hb _ hcm
      have h : (PyInside.each (PyVamete.bound p).1 n && PyInside.lists (PyVamete.bound p).2 r) = true := h
      rw [Bool.and_eq_true] at h
      obtain ⟨b1, b2⟩ := bound_rows hs
      exact lists_small b2 b1.symm h.2
    · rw [e]
      exact of_decide_eq_true hsh
end
end TG
set_option Elab.async false
set_option maxRecDepth 100000
set_option maxHeartbeats 8000000
open PySem PySem.W PyProof.Rows
theorem PySem.Challenge.cw_turngroups_s01_answers_holds : PySem.Challenge.rw_turngroups_s01_answers.Holds := by
  w_on; k_headS; (case hw => exact ⟨[.list [.int 9]], by decide +kernel, by decide +kernel⟩)
  k_fillS
  refine L2.walk_specK (r := PySem.Challenge.rw_turngroups_s01_answers) (k := 10) (CX := L2.CX0) (ps := ["calls"]) (sp := fun K => TG.Prom (TG.a_answers K)) (by decide +kernel) rfl rfl ⟨rfl, by decide, by decide⟩ (fun w h Y => PySem.W.kIn_of Y) ?F ?S (fun _ _ _ _ z => z)
  case F =>
    intro w mg fa h Y KX G hmg
    refine' TG.all_mk KX G hmg ?b_abs ?b_all ?b_any ?b_enumerate ?b_int ?b_len ?b_list ?b_max ?b_range ?b_set ?b_sorted ?b_sum ?b_tuple ?b_zip ?c_ADD ?c_TIMES ?c_REST ?c_ABS ?c_SORT ?c_REVERSE ?c_ROTATE ?c_TAKE ?c_DROP ?c_ABOVE ?c_ONCE ?c_SUM ?c_GREATEST ?c_LEAST_steps ?c_COUNT ?c_STEPS ?c_SUMS ?c_TWICE ?c_MOST_NUMBERS ?c_MOST_SIZE ?c_EQUAL ?c_BAG ?c_NUMBERS_relations ?c_MOST ?c_LEAST_relations ?c_BEGINS ?c_LONG ?c_ANY ?c_HAS_NUMBERS ?c_RISING ?c_NOT_BELOW ?c_UNLIKE ?c_AS_MANY ?c_KEPT ?c_BROKEN ?c_OFF ?c_MOST_STEPS ?c_MOST_OWN ?c_MOST_REST ?c_MOST_MANY ?c_MOST_ROW ?c_MOST_PLACES ?c_MOST_HIGH ?c_MOST_ROWS ?t_NUMBERS_programs ?tl_NUMBERS_programs ?tc_NUMBERS_programs ?td_NUMBERS_programs ?tz_NUMBERS_programs ?tv_NUMBERS_programs ?t_ROWS ?tl_ROWS ?tc_ROWS ?td_ROWS ?tz_ROWS ?tv_ROWS ?g_Relation ?pg_Relation ?hd_Relation ?po_Relation ?sa_Relation ?mk_Relation ?kc_Relation ?n_Relation_condition ?n_Relation_own ?n_Relation_before ?n_Relation_stands ?n_Relation_after ?w_Relation_init ?i_Relation_init ?l_Relation_init ?cc_Relation_init ?kk_Relation_init ?w_Relation_holds ?i_Relation_holds ?l_Relation_holds ?cc_Relation_holds ?kk_Relation_holds ?g_Desk ?pg_Desk ?hd_Desk ?po_Desk ?sa_Desk ?mk_Desk ?kc_Desk ?n_Desk_places ?n_Desk_rows ?n_Desk_turns ?n_Desk_programs ?w_Desk_init ?i_Desk_init ?l_Desk_init ?cc_Desk_init ?kk_Desk_init ?w_Desk_put_size ?i_Desk_put_size ?l_Desk_put_size ?cc_Desk_put_size ?kk_Desk_put_size ?w_Desk_put_program ?i_Desk_put_program ?l_Desk_put_program ?cc_Desk_put_program ?kk_Desk_put_program ?w_Desk_is_turn ?i_Desk_is_turn ?l_Desk_is_turn ?cc_Desk_is_turn ?kk_Desk_is_turn ?w_Desk_are_turns ?i_Desk_are_turns ?l_Desk_are_turns ?cc_Desk_are_turns ?kk_Desk_are_turns ?w_Desk_group ?i_Desk_group ?l_Desk_group ?cc_Desk_group ?kk_Desk_group ?w_Desk_outcomes ?i_Desk_outcomes ?l_Desk_outcomes ?cc_Desk_outcomes ?kk_Desk_outcomes ?d_is_beyond ?l_is_beyond ?cc_is_beyond ?kk_is_beyond ?d_once ?l_once ?cc_once ?kk_once ?d_sums ?l_sums ?cc_sums ?kk_sums ?d_each ?l_each ?cc_each ?kk_each ?d_placed ?l_placed ?cc_placed ?kk_placed ?d_told ?l_told ?cc_told ?kk_told ?d_done ?l_done ?cc_done ?kk_done ?d_run ?l_run ?cc_run ?kk_run ?d_do_stand ?l_do_stand ?cc_do_stand ?kk_do_stand ?d_how ?l_how ?cc_how ?kk_how ?d_chained ?l_chained ?cc_chained ?kk_chained ?d_number_at ?l_number_at ?cc_number_at ?kk_number_at ?d_is_within ?l_is_within ?cc_is_within ?kk_is_within ?d_has_own ?l_has_own ?cc_has_own ?kk_has_own ?d_is_own ?l_is_own ?cc_is_own ?kk_is_own ?d_step_at ?l_step_at ?cc_step_at ?kk_step_at ?d_program_at ?l_program_at ?cc_program_at ?kk_program_at ?d_program_of ?l_program_of ?cc_program_of ?kk_program_of ?d_condition_at ?l_condition_at ?cc_condition_at ?kk_condition_at ?d_relation_of ?l_relation_of ?cc_relation_of ?kk_relation_of ?d_row_of ?l_row_of ?cc_row_of ?kk_row_of ?d_program_numbers ?l_program_numbers ?cc_program_numbers ?kk_program_numbers ?d_relation_numbers ?l_relation_numbers ?cc_relation_numbers ?kk_relation_numbers ?d_orders ?l_orders ?cc_orders ?kk_orders ?d_all_signs ?l_all_signs ?cc_all_signs ?kk_all_signs ?d_all_turns ?l_all_turns ?cc_all_turns ?kk_all_turns ?d_signed ?l_signed ?cc_signed ?kk_signed ?d_turned ?l_turned ?cc_turned ?kk_turned ?d_behind ?l_behind ?cc_behind ?kk_behind ?d_undone ?l_undone ?cc_undone ?kk_undone ?d_unchanging ?l_unchanging ?cc_unchanging ?kk_unchanging ?d_generated ?l_generated ?cc_generated ?kk_generated ?d_orbit ?l_orbit ?cc_orbit ?kk_orbit ?d_rows_of ?l_rows_of ?cc_rows_of ?kk_rows_of ?d_many_orbits ?l_many_orbits ?cc_many_orbits ?kk_many_orbits ?d_many_rows ?l_many_rows ?cc_many_rows ?kk_many_rows ?d_size ?l_size ?cc_size ?kk_size ?d_program ?l_program ?cc_program ?kk_program ?d_compose ?l_compose ?cc_compose ?kk_compose ?d_told_group ?l_told_group ?cc_told_group ?kk_told_group ?d_told_orbit ?l_told_orbit ?cc_told_orbit ?kk_told_orbit ?d_told_orbits ?l_told_orbits ?cc_told_orbits ?kk_told_orbits ?d_first_unlike ?l_first_unlike ?cc_first_unlike ?kk_first_unlike ?d_alike ?l_alike ?cc_alike ?kk_alike ?d_group ?l_group ?cc_group ?kk_group ?d_goes_with ?l_goes_with ?cc_goes_with ?kk_goes_with ?d_partner ?l_partner ?cc_partner ?kk_partner ?d_chain ?l_chain ?cc_chain ?kk_chain ?d_kept ?l_kept ?cc_kept ?kk_kept ?d_of_turn ?l_of_turn ?cc_of_turn ?kk_of_turn ?d_answer ?l_answer ?cc_answer ?kk_answer ?d_answers ?l_answers ?cc_answers ?kk_answers
    (case b_abs => k_is)
    (case b_all => k_is)
    (case b_any => k_is)
    (case b_enumerate => k_is)
    (case b_int => k_is)
    (case b_len => k_is)
    (case b_list => k_is)
    (case b_max => k_is)
    (case b_range => k_is)
    (case b_set => k_is)
    (case b_sorted => k_is)
    (case b_sum => k_is)
    (case b_tuple => k_is)
    (case b_zip => k_is)
    (case c_ADD => k_is)
    (case c_TIMES => k_is)
    (case c_REST => k_is)
    (case c_ABS => k_is)
    (case c_SORT => k_is)
    (case c_REVERSE => k_is)
    (case c_ROTATE => k_is)
    (case c_TAKE => k_is)
    (case c_DROP => k_is)
    (case c_ABOVE => k_is)
    (case c_ONCE => k_is)
    (case c_SUM => k_is)
    (case c_GREATEST => k_is)
    (case c_LEAST_steps => k_is)
    (case c_COUNT => k_is)
    (case c_STEPS => k_is)
    (case c_SUMS => k_is)
    (case c_TWICE => k_is)
    (case c_MOST_NUMBERS => k_is)
    (case c_MOST_SIZE => k_is)
    (case c_EQUAL => k_is)
    (case c_BAG => k_is)
    (case c_NUMBERS_relations => k_is)
    (case c_MOST => k_is)
    (case c_LEAST_relations => k_is)
    (case c_BEGINS => k_is)
    (case c_LONG => k_is)
    (case c_ANY => k_is)
    (case c_HAS_NUMBERS => k_is)
    (case c_RISING => k_is)
    (case c_NOT_BELOW => k_is)
    (case c_UNLIKE => k_is)
    (case c_AS_MANY => k_is)
    (case c_KEPT => k_is)
    (case c_BROKEN => k_is)
    (case c_OFF => k_is)
    (case c_MOST_STEPS => k_is)
    (case c_MOST_OWN => k_is)
    (case c_MOST_REST => k_is)
    (case c_MOST_MANY => k_is)
    (case c_MOST_ROW => k_is)
    (case c_MOST_PLACES => k_is)
    (case c_MOST_HIGH => k_is)
    (case c_MOST_ROWS => k_is)
    (case t_NUMBERS_programs => k_is)
    (case tl_NUMBERS_programs => k_is)
    (case tc_NUMBERS_programs => rfl)
    (case td_NUMBERS_programs => rfl)
    (case tz_NUMBERS_programs => decide)
    (case tv_NUMBERS_programs => rfl)
    (case t_ROWS => k_is)
    (case tl_ROWS => k_is)
    (case tc_ROWS => rfl)
    (case td_ROWS => rfl)
    (case tz_ROWS => decide)
    (case tv_ROWS => rfl)
    (case g_Relation => k_is)
    (case pg_Relation => k_is)
    (case hd_Relation => k_is)
    (case po_Relation => k_is)
    (case sa_Relation => k_is)
    (case mk_Relation => k_is)
    (case kc_Relation => k_is)
    (case n_Relation_condition => k_is)
    (case n_Relation_own => k_is)
    (case n_Relation_before => k_is)
    (case n_Relation_stands => k_is)
    (case n_Relation_after => k_is)
    (case w_Relation_init => k_is)
    (case i_Relation_init => k_is)
    (case l_Relation_init => k_is)
    (case cc_Relation_init => k_is)
    (case kk_Relation_init => k_is)
    (case w_Relation_holds => k_is)
    (case i_Relation_holds => k_is)
    (case l_Relation_holds => k_is)
    (case cc_Relation_holds => k_is)
    (case kk_Relation_holds => k_is)
    (case g_Desk => k_is)
    (case pg_Desk => k_is)
    (case hd_Desk => k_is)
    (case po_Desk => k_is)
    (case sa_Desk => k_is)
    (case mk_Desk => k_is)
    (case kc_Desk => k_is)
    (case n_Desk_places => k_is)
    (case n_Desk_rows => k_is)
    (case n_Desk_turns => k_is)
    (case n_Desk_programs => k_is)
    (case w_Desk_init => k_is)
    (case i_Desk_init => k_is)
    (case l_Desk_init => k_is)
    (case cc_Desk_init => k_is)
    (case kk_Desk_init => k_is)
    (case w_Desk_put_size => k_is)
    (case i_Desk_put_size => k_is)
    (case l_Desk_put_size => k_is)
    (case cc_Desk_put_size => k_is)
    (case kk_Desk_put_size => k_is)
    (case w_Desk_put_program => k_is)
    (case i_Desk_put_program => k_is)
    (case l_Desk_put_program => k_is)
    (case cc_Desk_put_program => k_is)
    (case kk_Desk_put_program => k_is)
    (case w_Desk_is_turn => k_is)
    (case i_Desk_is_turn => k_is)
    (case l_Desk_is_turn => k_is)
    (case cc_Desk_is_turn => k_is)
    (case kk_Desk_is_turn => k_is)
    (case w_Desk_are_turns => k_is)
    (case i_Desk_are_turns => k_is)
    (case l_Desk_are_turns => k_is)
    (case cc_Desk_are_turns => k_is)
    (case kk_Desk_are_turns => k_is)
    (case w_Desk_group => k_is)
    (case i_Desk_group => k_is)
    (case l_Desk_group => k_is)
    (case cc_Desk_group => k_is)
    (case kk_Desk_group => k_is)
    (case w_Desk_outcomes => k_is)
    (case i_Desk_outcomes => k_is)
    (case l_Desk_outcomes => k_is)
    (case cc_Desk_outcomes => k_is)
    (case kk_Desk_outcomes => k_is)
    (case d_is_beyond => k_is)
    (case l_is_beyond => k_is)
    (case cc_is_beyond => k_is)
    (case kk_is_beyond => k_is)
    (case d_once => k_is)
    (case l_once => k_is)
    (case cc_once => k_is)
    (case kk_once => k_is)
    (case d_sums => k_is)
    (case l_sums => k_is)
    (case cc_sums => k_is)
    (case kk_sums => k_is)
    (case d_each => k_is)
    (case l_each => k_is)
    (case cc_each => k_is)
    (case kk_each => k_is)
    (case d_placed => k_is)
    (case l_placed => k_is)
    (case cc_placed => k_is)
    (case kk_placed => k_is)
    (case d_told => k_is)
    (case l_told => k_is)
    (case cc_told => k_is)
    (case kk_told => k_is)
    (case d_done => k_is)
    (case l_done => k_is)
    (case cc_done => k_is)
    (case kk_done => k_is)
    (case d_run => k_is)
    (case l_run => k_is)
    (case cc_run => k_is)
    (case kk_run => k_is)
    (case d_do_stand => k_is)
    (case l_do_stand => k_is)
    (case cc_do_stand => k_is)
    (case kk_do_stand => k_is)
    (case d_how => k_is)
    (case l_how => k_is)
    (case cc_how => k_is)
    (case kk_how => k_is)
    (case d_chained => k_is)
    (case l_chained => k_is)
    (case cc_chained => k_is)
    (case kk_chained => k_is)
    (case d_number_at => k_is)
    (case l_number_at => k_is)
    (case cc_number_at => k_is)
    (case kk_number_at => k_is)
    (case d_is_within => k_is)
    (case l_is_within => k_is)
    (case cc_is_within => k_is)
    (case kk_is_within => k_is)
    (case d_has_own => k_is)
    (case l_has_own => k_is)
    (case cc_has_own => k_is)
    (case kk_has_own => k_is)
    (case d_is_own => k_is)
    (case l_is_own => k_is)
    (case cc_is_own => k_is)
    (case kk_is_own => k_is)
    (case d_step_at => k_is)
    (case l_step_at => k_is)
    (case cc_step_at => k_is)
    (case kk_step_at => k_is)
    (case d_program_at => k_is)
    (case l_program_at => k_is)
    (case cc_program_at => k_is)
    (case kk_program_at => k_is)
    (case d_program_of => k_is)
    (case l_program_of => k_is)
    (case cc_program_of => k_is)
    (case kk_program_of => k_is)
    (case d_condition_at => k_is)
    (case l_condition_at => k_is)
    (case cc_condition_at => k_is)
    (case kk_condition_at => k_is)
    (case d_relation_of => k_is)
    (case l_relation_of => k_is)
    (case cc_relation_of => k_is)
    (case kk_relation_of => k_is)
    (case d_row_of => k_is)
    (case l_row_of => k_is)
    (case cc_row_of => k_is)
    (case kk_row_of => k_is)
    (case d_program_numbers => k_is)
    (case l_program_numbers => k_is)
    (case cc_program_numbers => k_is)
    (case kk_program_numbers => k_is)
    (case d_relation_numbers => k_is)
    (case l_relation_numbers => k_is)
    (case cc_relation_numbers => k_is)
    (case kk_relation_numbers => k_is)
    (case d_orders => k_is)
    (case l_orders => k_is)
    (case cc_orders => k_is)
    (case kk_orders => k_is)
    (case d_all_signs => k_is)
    (case l_all_signs => k_is)
    (case cc_all_signs => k_is)
    (case kk_all_signs => k_is)
    (case d_all_turns => k_is)
    (case l_all_turns => k_is)
    (case cc_all_turns => k_is)
    (case kk_all_turns => k_is)
    (case d_signed => k_is)
    (case l_signed => k_is)
    (case cc_signed => k_is)
    (case kk_signed => k_is)
    (case d_turned => k_is)
    (case l_turned => k_is)
    (case cc_turned => k_is)
    (case kk_turned => k_is)
    (case d_behind => k_is)
    (case l_behind => k_is)
    (case cc_behind => k_is)
    (case kk_behind => k_is)
    (case d_undone => k_is)
    (case l_undone => k_is)
    (case cc_undone => k_is)
    (case kk_undone => k_is)
    (case d_unchanging => k_is)
    (case l_unchanging => k_is)
    (case cc_unchanging => k_is)
    (case kk_unchanging => k_is)
    (case d_generated => k_is)
    (case l_generated => k_is)
    (case cc_generated => k_is)
    (case kk_generated => k_is)
    (case d_orbit => k_is)
    (case l_orbit => k_is)
    (case cc_orbit => k_is)
    (case kk_orbit => k_is)
    (case d_rows_of => k_is)
    (case l_rows_of => k_is)
    (case cc_rows_of => k_is)
    (case kk_rows_of => k_is)
    (case d_many_orbits => k_is)
    (case l_many_orbits => k_is)
    (case cc_many_orbits => k_is)
    (case kk_many_orbits => k_is)
    (case d_many_rows => k_is)
    (case l_many_rows => k_is)
    (case cc_many_rows => k_is)
    (case kk_many_rows => k_is)
    (case d_size => k_is)
    (case l_size => k_is)
    (case cc_size => k_is)
    (case kk_size => k_is)
    (case d_program => k_is)
    (case l_program => k_is)
    (case cc_program => k_is)
    (case kk_program => k_is)
    (case d_compose => k_is)
    (case l_compose => k_is)
    (case cc_compose => k_is)
    (case kk_compose => k_is)
    (case d_told_group => k_is)
    (case l_told_group => k_is)
    (case cc_told_group => k_is)
    (case kk_told_group => k_is)
    (case d_told_orbit => k_is)
    (case l_told_orbit => k_is)
    (case cc_told_orbit => k_is)
    (case kk_told_orbit => k_is)
    (case d_told_orbits => k_is)
    (case l_told_orbits => k_is)
    (case cc_told_orbits => k_is)
    (case kk_told_orbits => k_is)
    (case d_first_unlike => k_is)
    (case l_first_unlike => k_is)
    (case cc_first_unlike => k_is)
    (case kk_first_unlike => k_is)
    (case d_alike => k_is)
    (case l_alike => k_is)
    (case cc_alike => k_is)
    (case kk_alike => k_is)
    (case d_group => k_is)
    (case l_group => k_is)
    (case cc_group => k_is)
    (case kk_group => k_is)
    (case d_goes_with => k_is)
    (case l_goes_with => k_is)
    (case cc_goes_with => k_is)
    (case kk_goes_with => k_is)
    (case d_partner => k_is)
    (case l_partner => k_is)
    (case cc_partner => k_is)
    (case kk_partner => k_is)
    (case d_chain => k_is)
    (case l_chain => k_is)
    (case cc_chain => k_is)
    (case kk_chain => k_is)
    (case d_kept => k_is)
    (case l_kept => k_is)
    (case cc_kept => k_is)
    (case kk_kept => k_is)
    (case d_of_turn => k_is)
    (case l_of_turn => k_is)
    (case cc_of_turn => k_is)
    (case kk_of_turn => k_is)
    (case d_answer => k_is)
    (case l_answer => k_is)
    (case cc_answer => k_is)
    (case kk_answer => k_is)
    (case d_answers => k_is)
    (case l_answers => k_is)
    (case cc_answers => k_is)
    (case kk_answers => k_is)
  case S =>
    intro K H xs a hO hwi hask hx
    cases hx with
    | cons h1 h2 =>
      cases h2
      cases h1 with
      | lst hs ha =>
        have e := L2.ints_dw a.1 _ ha
        subst e
        have hA : PyVamete.answers_asked a.1 = true := hask
        obtain ⟨cs, g1, g2, g3, g4⟩ := TG.asked_of hA
        refine ⟨[TG.CP K a.1], _, ⟨a.1, cs, rfl, g1, g2, g3, rfl⟩, .cons ⟨_, rfl, hs⟩ .nil, fun v H' e r => ?_⟩
        rw [g4] at r
        obtain ⟨p, rfl, hp⟩ := TG.is_ints r
        exact .lst (L2.SqL.of hp) (L2.dw_ints _)
