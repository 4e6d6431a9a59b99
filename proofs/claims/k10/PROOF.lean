import PyProof.Rows.All
import Wide.All
import OpenK.AllK
import Wide.FinOn
import HandS.ForMost
import HandS.Deep
import HandS.DictTup
import HandS.Flow
import HandS.ForExc
import HandS.ExcInit
import HandS.TryMany
import HandS.Steps
import HandS.Rev
import HandS.DeepEq
import HandS.SetFor
import HandS.SuiteRaise
import KE.KDictDisplayH
import HandS.ExcIs
import HandS.Finally
import HandS.DictComp
import HandS.SortRule
import HandS.IsInst
import HandS.HotCalls
import KE.KExcIs
import PySem.Challenge.RW_trackorder_k10_refusals_stand_apart
set_option Elab.async false
set_option linter.all false
set_option maxRecDepth 100000
set_option maxHeartbeats 4000000
/-! TK: data that is told by plain Lean values, over the layer's readings. -/
namespace TK
open PySem L2

/-! ### heaps -/
def Ex (H H' : Hp) : Prop := ∀ a o, H a = some o → H' a = some o
theorem Ex.refl (H : Hp) : Ex H H := fun _ _ h => h
theorem Ex.trans {H H1 H2 : Hp} (a : Ex H H1) (b : Ex H1 H2) : Ex H H2 := fun x o h => b x o (a x o h)
theorem Ex.new {H : Hp} {p : Addr} {o : HO} (h : H p = none) : Ex H (upd H p o) := fun a u e => by
  rw [upd_ne (ne_of_none e h)]; exact e
/-- an object that H does not know may change -/
theorem Ex.mut {H H' : Hp} {p : Addr} {o : HO} (e : Ex H H') (h : H p = none) : Ex H (upd H' p o) := fun a u ha => by
  rw [upd_ne (ne_of_none ha h)]; exact e a u ha
theorem Ex.free {H H' : Hp} {p : Addr} (e : Ex H H') (h : H' p = none) : H p = none := by
  cases h1 : H p with
  | none => rfl
  | some o => rw [e p o h1] at h; cases h
theorem Ex.ne {H H' : Hp} {a p : Addr} {o : HO} (e : Ex H H') (h : H a = some o) (hp : H' p = none) : a ≠ p := ne_of_none (e a o h) hp
/-- what holds of tuples is kept -/
def TEx (H H' : Hp) : Prop := ∀ a xs, H a = some (.tup xs) → H' a = some (.tup xs)
theorem Ex.t {H H' : Hp} (e : Ex H H') : TEx H H' := fun a xs h => e a _ h
theorem TEx.refl (H : Hp) : TEx H H := fun _ _ h => h
theorem TEx.trans {H H1 H2 : Hp} (a : TEx H H1) (b : TEx H1 H2) : TEx H H2 := fun x xs h => b x xs (a x xs h)
/-- not a tuple -/
def NoTup : HO → Prop
  | .tup _ => False
  | _ => True
theorem TEx.upd {H : Hp} {p : Addr} {o o' : HO} (h : H p = some o) (n : NoTup o) : TEx H (upd H p o') := fun a xs e => by
  rw [upd_ne (by intro z; subst z; rw [h] at e; cases e; exact n)]; exact e
theorem TEx.new {H : Hp} {p : Addr} {o : HO} (h : H p = none) : TEx H (L2.upd H p o) := (Ex.new h).t
theorem sq_of {K : PySem.W.Frag} {H : Hp} {a : Addr} {xs : List V} (h : H a = some (.lst xs)) : SqL K H a xs := Or.inl (Or.inl h)
theorem st_of {K : PySem.W.Frag} {H : Hp} {a : Addr} {xs : List V} (h : H a = some (.tup xs)) : SqT K H a xs := Or.inl (Or.inl h)
theorem sz_of {n : Nat} (h : n ≤ 100000) : n ≤ sizeLine := Nat.le_trans h (by decide)
theorem sz_lt {n : Nat} (h : n < 100000) : n < sizeLine := Nat.lt_of_lt_of_le h (by decide)

/-! ### data: None, bools, ints, texts, tracked tuples of such -/
mutual
inductive Td (H : Hp) : V → PyData → Prop
  | non : Td H .non .none
  | bl (b : Bool) : Td H (.bl b) (.bool b)
  | int (i : Int) : Td H (.int i) (.int i)
  | str (x : Str) : Td H (.str x) (.str x)
  | tup {a : Addr} {xs : List V} {ds : List PyData} : H a = some (.tup xs) → TdA H xs ds → Td H (.ref a) (.tuple ds)
inductive TdA (H : Hp) : List V → List PyData → Prop
  | nil : TdA H [] []
  | cons {v : V} {vs : List V} {d : PyData} {ds : List PyData} : Td H v d → TdA H vs ds → TdA H (v :: vs) (d :: ds)
end
section
variable {K : PySem.W.Frag} {H H' : Hp}
mutual
theorem td_dp : ∀ {v : V} (d : PyData), Td H v d → Dp K H v d
  | _, .none, h => by cases h; exact .non
  | _, .bool _, h => by cases h; exact .bl _
  | _, .int _, h => by cases h; exact .int _
  | _, .str _, h => by cases h; exact .str _
  | _, .list ds, h => by cases h
  | _, .tuple ds, h => by cases h with | tup hs ha => exact .tup (st_of hs) (tda_dp ds ha)
  | _, .dict _, h => by cases h
theorem tda_dp : ∀ {vs : List V} (ds : List PyData), TdA H vs ds → DpAll K H vs ds
  | _, [], h => by cases h; exact .nil
  | _, d :: ds, h => by cases h with | cons h1 h2 => exact .cons (td_dp d h1) (tda_dp ds h2)
end
mutual
theorem td_t (e : TEx H H') : ∀ {v : V} (d : PyData), Td H v d → Td H' v d
  | _, .none, h => by cases h; exact .non
  | _, .bool _, h => by cases h; exact .bl _
  | _, .int _, h => by cases h; exact .int _
  | _, .str _, h => by cases h; exact .str _
  | _, .list ds, h => by cases h
  | _, .tuple ds, h => by cases h with | tup hs ha => exact .tup (e _ _ hs) (tda_t e ds ha)
  | _, .dict _, h => by cases h
theorem tda_t (e : TEx H H') : ∀ {vs : List V} (ds : List PyData), TdA H vs ds → TdA H' vs ds
  | _, [], h => by cases h; exact .nil
  | _, d :: ds, h => by cases h with | cons h1 h2 => exact .cons (td_t e d h1) (tda_t e ds h2)
end
theorem tda_len : ∀ {vs : List V} {ds : List PyData}, TdA H vs ds → vs.length = ds.length
  | _, _, .nil => rfl
  | _, _, .cons _ t => by rw [List.length_cons, List.length_cons, tda_len t]
theorem tda_at : ∀ {vs : List V} {ds : List PyData} {i : Nat} {d : PyData}, TdA H vs ds → ds[i]? = some d → ∃ v, vs[i]? = some v ∧ Td H v d
  | _, _, _, _, .nil, e => by simp at e
  | _, _, 0, _, .cons h _, e => by simp at e; subst e; exact ⟨_, rfl, h⟩
  | _, _, i + 1, _, .cons _ t, e => by
    obtain ⟨v, h1, h2⟩ := tda_at (i := i) t (by simpa using e)
    exact ⟨v, by simpa using h1, h2⟩
theorem tda_get : ∀ {vs : List V} {ds : List PyData} {i : Nat} {v : V}, TdA H vs ds → vs[i]? = some v → ∃ d, ds[i]? = some d ∧ Td H v d
  | _, _, _, _, .nil, e => by simp at e
  | _, _, 0, _, .cons h _, e => by simp at e; subst e; exact ⟨_, rfl, h⟩
  | _, _, i + 1, _, .cons _ t, e => by
    obtain ⟨v, h1, h2⟩ := tda_get (i := i) t (by simpa using e)
    exact ⟨v, by simpa using h1, h2⟩
theorem tda_app : ∀ {vs us : List V} {ds es : List PyData}, TdA H vs ds → TdA H us es → TdA H (vs ++ us) (ds ++ es)
  | _, _, _, _, .nil, h => h
  | _, _, _, _, .cons h t, g => .cons h (tda_app t g)
theorem tda_one {v : V} {d : PyData} (h : Td H v d) : TdA H [v] [d] := .cons h .nil
theorem tda_set : ∀ {vs : List V} {ds : List PyData} {v : V} {d : PyData} (i : Nat), TdA H vs ds → Td H v d → TdA H (vs.set i v) (ds.set i d)
  | _, _, _, _, _, .nil, _ => .nil
  | _, _, _, _, 0, .cons _ t, g => .cons g t
  | _, _, _, _, i + 1, .cons h t, g => .cons h (tda_set i t g)
theorem tda_take : ∀ {vs : List V} {ds : List PyData} (n : Nat), TdA H vs ds → TdA H (vs.take n) (ds.take n)
  | _, _, 0, _ => .nil
  | _, _, _ + 1, .nil => .nil
  | _, _, n + 1, .cons h t => .cons h (tda_take n t)
theorem tda_drop : ∀ {vs : List V} {ds : List PyData} (n : Nat), TdA H vs ds → TdA H (vs.drop n) (ds.drop n)
  | _, _, 0, h => h
  | _, _, _ + 1, .nil => .nil
  | _, _, n + 1, .cons _ t => tda_drop n t
theorem tda_rev : ∀ {vs : List V} {ds : List PyData}, TdA H vs ds → TdA H vs.reverse ds.reverse
  | _, _, .nil => .nil
  | _, _, .cons h t => by rw [List.reverse_cons, List.reverse_cons]; exact tda_app (tda_rev t) (tda_one h)
end

/-- types whose things are data -/
class Enc (α : Type) [DecidableEq α] where
  enc : α → PyData
  eqv : ∀ a b, PyData.eqv (enc a) (enc b) = decide (a = b)
  lay : ∀ a, (enc a).canLay0 = true
  dep : Nat
  depth : ∀ a, (enc a).depth ≤ dep
open Enc (enc)

/-- a text that is one -/
structure Nm where
  s : Str
  ok : PyData.strOk s = true
theorem Nm.ext' : ∀ {a b : Nm}, a.s = b.s → a = b
  | ⟨_, _⟩, ⟨_, _⟩, rfl => rfl
instance : DecidableEq Nm := fun a b => if h : a.s = b.s then isTrue (Nm.ext' h) else isFalse fun e => h (by rw [e])
/-- three things -/
structure T3 (α β γ : Type) where
  a : α
  b : β
  c : γ
  deriving DecidableEq

theorem beq_str (x y : Str) : (x == y) = decide (x = y) := by
  by_cases h : x = y
  · subst h; simp
  · rw [decide_eq_false h]; exact beq_eq_false_iff_ne.mpr h
instance : Enc Nm where
  enc a := .str a.s
  eqv a b := by
    simp only [PyData.eqv, beq_str]
    by_cases h : a = b
    · subst h; simp
    · rw [decide_eq_false h, decide_eq_false (fun e => h (Nm.ext' e))]
  lay a := by simpa [PyData.canLay0] using a.ok
  dep := 0
  depth a := by simp [PyData.depth]
instance : Enc Int where
  enc a := .int a
  eqv a b := by simp only [PyData.eqv, Bool.beq_eq_decide_eq]
  lay a := by simp [PyData.canLay0]
  dep := 0
  depth a := by simp [PyData.depth]
instance : Enc (Option Int) where
  enc a := match a with | none => .none | some i => .int i
  eqv a b := by cases a <;> cases b <;> simp [PyData.eqv, Bool.beq_eq_decide_eq]
  lay a := by cases a <;> simp [PyData.canLay0]
  dep := 0
  depth a := by cases a <;> simp [PyData.depth]
section
variable {α β γ : Type} [DecidableEq α] [DecidableEq β] [DecidableEq γ] [Enc α] [Enc β] [Enc γ]
instance : Enc (α × β) where
  enc p := .tuple [enc p.1, enc p.2]
  eqv p q := by
    simp only [PyData.eqv, PyData.eqvAll, Enc.eqv, Bool.and_true, ← Bool.decide_and]
    exact decide_eq_decide.mpr (by rw [Prod.ext_iff])
  lay p := by simp [PyData.canLay0, PyData.canLayAll0, Enc.lay]
  dep := max (Enc.dep α) (Enc.dep β) + 1
  depth p := by
    have h1 := Enc.depth p.1
    have h2 := Enc.depth p.2
    simp only [PyData.depth, PyData.depthAll]
    omega
instance : Enc (T3 α β γ) where
  enc p := .tuple [enc p.a, enc p.b, enc p.c]
  eqv p q := by
    simp only [PyData.eqv, PyData.eqvAll, Enc.eqv, Bool.and_true, ← Bool.decide_and]
    exact decide_eq_decide.mpr (by cases p; cases q; simp)
  lay p := by simp [PyData.canLay0, PyData.canLayAll0, Enc.lay]
  dep := max (Enc.dep α) (max (Enc.dep β) (Enc.dep γ)) + 1
  depth p := by
    have h1 := Enc.depth p.a
    have h2 := Enc.depth p.b
    have h3 := Enc.depth p.c
    simp only [PyData.depth, PyData.depthAll]
    omega
end
section
variable {α : Type} [DecidableEq α] [Enc α]
theorem eqvAll_enc : ∀ xs ys : List α, PyData.eqvAll (xs.map enc) (ys.map enc) = decide (xs = ys)
  | [], [] => by simp [PyData.eqvAll]
  | [], _ :: _ => by simp [PyData.eqvAll]
  | _ :: _, [] => by simp [PyData.eqvAll]
  | x :: xs, y :: ys => by
    simp only [List.map_cons, PyData.eqvAll, Enc.eqv, eqvAll_enc xs ys, ← Bool.decide_and, List.cons.injEq]
theorem eqv_list (xs ys : List α) : PyData.eqv (.list (xs.map enc)) (.list (ys.map enc)) = decide (xs = ys) := by
  simp only [PyData.eqv, eqvAll_enc]
theorem lay_all : ∀ xs : List α, PyData.canLayAll0 (xs.map enc) = true
  | [] => by simp [PyData.canLayAll0]
  | x :: xs => by simp [PyData.canLayAll0, Enc.lay, lay_all xs]
theorem dep_all : ∀ xs : List α, PyData.depthAll (xs.map enc) ≤ Enc.dep α
  | [] => by simp [PyData.depthAll]
  | x :: xs => by
    have h1 := Enc.depth x
    have h2 := dep_all xs
    simp only [List.map_cons, PyData.depthAll]
    omega
theorem shaped_enc (a : α) (h : Enc.dep α ≤ 63 := by decide) : SeqAt.shaped (enc a) = true := by
  have h1 := Enc.depth a
  unfold SeqAt.shaped
  rw [Enc.lay, decide_eq_true (by omega)]
  rfl
theorem shaped_list (xs : List α) (h : Enc.dep α ≤ 63 := by decide) : SeqAt.shaped (.list (xs.map enc)) = true := by
  have h1 := dep_all xs
  unfold SeqAt.shaped
  rw [decide_eq_true (by simp only [PyData.depth]; omega), PyData.canLay0, lay_all]
  rfl
/-- membership, as a Bool -/
def memB (x : α) (xs : List α) : Bool := decide (x ∈ xs)
theorem any_enc (x : α) : ∀ xs : List α, ((xs.map enc).any fun z => PyData.eqv z (enc x)) = memB x xs
  | [] => by simp [memB]
  | y :: ys => by
    simp only [List.map_cons, List.any_cons, any_enc x ys, Enc.eqv, memB, List.mem_cons, ← Bool.decide_or]
    exact decide_eq_decide.mpr (by rw [eq_comm])
theorem memB_iff {α : Type} [DecidableEq α] {x : α} {xs : List α} : memB x xs = true ↔ x ∈ xs := by unfold memB; exact decide_eq_true_iff
theorem memB_no {α : Type} [DecidableEq α] {x : α} {xs : List α} : memB x xs = false ↔ x ∉ xs := by unfold memB; exact decide_eq_false_iff_not
end
end TK

namespace TK
open PySem L2
open Enc (enc)
abbrev VP := V → Hp → Prop
/-- the reading gives a value of which P holds; all that was tracked stays -/
def EV (te : TE) (σ : St) (H : Hp) (P : VP) : Prop := ∀ H1, Ex H H1 → ∀ Q : VK, (∀ v H2, Ex H1 H2 → P v H2 → Q v H2) → te σ H1 Q
def EB (tt : TT) (σ : St) (H : Hp) (b : Bool) : Prop := ∀ H1, Ex H H1 → ∀ Q : Bool → Hp → Prop, (∀ H2, Ex H1 H2 → Q b H2) → tt σ H1 Q
def EA (ta : TA) (σ : St) (H : Hp) (R : List V → Hp → Prop) : Prop := ∀ H1, Ex H H1 → ∀ Q : List V → Hp → Prop, (∀ vs H2, Ex H1 H2 → R vs H2 → Q vs H2) → ta σ H1 Q
class Mono (P : VP) : Prop where
  mono : ∀ {v : V} {H H' : Hp}, Ex H H' → P v H → P v H'
/-- the value is a datum; it is this very value; a tracked list of data; a new one (not in H) -/
def D {α : Type} [DecidableEq α] [Enc α] (a : α) : VP := fun v H => Td H v (enc a)
def Is (x : V) : VP := fun v _ => v = x
def Ls {α : Type} [DecidableEq α] [Enc α] (xs : List α) : VP := fun v H => ∃ p vs, v = .ref p ∧ H p = some (.lst vs) ∧ TdA H vs (xs.map enc)
def NL {α : Type} [DecidableEq α] [Enc α] (H0 : Hp) (xs : List α) : VP := fun v H => ∃ p vs, v = .ref p ∧ H0 p = none ∧ H p = some (.lst vs) ∧ TdA H vs (xs.map enc)
section
variable {α β γ : Type} [DecidableEq α] [DecidableEq β] [DecidableEq γ] [Enc α] [Enc β] [Enc γ]
instance {a : α} : Mono (D a) := ⟨fun e h => td_t e.t _ h⟩
instance {x : V} : Mono (Is x) := ⟨fun _ h => h⟩
instance {xs : List α} : Mono (Ls xs) := ⟨fun e ⟨p, vs, h1, h2, h3⟩ => ⟨p, vs, h1, e _ _ h2, tda_t e.t _ h3⟩⟩
instance {H0 : Hp} {xs : List α} : Mono (NL H0 xs) := ⟨fun e ⟨p, vs, h1, h0, h2, h3⟩ => ⟨p, vs, h1, h0, e _ _ h2, tda_t e.t _ h3⟩⟩
theorem up {P : VP} [Mono P] {v : V} {H H' : Hp} (h : P v H) (e : Ex H H') : P v H' := Mono.mono e h
theorem NL.ls {H0 H : Hp} {xs : List α} {v : V} (h : NL H0 xs v H) : Ls xs v H := let ⟨p, vs, h1, _, h2, h3⟩ := h; ⟨p, vs, h1, h2, h3⟩
theorem D.t {a : α} {v : V} {H H' : Hp} (h : D a v H) (e : TEx H H') : D a v H' := td_t e _ h
theorem D.ex {a : α} {v : V} {H H' : Hp} (h : D a v H) (e : Ex H H') : D a v H' := td_t e.t _ h
theorem Ls.ex {xs : List α} {v : V} {H H' : Hp} (h : Ls xs v H) (e : Ex H H') : Ls xs v H' := Mono.mono e h
theorem NL.ex {H0 : Hp} {xs : List α} {v : V} {H H' : Hp} (h : NL H0 xs v H) (e : Ex H H') : NL H0 xs v H' := Mono.mono e h
theorem NL.back {H0 H1 : Hp} {xs : List α} {v : V} {H : Hp} (h : NL H1 xs v H) (e : Ex H0 H1) : NL H0 xs v H := let ⟨p, vs, h1, h0, h2, h3⟩ := h; ⟨p, vs, h1, e.free h0, h2, h3⟩
theorem Ls.dp {K : PySem.W.Frag} {xs : List α} {v : V} {H : Hp} (h : Ls xs v H) : Dp K H v (.list (xs.map enc)) := by
  obtain ⟨p, vs, rfl, h2, h3⟩ := h
  exact .lst (sq_of h2) (tda_dp _ h3)

section
variable {K : PySem.W.Frag} {σ : St} {H H' : Hp} {ta tb tc te tl : TE} {t u tt : TT} {P P' : VP} {r : R2}
theorem EV.ex (h : EV te σ H P) (e : Ex H H') : EV te σ H' P := fun H1 a Q q => h H1 (e.trans a) Q q
theorem EB.ex {b : Bool} (h : EB tt σ H b) (e : Ex H H') : EB tt σ H' b := fun H1 a Q q => h H1 (e.trans a) Q q
theorem EA.ex {ta : TA} {R : List V → Hp → Prop} (h : EA ta σ H R) (e : Ex H H') : EA ta σ H' R := fun H1 a Q q => h H1 (e.trans a) Q q
theorem EV.imp (h : EV te σ H P) (i : ∀ v H1, Ex H H1 → P v H1 → P' v H1) : EV te σ H P' := fun H1 a Q q => h H1 a Q fun v H2 e p => q v H2 e (i v H2 (a.trans e) p)
theorem EV.ls {xs : List α} (h : EV te σ H (NL H xs)) : EV te σ H (Ls xs) := h.imp fun _ _ _ => NL.ls
theorem EV.run (h : EV te σ H P) {Q : VK} (q : ∀ v H1, Ex H H1 → P v H1 → Q v H1) : te σ H Q := h H (Ex.refl H) Q q
theorem EB.run {b : Bool} (h : EB tt σ H b) {Q : Bool → Hp → Prop} (q : ∀ H1, Ex H H1 → Q b H1) : tt σ H Q := h H (Ex.refl H) Q q

/-! ### names, constants -/
theorem e_v {i : Nat} {v : V} (h : σ[i]? = some (some v)) (m : ∀ H1, Ex H H1 → P v H1) : EV (tVar i) σ H P := fun H1 e _ q => ⟨v, h, q v H1 (Ex.refl H1) (m H1 e)⟩
theorem e_var [Mono P] {i : Nat} {v : V} (p : P v H) (h : σ[i]? = some (some v) := by rfl) : EV (tVar i) σ H P := e_v h fun _ e => Mono.mono e p
theorem e_is {i : Nat} {v : V} (h : σ[i]? = some (some v) := by rfl) : EV (tVar i) σ H (Is v) := e_v h fun _ _ => rfl
theorem e_int {i : Int} : EV (tC (.int i)) σ H (D i) := fun H1 e _ q => q _ H1 (Ex.refl H1) (Td.int i)
theorem e_nm (a : Nm) : EV (tC (.str a.s)) σ H (D a) := fun H1 e _ q => q _ H1 (Ex.refl H1) (Td.str a.s)
theorem e_str {x : Str} (a : Nm) (h : a.s = x := by rfl) : EV (tC (.str x)) σ H (D a) := by subst h; exact e_nm a
theorem e_c {x : V} : EV (tC x) σ H (Is x) := fun H1 e _ q => q _ H1 (Ex.refl H1) rfl
theorem e_non : EV (tC .non) σ H (D (none : Option Int)) := fun H1 e _ q => q _ H1 (Ex.refl H1) Td.non
theorem D.is_int {i : Int} {v : V} {H : Hp} (h : D i v H) : v = .int i := by
  have h : Td H v (.int i) := h
  cases h; rfl
theorem D.is_nm {a : Nm} {v : V} {H : Hp} (h : D a v H) : v = .str a.s := by
  have h : Td H v (.str a.s) := h
  cases h; rfl
theorem D.of_int (i : Int) (H : Hp) : D i (.int i) H := Td.int i
theorem D.of_nm (a : Nm) (H : Hp) : D a (.str a.s) H := Td.str a.s

/-! ### argument lists, displays -/
theorem ea_nil : EA tNil σ H (fun vs _ => vs = []) := fun H1 _ _ q => q _ H1 (Ex.refl H1) rfl
theorem ea_cons [Mono P] {tr : TA} {R : List V → Hp → Prop} (h : EV te σ H P) (hr : EA tr σ H R) : EA (tCons te tr) σ H (fun vs H' => ∃ v r, vs = v :: r ∧ P v H' ∧ R r H') := fun H1 e _ q =>
  h H1 e _ fun v H2 e2 p => hr H2 (e.trans e2) _ fun r H3 e3 hr => q _ H3 (e2.trans e3) ⟨v, r, rfl, Mono.mono e3 p, hr⟩
theorem e_pair {a : α} {b : β} (h1 : EV ta σ H (D a)) (h2 : EV tb σ H (D b)) : EV (tTup (tCons ta (tCons tb tNil))) σ H (D (a, b)) := fun H1 e Q q =>
  h1 H1 e _ fun v H2 e2 p => h2 H2 (e.trans e2) _ fun w H3 e3 p' => ⟨sz_of (by simp), fun x hx => q _ _ ((e2.trans e3).trans (Ex.new hx))
    (Td.tup upd_same (.cons (td_t ((e3.trans (Ex.new hx)).t) _ p) (.cons (td_t (Ex.new hx).t _ p') .nil)))⟩
theorem e_t3 {a : α} {b : β} {c : γ} (h1 : EV ta σ H (D a)) (h2 : EV tb σ H (D b)) (h3 : EV tc σ H (D c)) : EV (tTup (tCons ta (tCons tb (tCons tc tNil)))) σ H (D (T3.mk a b c)) := fun H1 e Q q =>
  h1 H1 e _ fun v H2 e2 p => h2 H2 (e.trans e2) _ fun w H3 e3 p' => h3 H3 ((e.trans e2).trans e3) _ fun z H4 e4 p'' => ⟨sz_of (by simp), fun x hx => q _ _ (((e2.trans e3).trans e4).trans (Ex.new hx))
    (Td.tup upd_same (.cons (td_t (((e3.trans e4).trans (Ex.new hx)).t) _ p) (.cons (td_t (e4.trans (Ex.new hx)).t _ p') (.cons (td_t (Ex.new hx).t _ p'') .nil))))⟩
/-- a list display of data -/
theorem e_lst {ta : TA} {xs : List α} (h : EA ta σ H (fun vs H' => TdA H' vs (xs.map enc))) (hz : xs.length ≤ 1000) : EV (tLst ta) σ H (NL H xs) := fun H1 e Q q =>
  h H1 e _ fun vs H2 e2 p => ⟨sz_of (by have := tda_len p; rw [List.length_map] at this; omega), fun x hx => q _ _ (e2.trans (Ex.new hx)) ⟨x, vs, rfl, e.free (e2.free hx), upd_same, tda_t (Ex.new hx).t _ p⟩⟩
theorem el_nil : EA tNil σ H (fun vs H' => TdA H' vs (([] : List α).map enc)) := fun H1 _ _ q => q _ H1 (Ex.refl H1) .nil
theorem el_cons {tr : TA} {x : α} {xs : List α} (h : EV te σ H (D x)) (hr : EA tr σ H (fun vs H' => TdA H' vs (xs.map enc))) : EA (tCons te tr) σ H (fun vs H' => TdA H' vs ((x :: xs).map enc)) := fun H1 e _ q =>
  h H1 e _ fun v H2 e2 p => hr H2 (e.trans e2) _ fun r H3 e3 hr => q _ H3 (e2.trans e3) (.cons (td_t e3.t _ p) hr)
theorem e_nil : EV (tLst tNil) σ H (NL H ([] : List α)) := e_lst el_nil (by simp)
theorem e_l1 {x : α} (h : EV te σ H (D x)) : EV (tLst (tCons te tNil)) σ H (NL H [x]) := e_lst (el_cons h el_nil) (by simp)
theorem e_l2 {x y : α} (h : EV ta σ H (D x)) (h' : EV tb σ H (D y)) : EV (tLst (tCons ta (tCons tb tNil))) σ H (NL H [x, y]) := e_lst (el_cons h (el_cons h' el_nil)) (by simp)

/-! ### operators -/
theorem e_op (h1 : EV ta σ H P) [Mono P] {P2 : VP} (h2 : EV tb σ H P2) {P3 : VP} (hr : ∀ x y H1, Ex H H1 → P x H1 → P2 y H1 → ∀ Q : VK, (∀ v H2, Ex H1 H2 → P3 v H2 → Q v H2) → r x y H1 Q) : EV (tOp r ta tb) σ H P3 := fun H1 e Q q =>
  h1 H1 e _ fun x H2 e2 p => h2 H2 (e.trans e2) _ fun y H3 e3 p2 => hr x y H3 ((e.trans e2).trans e3) (Mono.mono e3 p) p2 Q fun v H4 e4 p4 => q v H4 ((e2.trans e3).trans e4) p4
/-- a test by two values -/
theorem b_op (h1 : EV ta σ H P) [Mono P] {P2 : VP} (h2 : EV tb σ H P2) {b : Bool} (hr : ∀ x y H1, Ex H H1 → P x H1 → P2 y H1 → ∀ Q : VK, Q (.bl b) H1 → r x y H1 Q) : EB (tTest (tOp r ta tb)) σ H b := fun H1 e Q q =>
  h1 H1 e _ fun x H2 e2 p => h2 H2 (e.trans e2) _ fun y H3 e3 p2 => hr x y H3 ((e.trans e2).trans e3) (Mono.mono e3 p) p2 _ ⟨b, rfl, q H3 (e2.trans e3)⟩
theorem e_bl (h1 : EV ta σ H P) [Mono P] {P2 : VP} (h2 : EV tb σ H P2) {b : Bool} (hr : ∀ x y H1, Ex H H1 → P x H1 → P2 y H1 → ∀ Q : VK, Q (.bl b) H1 → r x y H1 Q) : EV (tOp r ta tb) σ H (Is (.bl b)) := fun H1 e Q q =>
  h1 H1 e _ fun x H2 e2 p => h2 H2 (e.trans e2) _ fun y H3 e3 p2 => hr x y H3 ((e.trans e2).trans e3) (Mono.mono e3 p) p2 _ (q _ H3 (e2.trans e3) rfl)
theorem b_val {b : Bool} (h : EV te σ H (Is (.bl b))) : EB (tB te) σ H b := fun H1 e Q q => h H1 e _ fun v H2 e2 p => ⟨b, p, q H2 e2⟩
section
variable {x y : V} {H1 : Hp} {Q : VK} {a b : α} {xs ys : List α}
theorem r_eq (hd : Enc.dep α ≤ 63) (p : D a x H1) (p' : D b y H1) (q : Q (.bl (decide (a = b))) H1) : rEqD K x y H1 Q := ⟨_, _, td_dp _ p, td_dp _ p', shaped_enc a hd, shaped_enc b hd, by rw [Enc.eqv]; exact q⟩
theorem r_ne (hd : Enc.dep α ≤ 63) (p : D a x H1) (p' : D b y H1) (q : Q (.bl (!decide (a = b))) H1) : rNeD K x y H1 Q := ⟨_, _, td_dp _ p, td_dp _ p', shaped_enc a hd, shaped_enc b hd, by rw [Enc.eqv]; exact q⟩
theorem r_eqL (hd : Enc.dep α ≤ 63) (p : Ls xs x H1) (p' : Ls ys y H1) (q : Q (.bl (decide (xs = ys))) H1) : rEqD K x y H1 Q := ⟨_, _, p.dp, p'.dp, shaped_list xs hd, shaped_list ys hd, by rw [eqv_list]; exact q⟩
theorem r_neL (hd : Enc.dep α ≤ 63) (p : Ls xs x H1) (p' : Ls ys y H1) (q : Q (.bl (!decide (xs = ys))) H1) : rNeD K x y H1 Q := ⟨_, _, p.dp, p'.dp, shaped_list xs hd, shaped_list ys hd, by rw [eqv_list]; exact q⟩
theorem r_in (hd : Enc.dep α ≤ 63) (p : D a x H1) (p' : Ls xs y H1) (q : Q (.bl (memB a xs)) H1) : rInD K x y H1 Q := ⟨_, _, td_dp _ p, p'.dp, shaped_enc a hd, shaped_list xs hd, by rw [any_enc]; exact q⟩
theorem r_notin (hd : Enc.dep α ≤ 63) (p : D a x H1) (p' : Ls xs y H1) (q : Q (.bl (!memB a xs)) H1) : rNotInD K x y H1 Q := ⟨_, _, td_dp _ p, p'.dp, shaped_enc a hd, shaped_list xs hd, by rw [any_enc]; exact q⟩
end
section
variable {a b : α} {xs ys : List α}
theorem b_eq (h1 : EV ta σ H (D a)) (h2 : EV tb σ H (D b)) (hd : Enc.dep α ≤ 63 := by decide) : EB (tTest (tOp (rEqD K) ta tb)) σ H (decide (a = b)) := b_op h1 h2 fun _ _ _ _ p p' _ q => r_eq hd p p' q
theorem b_ne (h1 : EV ta σ H (D a)) (h2 : EV tb σ H (D b)) (hd : Enc.dep α ≤ 63 := by decide) : EB (tTest (tOp (rNeD K) ta tb)) σ H (!decide (a = b)) := b_op h1 h2 fun _ _ _ _ p p' _ q => r_ne hd p p' q
theorem b_eqL (h1 : EV ta σ H (Ls xs)) (h2 : EV tb σ H (Ls ys)) (hd : Enc.dep α ≤ 63 := by decide) : EB (tTest (tOp (rEqD K) ta tb)) σ H (decide (xs = ys)) := b_op h1 h2 fun _ _ _ _ p p' _ q => r_eqL hd p p' q
theorem b_neL (h1 : EV ta σ H (Ls xs)) (h2 : EV tb σ H (Ls ys)) (hd : Enc.dep α ≤ 63 := by decide) : EB (tTest (tOp (rNeD K) ta tb)) σ H (!decide (xs = ys)) := b_op h1 h2 fun _ _ _ _ p p' _ q => r_neL hd p p' q
theorem b_in (h1 : EV ta σ H (D a)) (h2 : EV tb σ H (Ls xs)) (hd : Enc.dep α ≤ 63 := by decide) : EB (tTest (tOp (rInD K) ta tb)) σ H (memB a xs) := b_op h1 h2 fun _ _ _ _ p p' _ q => r_in hd p p' q
theorem b_notin (h1 : EV ta σ H (D a)) (h2 : EV tb σ H (Ls xs)) (hd : Enc.dep α ≤ 63 := by decide) : EB (tTest (tOp (rNotInD K) ta tb)) σ H (!memB a xs) := b_op h1 h2 fun _ _ _ _ p p' _ q => r_notin hd p p' q
theorem e_eqB (h1 : EV ta σ H (D a)) (h2 : EV tb σ H (D b)) (hd : Enc.dep α ≤ 63 := by decide) : EV (tOp (rEqD K) ta tb) σ H (Is (.bl (decide (a = b)))) := e_bl h1 h2 fun _ _ _ _ p p' _ q => r_eq hd p p' q
theorem e_neB (h1 : EV ta σ H (D a)) (h2 : EV tb σ H (D b)) (hd : Enc.dep α ≤ 63 := by decide) : EV (tOp (rNeD K) ta tb) σ H (Is (.bl (!decide (a = b)))) := e_bl h1 h2 fun _ _ _ _ p p' _ q => r_ne hd p p' q
theorem e_eqLB (h1 : EV ta σ H (Ls xs)) (h2 : EV tb σ H (Ls ys)) (hd : Enc.dep α ≤ 63 := by decide) : EV (tOp (rEqD K) ta tb) σ H (Is (.bl (decide (xs = ys)))) := e_bl h1 h2 fun _ _ _ _ p p' _ q => r_eqL hd p p' q
theorem e_neLB (h1 : EV ta σ H (Ls xs)) (h2 : EV tb σ H (Ls ys)) (hd : Enc.dep α ≤ 63 := by decide) : EV (tOp (rNeD K) ta tb) σ H (Is (.bl (!decide (xs = ys)))) := e_bl h1 h2 fun _ _ _ _ p p' _ q => r_neL hd p p' q
theorem e_inB (h1 : EV ta σ H (D a)) (h2 : EV tb σ H (Ls xs)) (hd : Enc.dep α ≤ 63 := by decide) : EV (tOp (rInD K) ta tb) σ H (Is (.bl (memB a xs))) := e_bl h1 h2 fun _ _ _ _ p p' _ q => r_in hd p p' q
end
/-! ### ints -/
section
variable {i j : Int}
theorem e_I0 {g : Int → Int → Int} (h1 : EV ta σ H (D i)) (h2 : EV tb σ H (D j)) : EV (tOp (rI0 fun i j => .int (g i j)) ta tb) σ H (D (g i j)) := e_op h1 h2 fun x y H1 e p p' Q q => by
  cases p.is_int; cases p'.is_int
  exact ⟨i, j, rfl, rfl, q _ H1 (Ex.refl H1) (D.of_int _ _)⟩
theorem e_I {C : Int → Int → Prop} {g : Int → Int → Int} (hc : C i j) (h1 : EV ta σ H (D i)) (h2 : EV tb σ H (D j)) : EV (tOp (rI C fun i j => .int (g i j)) ta tb) σ H (D (g i j)) := e_op h1 h2 fun x y H1 e p p' Q q => by
  cases p.is_int; cases p'.is_int
  exact ⟨i, j, rfl, rfl, hc, q _ H1 (Ex.refl H1) (D.of_int _ _)⟩
theorem b_I0 {g : Int → Int → Bool} (h1 : EV ta σ H (D i)) (h2 : EV tb σ H (D j)) : EB (tTest (tOp (rI0 fun i j => .bl (g i j)) ta tb)) σ H (g i j) := b_op h1 h2 fun x y H1 e p p' Q q => by
  cases p.is_int; cases p'.is_int
  exact ⟨i, j, rfl, rfl, q⟩
theorem e_B0 {g : Int → Int → Bool} (h1 : EV ta σ H (D i)) (h2 : EV tb σ H (D j)) : EV (tOp (rI0 fun i j => .bl (g i j)) ta tb) σ H (Is (.bl (g i j))) := e_bl h1 h2 fun x y H1 e p p' Q q => by
  cases p.is_int; cases p'.is_int
  exact ⟨i, j, rfl, rfl, q⟩
end
/-! ### and, or, not -/
theorem b_and {a b : Bool} (h1 : EB t σ H a) (h2 : a = true → EB u σ H b) : EB (tAnd t u) σ H (a && b) := fun H1 e Q q => h1 H1 e _ fun H2 e2 => by
  cases a with
  | true =>
    show u σ H2 Q
    exact h2 rfl H2 (e.trans e2) Q fun H3 e3 => q H3 (e2.trans e3)
  | false =>
    show Q false H2
    exact q H2 e2
theorem b_or {a b : Bool} (h1 : EB t σ H a) (h2 : a = false → EB u σ H b) : EB (tOr t u) σ H (a || b) := fun H1 e Q q => h1 H1 e _ fun H2 e2 => by
  cases a with
  | true =>
    show Q true H2
    exact q H2 e2
  | false =>
    show u σ H2 Q
    exact h2 rfl H2 (e.trans e2) Q fun H3 e3 => q H3 (e2.trans e3)
theorem b_not {a : Bool} (h1 : EB t σ H a) : EB (tNot t) σ H (!a) := fun H1 e _ q => h1 H1 e _ fun H2 e2 => q H2 e2
theorem b_to {a b : Bool} (h : EB t σ H a) (e : a = b) : EB t σ H b := by subst e; exact h
theorem e_andV {a b : Bool} (h1 : EV ta σ H (Is (.bl a))) (h2 : a = true → EV tb σ H (Is (.bl b))) : EV (tAndV ta tb) σ H (Is (.bl (a && b))) := fun H1 e Q q => h1 H1 e _ fun v H2 e2 p => ⟨a, p, by
  cases a with
  | true =>
    show tb σ H2 Q
    exact h2 rfl H2 (e.trans e2) Q fun v H3 e3 p => q v H3 (e2.trans e3) p
  | false =>
    show Q (.bl false) H2
    exact q _ H2 e2 rfl⟩
theorem e_orV {a b : Bool} (h1 : EV ta σ H (Is (.bl a))) (h2 : a = false → EV tb σ H (Is (.bl b))) : EV (tOrV ta tb) σ H (Is (.bl (a || b))) := fun H1 e Q q => h1 H1 e _ fun v H2 e2 p => ⟨a, p, by
  cases a with
  | true =>
    show Q (.bl true) H2
    exact q _ H2 e2 rfl
  | false =>
    show tb σ H2 Q
    exact h2 rfl H2 (e.trans e2) Q fun v H3 e3 p => q v H3 (e2.trans e3) p⟩
theorem e_notV {a : Bool} (h1 : EV ta σ H (Is (.bl a))) : EV (tNotV ta) σ H (Is (.bl (!a))) := fun H1 e _ q => h1 H1 e _ fun v H2 e2 p => ⟨a, p, q _ H2 e2 rfl⟩
theorem e_if {b : Bool} (h : EB t σ H b) (h1 : b = true → EV ta σ H P) (h2 : b = false → EV tb σ H P) : EV (tIf t ta tb) σ H P := fun H1 e Q q => h H1 e _ fun H2 e2 => by
  cases b with
  | true =>
    show ta σ H2 Q
    exact h1 rfl H2 (e.trans e2) Q fun v H3 e3 p => q v H3 (e2.trans e3) p
  | false =>
    show tb σ H2 Q
    exact h2 rfl H2 (e.trans e2) Q fun v H3 e3 p => q v H3 (e2.trans e3) p
/-! ### lists, tuples -/
theorem e_ixL {xs : List α} {i : Int} {j : Nat} {x : α} (h1 : EV ta σ H (Ls xs)) (h2 : EV tb σ H (D i)) (hi : atI xs i = some x) : EV (tOp (rIxL K) ta tb) σ H (D x) := e_op h1 h2 fun v y H1 e p p' Q q => by
  cases p'.is_int
  obtain ⟨p, vs, rfl, hp, ha⟩ := p
  obtain ⟨k, hk, hx, hl, _⟩ := atI_get hi
  obtain ⟨d, hd, ht⟩ := tda_at (i := k) ha (by rw [List.getElem?_map, hx]; rfl)
  have hz := tda_len ha
  rw [List.length_map] at hz
  refine ⟨p, vs, i, d, rfl, rfl, sq_of hp, ?_, q _ H1 (Ex.refl H1) ht⟩
  unfold atI at hi ⊢
  rw [hz]
  cases e : ixN xs.length i with
  | none => rw [e] at hi; cases hi
  | some m =>
    rw [e] at hi
    have hm : xs[m]? = some x := hi
    have e2 := ixN_seq e
    have : m = k := by
      have q1 := e2.1
      rw [hk] at q1
      exact (Option.some.inj q1).symm
    subst this
    exact hd
theorem e_ixP0 {a : α} {b : β} (h1 : EV ta σ H (D (a, b))) : EV (tOp (rIxT K) ta (tC (.int 0))) σ H (D a) := e_op h1 e_int fun v y H1 e p p' Q q => by
  cases p'.is_int
  have p : Td H1 v (.tuple [enc a, enc b]) := p
  cases p with
  | tup hp ha =>
    rename_i vs
    cases ha with
    | cons g1 g2 => exact ⟨_, _, 0, _, rfl, rfl, st_of hp, atI_nat (j := 0) rfl, q _ H1 (Ex.refl H1) g1⟩
theorem e_ixP1 {a : α} {b : β} (h1 : EV ta σ H (D (a, b))) : EV (tOp (rIxT K) ta (tC (.int 1))) σ H (D b) := e_op h1 e_int fun v y H1 e p p' Q q => by
  cases p'.is_int
  have p : Td H1 v (.tuple [enc a, enc b]) := p
  cases p with
  | tup hp ha =>
    rename_i vs
    cases ha with
    | cons g1 g2 =>
      cases g2 with
      | cons g2 g3 => exact ⟨_, _, 1, _, rfl, rfl, st_of hp, atI_nat (j := 1) rfl, q _ H1 (Ex.refl H1) g2⟩
theorem e_cat {xs ys : List α} (h1 : EV ta σ H (Ls xs)) (h2 : EV tb σ H (Ls ys)) (hz : xs.length + ys.length ≤ 100000) : EV (tOp rCat ta tb) σ H (NL H (xs ++ ys)) := e_op h1 h2 fun v y H1 e p p' Q q => by
  obtain ⟨p, vs, rfl, hp, ha⟩ := p
  obtain ⟨p', us, rfl, hp', ha'⟩ := p'
  have z1 := tda_len ha
  have z2 := tda_len ha'
  rw [List.length_map] at z1 z2
  refine ⟨p, p', vs, us, rfl, rfl, hp, hp', sz_of (by omega), fun l hl => q _ _ (Ex.new hl) ⟨l, _, rfl, e.free hl, upd_same, ?_⟩⟩
  rw [List.map_append]
  exact tda_t (Ex.new hl).t _ (tda_app ha ha')
def rLen (K : PySem.W.Frag) : List V → Hp → VK → Prop := fun xs H Q => ∃ p ys, xs = [.ref p] ∧ (SqL K H p ys ∨ SqT K H p ys) ∧ Q (.int ys.length) H
theorem e_len {xs : List α} (h : EV te σ H (Ls xs)) : EV (tCB (rLen K) (tCons te tNil)) σ H (D (xs.length : Int)) := fun H1 e Q q =>
  h H1 e _ fun v H2 e2 p => by
    obtain ⟨p, vs, rfl, hp, ha⟩ := p
    have z := tda_len ha
    rw [List.length_map] at z
    exact ⟨p, vs, rfl, Or.inl (sq_of hp), by rw [z]; exact q _ H2 e2 (D.of_int _ _)⟩
def rListS (K : PySem.W.Frag) : List V → Hp → VK → Prop := fun xs H Q => ∃ p ys, xs = [.ref p] ∧ (SqL K H p ys ∨ SqT K H p ys) ∧ ∀ l, H l = none → Q (.ref l) (upd H l (.lst ys))
theorem e_list {xs : List α} (h : EV te σ H (Ls xs)) : EV (tCB (rListS K) (tCons te tNil)) σ H (NL H xs) := fun H1 e Q q =>
  h H1 e _ fun v H2 e2 p => by
    obtain ⟨p, vs, rfl, hp, ha⟩ := p
    exact ⟨p, vs, rfl, Or.inl (sq_of hp), fun l hl => q _ _ (e2.trans (Ex.new hl)) ⟨l, _, rfl, e.free (e2.free hl), upd_same, tda_t (Ex.new hl).t _ ha⟩⟩
/-! ### calls -/
theorem e_call0 {sp : Sp} {E : XK} (hs : ∀ H1, Ex H H1 → ∀ Q : VK, (∀ v H2, Ex H1 H2 → P v H2 → Q v H2) → sp [] H1 Q E) : EV (tCall sp [] E tNil) σ H P := fun H1 e Q q => hs H1 e Q q
theorem e_call1 {P1 : VP} {sp : Sp} {E : XK} (h1 : EV ta σ H P1) (hs : ∀ x H1, Ex H H1 → P1 x H1 → ∀ Q : VK, (∀ v H2, Ex H1 H2 → P v H2 → Q v H2) → sp [x] H1 Q E) : EV (tCall sp [] E (tCons ta tNil)) σ H P := fun H1 e Q q =>
  h1 H1 e _ fun x H2 e2 p => hs x H2 (e.trans e2) p Q fun v H3 e3 => q v H3 (e2.trans e3)
theorem e_call2 {P1 P2 : VP} [Mono P1] {sp : Sp} {E : XK} (h1 : EV ta σ H P1) (h2 : EV tb σ H P2) (hs : ∀ x y H1, Ex H H1 → P1 x H1 → P2 y H1 → ∀ Q : VK, (∀ v H2, Ex H1 H2 → P v H2 → Q v H2) → sp [x, y] H1 Q E) : EV (tCall sp [] E (tCons ta (tCons tb tNil))) σ H P := fun H1 e Q q =>
  h1 H1 e _ fun x H2 e2 p => h2 H2 (e.trans e2) _ fun y H3 e3 p2 => hs x y H3 ((e.trans e2).trans e3) (Mono.mono e3 p) p2 Q fun v H4 e4 => q v H4 ((e2.trans e3).trans e4)
theorem e_call3 {P1 P2 P3 : VP} [Mono P1] [Mono P2] {sp : Sp} {E : XK} (h1 : EV ta σ H P1) (h2 : EV tb σ H P2) (h3 : EV tc σ H P3) (hs : ∀ x y z H1, Ex H H1 → P1 x H1 → P2 y H1 → P3 z H1 → ∀ Q : VK, (∀ v H2, Ex H1 H2 → P v H2 → Q v H2) → sp [x, y, z] H1 Q E) : EV (tCall sp [] E (tCons ta (tCons tb (tCons tc tNil)))) σ H P := fun H1 e Q q =>
  h1 H1 e _ fun x H2 e2 p => h2 H2 (e.trans e2) _ fun y H3 e3 p2 => h3 H3 ((e.trans e2).trans e3) _ fun z H4 e4 p3 => hs x y z H4 (((e.trans e2).trans e3).trans e4) (Mono.mono (e3.trans e4) p) (Mono.mono e4 p2) p3 Q fun v H5 e5 => q v H5 (((e2.trans e3).trans e4).trans e5)

/-! ### statements -/
variable {Z : Ends} {tu tw : TS} {g : TG}
theorem s_set {i : Nat} (h : EV te σ H P) (k : ∀ v H1, Ex H H1 → P v H1 → Z.nx (σ.set i (some v)) H1) : tAsg te (gName i) Z σ H := h.run k
theorem s_ret (h : EV te σ H P) (k : ∀ v H1, Ex H H1 → P v H1 → Z.rt v H1) : tRet te Z σ H := h.run k
theorem s_drop (h : EV te σ H P) (k : ∀ v H1, Ex H H1 → P v H1 → Z.nx σ H1) : tDrop te Z σ H := h.run k
theorem s_if {b : Bool} (h : EB t σ H b) (h1 : b = true → ∀ H1, Ex H H1 → tu Z σ H1) (h2 : b = false → ∀ H1, Ex H H1 → tw Z σ H1) : tIfS t tu tw Z σ H := h.run fun H1 e => by
  cases b with
  | true =>
    show tu Z σ H1
    exact h1 rfl H1 e
  | false =>
    show tw Z σ H1
    exact h2 rfl H1 e
theorem g_pair {a : α} {b : β} {v : V} {i j : Nat} {Q : St → Hp → Prop} (h : D (a, b) v H) (k : ∀ x y, D a x H → D b y H → Q ((σ.set i (some x)).set j (some y)) H) : gTup K 2 (gCons (gName i) (gCons (gName j) gNil)) v σ H Q := by
  have p : Td H v (.tuple [enc a, enc b]) := h
  cases p with
  | tup hp ha =>
    cases ha with
    | cons g1 g2 =>
      cases g2 with
      | cons g2 g3 =>
        cases g3
        exact ⟨_, _, rfl, st_of hp, rfl, _, _, rfl, _, _, rfl, rfl, k _ _ g1 g2⟩
theorem g_t3 {a : α} {b : β} {c : γ} {v : V} {i j l : Nat} {Q : St → Hp → Prop} (h : D (T3.mk a b c) v H) (k : ∀ x y z, D a x H → D b y H → D c z H → Q (((σ.set i (some x)).set j (some y)).set l (some z)) H) : gTup K 3 (gCons (gName i) (gCons (gName j) (gCons (gName l) gNil))) v σ H Q := by
  have p : Td H v (.tuple [enc a, enc b, enc c]) := h
  cases p with
  | tup hp ha =>
    cases ha with
    | cons g1 g2 =>
      cases g2 with
      | cons g2 g3 =>
        cases g3 with
        | cons g3 g4 =>
          cases g4
          exact ⟨_, _, rfl, st_of hp, rfl, _, _, rfl, _, _, rfl, _, _, rfl, rfl, k _ _ _ g1 g2 g3⟩
theorem g_pairX {a : α} {b : β} {v : V} {i j : Nat} (h : D (a, b) v H) : ∃ x y, D a x H ∧ D b y H ∧ ∀ (σ : St) H2 (Q : St → Hp → Prop), Ex H H2 → Q ((σ.set i (some x)).set j (some y)) H2 → gTup K 2 (gCons (gName i) (gCons (gName j) gNil)) v σ H2 Q := by
  have p : Td H v (.tuple [enc a, enc b]) := h
  cases p with
  | tup hp ha =>
    cases ha with
    | cons g1 g2 =>
      cases g2 with
      | cons g2 g3 =>
        cases g3
        exact ⟨_, _, g1, g2, fun σ H2 Q e q => ⟨_, _, rfl, st_of (e _ _ hp), rfl, _, _, rfl, _, _, rfl, rfl, q⟩⟩
theorem g_t3X {a : α} {b : β} {c : γ} {v : V} {i j l : Nat} (h : D (T3.mk a b c) v H) : ∃ x y z, D a x H ∧ D b y H ∧ D c z H ∧ ∀ (σ : St) H2 (Q : St → Hp → Prop), Ex H H2 → Q (((σ.set i (some x)).set j (some y)).set l (some z)) H2 → gTup K 3 (gCons (gName i) (gCons (gName j) (gCons (gName l) gNil))) v σ H2 Q := by
  have p : Td H v (.tuple [enc a, enc b, enc c]) := h
  cases p with
  | tup hp ha =>
    cases ha with
    | cons g1 g2 =>
      cases g2 with
      | cons g2 g3 =>
        cases g3 with
        | cons g3 g4 =>
          cases g4
          exact ⟨_, _, _, g1, g2, g3, fun σ H2 Q e q => ⟨_, _, rfl, st_of (e _ _ hp), rfl, _, _, rfl, _, _, rfl, _, _, rfl, rfl, q⟩⟩
/-- for x in a list that stays -/
theorem s_for {xs : List α} (h : EV tl σ H P) (hP : ∀ v H1, P v H1 → Ls xs v H1) (Inv : Hp → V → List α → St → Hp → Prop) (h0 : ∀ v H1, Ex H H1 → P v H1 → Inv H1 v [] σ H1)
    (hk : ∀ v H1 pre σ' H', Ex H H1 → P v H1 → Inv H1 v pre σ' H' → Ls xs v H')
    (hs : ∀ v H1 pre x post y σ' H', Ex H H1 → P v H1 → xs = pre ++ x :: post → Inv H1 v pre σ' H' → D x y H' → g y σ' H' fun σ2 H2 => tu { Z with nx := Inv H1 v (pre ++ [x]), ct := Inv H1 v (pre ++ [x]), bk := Z.nx } σ2 H2)
    (hd : ∀ v H1 σ' H', Ex H H1 → P v H1 → Inv H1 v xs σ' H' → Z.nx σ' H') : tFor (iList K tl) g tu Z σ H := by
  refine h.run fun v H1 e p => ?_
  obtain ⟨a, vs, rfl, ha, hv⟩ := hP v H1 p
  have hz : vs.length = xs.length := by have := tda_len hv; rwa [List.length_map] at this
  have same : ∀ pre σ' H', Inv H1 (.ref a) pre σ' H' → ∃ us, H' a = some (.lst us) ∧ TdA H' us (xs.map enc) := fun pre σ' H' q => by
    obtain ⟨b, us, eb, hb, hu⟩ := hk _ H1 pre σ' H' e p q
    cases eb
    exact ⟨us, hb, hu⟩
  refine ⟨a, rfl, ⟨vs, sq_of ha⟩, fun i m σ' H' => m = xs.length - i ∧ i ≤ xs.length ∧ Inv H1 (.ref a) (xs.take i) σ' H', ⟨_, rfl, Nat.zero_le _, by rw [List.take_zero]; exact h0 _ H1 e p⟩, ?_⟩
  rintro i m σ' H' ⟨rfl, hi, q⟩
  obtain ⟨us, hb, hu⟩ := same _ σ' H' q
  have hz' : us.length = xs.length := by have := tda_len hu; rwa [List.length_map] at this
  by_cases hlt : i < xs.length
  · refine .inr ⟨⟨us, us[i]'(by omega), sq_of hb, by simp [hz', hlt]⟩, Inv H1 (.ref a) (xs.take (i + 1)), fun σ'' H'' p' => ⟨xs.length - (i + 1), by omega, rfl, by omega, p'⟩, fun x H'' y => ?_⟩
    obtain ⟨ee, y⟩ := y
    subst ee
    have hx := y us (sq_of hb)
    obtain ⟨d, hd', ht⟩ := tda_get hu hx
    have hx' : xs[i]? = some xs[i] := List.getElem?_eq_getElem hlt
    rw [List.getElem?_map, hx'] at hd'
    have hd'' : enc xs[i] = d := Option.some.inj hd'
    subst hd''
    have et : xs.take (i + 1) = xs.take i ++ [xs[i]] := by rw [List.take_add_one, hx']; rfl
    rw [et]
    refine hs _ H1 (xs.take i) xs[i] (xs.drop (i + 1)) x σ' _ e p ?_ q ht
    rw [← List.drop_eq_getElem_cons hlt, List.take_append_drop]
  · have ei : i = xs.length := by omega
    subst ei
    rw [List.take_length] at q
    exact .inl ⟨⟨us, sq_of hb, by omega⟩, hd _ H1 σ' H' e p q⟩
/-- for k in range(n) -/
theorem s_forR {ta : TA} {n : Int} (h : EA ta σ H (fun vs _ => vs = [.int n])) (hn : n ≤ 100000) (hn0 : -100000 ≤ n) (Pv : Nat → St → Hp → Prop) {j : Nat} (h0 : ∀ H1, Ex H H1 → Pv 0 σ H1)
    (hs : ∀ (i : Nat) σ' H', (i : Int) < n → Pv i σ' H' → tu { Z with nx := Pv (i + 1), ct := Pv (i + 1), bk := Z.nx } (σ'.set j (some (.int (i : Int)))) H') (hd : ∀ σ' H', Pv n.toNat σ' H' → Z.nx σ' H') : tFor (iRng1 ta) (gName j) tu Z σ H :=
  h H (Ex.refl H) _ fun vs H1 e q => ⟨n, q, by omega, by omega, for_range (lo := 0) (n := n.toNat) Pv (h0 H1 e) (fun i σ' H' hi p => by
    have e0 : (0 : Int) + (i : Int) = (i : Int) := Int.zero_add _
    show tu { Z with nx := Pv (i + 1), ct := Pv (i + 1), bk := Z.nx } (σ'.set j (some (.int ((0 : Int) + (i : Int))))) H'
    rw [e0]
    exact hs i σ' H' (by omega) p) hd⟩
theorem ea_int1 {n : Int} (h : EV te σ H (D n)) : EA (tCons te tNil) σ H (fun vs _ => vs = [.int n]) := fun H1 e Q q => h H1 e _ fun v H2 e2 p => by
  cases p.is_int
  exact q _ H2 e2 rfl
/-- while, by a word that falls -/
theorem s_while (W : Nat → St → Hp → Prop) (m0 : Nat) (h0 : W m0 σ H)
    (hs : ∀ m σ' H', W m σ' H' → ∃ b, EB t σ' H' b ∧ (b = true → ∀ H1, Ex H' H1 → tu { Z with nx := fun σ2 H2 => ∃ m', m' < m ∧ W m' σ2 H2, ct := fun σ2 H2 => ∃ m', m' < m ∧ W m' σ2 H2, bk := Z.nx } σ' H1) ∧ (b = false → ∀ H1, Ex H' H1 → Z.nx σ' H1)) : tWhile t tu Z σ H :=
  ⟨W, ⟨m0, h0⟩, fun m σ' H' hw => by
    obtain ⟨b, hb, h1, h2⟩ := hs m σ' H' hw
    refine hb.run fun H1 e => ?_
    cases b with
    | true => exact ⟨_, fun _ _ q => q, h1 rfl H1 e⟩
    | false => exact h2 rfl H1 e⟩
/-! ### comprehensions -/
theorem fm_snoc (xs : List α) (p : α → Bool) (f : α → β) (x : α) (pre : List α) : ((pre ++ [x]).filter p).map f = (pre.filter p).map f ++ if p x = true then [f x] else [] := by
  rw [List.filter_append, List.map_append]
  congr 1
  by_cases h : p x = true
  · rw [if_pos h, List.filter_cons_of_pos h] <;> rfl
  · rw [if_neg h, List.filter_cons_of_neg h] <;> rfl
/-- [e for t in xs if c], by what the target makes of an item -/
theorem e_lcG {xs : List α} {vs : List Nat} (f : α → β) (p : α → Bool) (hl : EV tl σ H (Ls xs)) (hz : xs.length ≤ 40000)
    (hg : ∀ x v H1, x ∈ xs → Ex H H1 → D x v H1 → ∃ σ2, (∀ H2 Q, Ex H1 H2 → Q σ2 H2 → g v (wipe σ vs) H2 Q) ∧ wipe σ2 vs = wipe σ vs ∧ EB tt σ2 H1 (p x) ∧ (p x = true → EV te σ2 H1 (D (f x)))) :
    EV (tLc (iList K tl) g tt te vs) σ H (NL H ((xs.filter p).map f)) := fun H0 e Q q => hl H0 e _ fun v H1 e1 pl => by
  obtain ⟨a, us, rfl, ha, hu⟩ := pl
  have hzu : us.length = xs.length := by have := tda_len hu; rwa [List.length_map] at this
  refine ⟨a, rfl, ⟨us, sq_of ha⟩, fun Dl hD => ?_⟩
  refine lc_list (K := K) (a := a) (xs := us) (fun i H' => Ex H1 H' ∧ ∃ ws, H' Dl = some (.lst ws) ∧ TdA H' ws ((((xs.take i).filter p).map f).map enc)) ⟨Ex.new hD, [], upd_same, by rw [List.take_zero]; exact .nil⟩ (fun i H' _ z => sq_of (z.1 _ _ ha)) ?_ ?_
  · rintro i x H' hx ⟨e2, ws, hw, hd⟩
    have hi : i < xs.length := by have := (List.getElem?_eq_some_iff.mp hx).1; omega
    have hx' : xs[i]? = some xs[i] := List.getElem?_eq_getElem hi
    obtain ⟨d, hd', ht⟩ := tda_get hu hx
    rw [List.getElem?_map, hx'] at hd'
    have hd'' : enc xs[i] = d := Option.some.inj hd'
    subst hd''
    have et : xs.take (i + 1) = xs.take i ++ [xs[i]] := by rw [List.take_add_one, hx']; rfl
    obtain ⟨σ2, hQ, hw2, hb, he⟩ := hg xs[i] x H1 (List.getElem_mem hi) (e.trans e1) ht
    refine hQ H' _ e2 ⟨hw2, hb H' e2 _ fun H3 e3 => ?_⟩
    have hwl : ws.length ≤ i := by
      have z := tda_len hd
      rw [List.length_map, List.length_map] at z
      have z2 := List.length_filter_le p (xs.take i)
      rw [List.length_take] at z2
      omega
    cases hp : p xs[i] with
    | true =>
      rw [if_pos rfl]
      refine he hp H3 (e2.trans e3) _ fun y H4 e4 py => ⟨ws, e4 _ _ (e3 _ _ hw), sz_lt (by omega), Ex.mut ((e2.trans e3).trans e4) hD, ws ++ [y], upd_same, ?_⟩
      have tx : TEx H4 (upd H4 Dl (.lst (ws ++ [y]))) := TEx.upd (e4 _ _ (e3 _ _ hw)) True.intro
      rw [et, fm_snoc xs, if_pos hp, List.map_append]
      exact tda_app (tda_t ((e3.trans e4).t.trans tx) _ hd) (tda_one (td_t tx _ py))
    | false =>
      show _ ∧ _
      refine ⟨e2.trans e3, ws, e3 _ _ hw, ?_⟩
      rw [et, fm_snoc xs, if_neg (by rw [hp]; decide), List.append_nil]
      exact tda_t e3.t _ hd
  · rintro H' ⟨e2, ws, hw, hd⟩
    rw [hzu, List.take_length] at hd
    exact q _ H' (e1.trans e2) ⟨Dl, ws, rfl, e.free (e1.free hD), hw, hd⟩
/-- [e for x in xs if c] -/
theorem e_lc {xs : List α} {vs : List Nat} {j : Nat} (f : α → β) (p : α → Bool) (hl : EV tl σ H (Ls xs)) (hz : xs.length ≤ 40000) (hw : ∀ x, wipe ((wipe σ vs).set j (some x)) vs = wipe σ vs)
    (ht : ∀ x v H1, x ∈ xs → Ex H H1 → D x v H1 → EB tt ((wipe σ vs).set j (some v)) H1 (p x)) (he : ∀ x v H1, x ∈ xs → p x = true → Ex H H1 → D x v H1 → EV te ((wipe σ vs).set j (some v)) H1 (D (f x))) :
    EV (tLc (iList K tl) (gName j) tt te vs) σ H (NL H ((xs.filter p).map f)) :=
  e_lcG f p hl hz fun x v H1 hx e d => ⟨_, fun _ _ _ q => q, hw _, ht x v H1 hx e d, fun hp => he x v H1 hx hp e d⟩
theorem b_yes : EB tYes σ H true := fun H1 e Q q => q H1 (Ex.refl H1)
/-- [e for x in xs] -/
theorem e_lc0 {xs : List α} {vs : List Nat} {j : Nat} (f : α → β) (hl : EV tl σ H (Ls xs)) (hz : xs.length ≤ 40000) (hw : ∀ x, wipe ((wipe σ vs).set j (some x)) vs = wipe σ vs)
    (he : ∀ x v H1, x ∈ xs → Ex H H1 → D x v H1 → EV te ((wipe σ vs).set j (some v)) H1 (D (f x))) :
    EV (tLc (iList K tl) (gName j) tYes te vs) σ H (NL H (xs.map f)) := by
  have h := e_lc (K := K) (tt := tYes) f (fun _ => true) hl hz hw (fun _ _ _ _ _ _ => b_yes) (fun x v H1 hx _ e d => he x v H1 hx e d)
  rwa [List.filter_eq_self.mpr (fun _ _ => rfl)] at h
end
end
end TK

namespace L2
open PySem PySem.Spec PyProof.Rows
theorem Room.units70 {k : Nat} {A : Around} (r : Room k A) : A.units + 70 < cLine := by have := r.un; omega
theorem Room.units65 {k : Nat} {A : Around} (r : Room k A) : A.units + 65 < cLine := by have := r.un; omega
/-! ### defs that may be called: by name, a method, a class -/
structure Cl1 (P : Program) (w : World) (K : PySem.W.Frag) (mg : Str → Option Value) (base : Heap) (CX : CXT) (k : Nat) (x : Str) (sp : Sp) : Prop where
  ex : ∃ f fd ps, FnOk P w K mg base CX k f fd ps sp ∧ mg x = some (.ref f) ∧ PySem.W.keepIn K (.ref f) = true ∧ Binds K fd ps []
structure Mt1 (P : Program) (w : World) (K : PySem.W.Frag) (mg : Str → Option Value) (base : Heap) (CX : CXT) (k : Nat) (C : Addr) (m : Str) (sp : Sp) : Prop where
  ex : ∃ f fd ps, Cls K C ∧ Meth K C m f ∧ FnOk P w K mg base CX k f fd ps sp ∧ Binds K fd ps []
structure Mk1 (P : Program) (w : World) (K : PySem.W.Frag) (mg : Str → Option Value) (base : Heap) (CX : CXT) (k : Nat) (x : Str) (C : Addr) (sp : Sp) : Prop where
  ex : ∃ f fd ps, Mk K C f ∧ FnOk P w K mg base CX k f fd ps sp ∧ mg x = some (.ref C) ∧ Binds K fd ps []
section
variable {X : Cx} {CX : CXT} {k j : Nat} {C : Addr} {x m : Str} {sp : Sp} {E : XK} {p pos apos : Pos} {e o : Expr} {es : List Expr} {ta : TE} {t : TA}
theorem pe_cc (c : Cl1 X.prog X.w X.K X.mg X.base CX k x sp) (hr : Room j X.A) (hk : k ≤ j) (hg : Gl X x) (hx : Passes CX X E) (ha : PA X (e :: es) t)
    (hdb : (x == ("__debug__" : Str)) = false := by decide) (he : starEach (e :: es) X.env = (false, eval e X.env) :: starEach es X.env := by rfl) (hpl : (backTo pos (starEach es X.env)).any (·.1) = false := by rfl) :
    PE X (.Call (.Name x p) (e :: es) [] pos) (tCall sp [] E t) :=
  let ⟨_, _, _, F, hm, kp, b⟩ := c.ex
  pe_call F (hr.mono hk) hg hm kp b .nil hx ha hdb he hpl
theorem pe_mk1 (c : Mk1 X.prog X.w X.K X.mg X.base CX k x C sp) (hr : Room j X.A) (hk : k + 1 ≤ j) (hg : Gl X x) (hx : Passes CX X E) (ha : PA X (e :: es) t)
    (hdb : (x == ("__debug__" : Str)) = false := by decide) (he : starEach (e :: es) X.env = (false, eval e X.env) :: starEach es X.env := by rfl) (hpl : (backTo pos (starEach es X.env)).any (·.1) = false := by rfl) :
    PE X (.Call (.Name x p) (e :: es) [] pos) (tMake C sp [] E t) :=
  let ⟨_, _, _, M, F, hm, b⟩ := c.ex
  pe_make M F (hr.mono hk) hg hm b .nil hx ha hdb he hpl
theorem pe_mm {pl : Sem Bool} (c : Mt1 X.prog X.w X.K X.mg X.base CX k C m sp) (hr : Room j X.A) (hk : k ≤ j) (hx : Passes CX X E) (he : PE X o ta) (ha : PA X (e :: es) t)
    (hst : starEach (e :: es) X.env = (false, eval e X.env) :: starEach es X.env := by rfl) (hpl : (backTo pos (starEach es X.env)).any (·.1) = false := by rfl)
    (ht : eval (.Call (.Attribute o m apos) (e :: es) [] pos) X.env = (do
      let rv ← eval o X.env
      standAt apos.atName
      let (g, first) ← holding [rv] (getMethod rv m pl)
      callWith pos g first (backTo pos (starEach (e :: es) X.env)) (backToKw pos (keywordEach [] X.env))) := by rfl) :
    PE X (.Call (.Attribute o m apos) (e :: es) [] pos) (tMeth C m sp [] E ta t) :=
  let ⟨_, _, _, hc, hm, F, b⟩ := c.ex
  pe_meth (pl := pl) he hc hm F (hr.mono hk) b .nil hx ha hst hpl ht
theorem pe_mm0 {pl : Sem Bool} (c : Mt1 X.prog X.w X.K X.mg X.base CX k C m sp) (hr : Room j X.A) (hk : k ≤ j) (hx : Passes CX X E) (he : PE X o ta)
    (ht : eval (.Call (.Attribute o m apos) [] [] pos) X.env = (do
      let rv ← eval o X.env
      standAt apos.atName
      let (g, first) ← holding [rv] (getMethod rv m pl)
      callWith pos g first (backTo pos (starEach [] X.env)) (backToKw pos (keywordEach [] X.env))) := by rfl) :
    PE X (.Call (.Attribute o m apos) [] [] pos) (tMeth C m sp [] E ta tNil) :=
  let ⟨_, _, _, hc, hm, F, b⟩ := c.ex
  pe_meth0 (pl := pl) he hc hm F (hr.mono hk) b .nil hx ht
/-- within a try: what is raised is wished for at the slots -/
theorem pe_cS {W : St → XK} (c : Cl1 X.prog X.w X.K X.mg X.base CX k x sp) (hr : Room j X.A) (hk : k ≤ j) (hg : Gl X x) (hx : ∀ σ, PassesAt CX X σ (W σ)) (ha : PA X (e :: es) t)
    (hdb : (x == ("__debug__" : Str)) = false := by decide) (he : starEach (e :: es) X.env = (false, eval e X.env) :: starEach es X.env := by rfl) (hpl : (backTo pos (starEach es X.env)).any (·.1) = false := by rfl) :
    PE X (.Call (.Name x p) (e :: es) [] pos) (tCallS sp W t) :=
  let ⟨_, _, _, F, hm, kp, b⟩ := c.ex
  pe_callS F (hr.mono hk) hg hm kp b hx ha hdb he hpl
end
/-! ### the text's facts of a def, a method, an __init__ -/
structure DefT (K : PySem.W.Frag) (mg : Str → Option Value) (x : Str) (st : Stmt) (ps : List Str) : Prop where
  ex : ∃ f fd, Fun K x x st f fd ∧ mg x = some (.ref f) ∧ Binds K fd ps []
structure MetT (K : PySem.W.Frag) (C : Addr) (m qual : Str) (st : Stmt) (ps : List Str) : Prop where
  ex : ∃ f fd, Fun K m qual st f fd ∧ Cls K C ∧ Meth K C m f ∧ Binds K fd ps []
structure IniT (K : PySem.W.Frag) (mg : Str → Option Value) (x : Str) (C : Addr) (qual : Str) (st : Stmt) (ps : List Str) : Prop where
  ex : ∃ f fd, Fun K "__init__" qual st f fd ∧ Mk K C f ∧ mg x = some (.ref C) ∧ Binds K fd ps []
section
variable {P : Program} {w : World} {K : PySem.W.Frag} {mg : Str → Option Value} {base : Heap}
abbrev B0 (P : Program) (w : World) (K : PySem.W.Frag) (mg : Str → Option Value) (base : Heap) (N : List Str) (qual : Str) (st : Stmt) (sp : Sp) (k : Nat) : Prop :=
  ∀ (f : Addr) (cdv : Value) (A : Around) (outer : List Env) (s : Shared) (H : Hp) (vs : List V) (Q : VK) (E : XK), Room k (A.deeper (envOfC qual (defScope st) s.heap.objs.size f cdv)) → sp vs H Q E →
      ∃ t, PSs (cxOf CX0 P w K mg base N qual (defScope st) f cdv A outer s H E).nox (defBody st) t ∧ t { nx := fun _ H' => Q .non H', rt := Q } (start N vs) H
abbrev BX (P : Program) (w : World) (K : PySem.W.Frag) (mg : Str → Option Value) (base : Heap) (N : List Str) (qual : Str) (st : Stmt) (sp : Sp) (k : Nat) : Prop :=
  ∀ (f : Addr) (cdv : Value) (A : Around) (outer : List Env) (s : Shared) (H : Hp) (vs : List V) (Q : VK) (E : XK), Room k (A.deeper (envOfC qual (defScope st) s.heap.objs.size f cdv)) → sp vs H Q E →
      ∃ t, PSs (cxOf (L2.CX P w) P w K mg base N qual (defScope st) f cdv A outer s H E) (defBody st) t ∧ t { nx := fun _ H' => Q .non H', rt := Q } (start N vs) H
variable {x m qual : Str} {st : Stmt} {C : Addr} {N ps : List Str} {k : Nat} {sp : Sp}
theorem cl_mk (F : DefT K mg x st ps) (S : FnScope N ps (defScope st)) (len : ∀ vs H Q E, sp vs H Q E → vs.length = ps.length) (h : B0 P w K mg base N x st sp k) : Cl1 P w K mg base CX0 (k + 1) x sp :=
  let ⟨f, _, G, hm, b⟩ := F.ex
  ⟨f, _, ps, G.ok S len (h f), hm, G.kp, b⟩
theorem cl_mkX (F : DefT K mg x st ps) (S : FnScope N ps (defScope st)) (len : ∀ vs H Q E, sp vs H Q E → vs.length = ps.length) (h : BX P w K mg base N x st sp k) : Cl1 P w K mg base (L2.CX P w) (k + 1) x sp :=
  let ⟨f, _, G, hm, b⟩ := F.ex
  ⟨f, _, ps, G.okX S len (h f), hm, G.kp, b⟩
theorem mt_mk (F : MetT K C m qual st ps) (S : FnScope N ps (defScope st)) (len : ∀ vs H Q E, sp vs H Q E → vs.length = ps.length) (h : B0 P w K mg base N qual st sp k) : Mt1 P w K mg base CX0 (k + 1) C m sp :=
  let ⟨f, _, G, c, hm, b⟩ := F.ex
  ⟨f, _, ps, c, hm, G.ok S len (h f), b⟩
theorem mt_mkX (F : MetT K C m qual st ps) (S : FnScope N ps (defScope st)) (len : ∀ vs H Q E, sp vs H Q E → vs.length = ps.length) (h : BX P w K mg base N qual st sp k) : Mt1 P w K mg base (L2.CX P w) (k + 1) C m sp :=
  let ⟨f, _, G, c, hm, b⟩ := F.ex
  ⟨f, _, ps, c, hm, G.okX S len (h f), b⟩
theorem in_mk (F : IniT K mg x C qual st ps) (S : FnScope N ps (defScope st)) (len : ∀ vs H Q E, sp vs H Q E → vs.length = ps.length) (h : B0 P w K mg base N qual st sp k) : Mk1 P w K mg base CX0 (k + 1) x C sp :=
  let ⟨f, _, G, M, hm, b⟩ := F.ex
  ⟨f, _, ps, M, G.ok S len (h f), hm, b⟩
theorem in_mkX (F : IniT K mg x C qual st ps) (S : FnScope N ps (defScope st)) (len : ∀ vs H Q E, sp vs H Q E → vs.length = ps.length) (h : BX P w K mg base N qual st sp k) : Mk1 P w K mg base (L2.CX P w) (k + 1) x C sp :=
  let ⟨f, _, G, M, hm, b⟩ := F.ex
  ⟨f, _, ps, M, G.okX S len (h f), hm, b⟩
end
/-! ### names for readings that the library writes out -/

def rLenS : List V → Hp → VK → Prop := fun xs H Q => ∃ z, xs = [.str z] ∧ z.length ≤ sizeLine ∧ Q (.int z.length) H
def rIntB : List V → Hp → VK → Prop := fun xs H Q => (∃ i, xs = [.int i] ∧ Q (.int i) H) ∨ ∃ k, xs = [.bl k] ∧ Q (.int (if k then 1 else 0)) H
def rDictD : List V → Hp → VK → Prop := fun xs H Q => ∃ (a : Addr) (kvs : List (Key × V)), xs = [.ref a] ∧ Rd H a (.dK kvs) ∧ ∀ p, H p = none → Q (.ref p) (upd H p (.dK kvs))
def rListD0 : List V → Hp → VK → Prop := fun xs H Q => ∃ (a : Addr) (kvs : List (Key × V)), xs = [.ref a] ∧ Rd H a (.dK kvs) ∧ ∀ p, H p = none → Q (.ref p) (upd H p (.lst (kvs.map fun kv => kV kv.1)))
def rSortedDI : List V → Hp → VK → Prop := fun xs H Q => ∃ (a : Addr) (kvs : List (Key × V)) (ks : List Int), xs = [.ref a] ∧ Rd H a (.dK kvs) ∧ kvs.map (·.1) = ks.map Sum.inl ∧ ks.length < 64 ∧
    ∀ (ys : List Int) (p : Addr), ys.Perm ks → ys.Pairwise (· ≤ ·) → H p = none → Q (.ref p) (upd H p (.lst (ys.map V.int)))
def rLenD : List V → Hp → VK → Prop := fun xs H Q => ∃ a kvs, xs = [V.ref a] ∧ H a = some (.dK kvs) ∧ Q (.int kvs.length) H
abbrev tLenD (t : TA) : TE := tCB rLenD t
abbrev tNo : TO := tNoPart
abbrev tSome (t : TE) : TO := tPart t
section
variable {X : Cx}
theorem op_addS : OpR X (binaryOp .Add) rAddS := op_add_str
end
/-! ### list(reversed(xs)) -/
def tListRev (K : PySem.W.Frag) (te : TE) : TE := fun σ H Q => te σ H fun v H1 => ∃ (a : Addr) (xs : List V), v = .ref a ∧ SqL K H1 a xs ∧ ∀ q, H1 q = none → Q (.ref q) (upd H1 q (.lst xs.reverse))
end L2

namespace L2
open PySem PySem.Spec PyProof.Rows
/-! ### {k: v}, k a tuple -/
def tDisp1T (tk tv : TE) : TE := fun σ H Q => ∀ p, H p = none → tk σ (upd H p (.dT [])) fun x H1 => tv σ H1 fun y H2 => H2 p = some (.dT []) ∧ ∃ (b : Addr) (k : List Key), x = .ref b ∧ H2 b = some (.tup (k.map kV)) ∧ Q (.ref p) (upd H2 p (.dT [(k, y)]))
section
variable {X : Cx}
theorem pe_disp1T {ek ev : Expr} {tk tv : TE} {pos : Pos} (hu : X.A.units + 1 < cLine) (hk : PE X ek tk) (hv : PE X ev tv) : PE X (.Dict [some ek] [ev] pos) (tDisp1T tk tv) := by
  refine ⟨fun pins s σ H Q I q => ?_⟩
  have hn := I.hok.fresh (Nat.le_refl s.heap.objs.size)
  have I1 := I.laid (a := s.heap.objs.size) (o := .dT []) (h' := s.heap.push { cls := .type "dict", data := .dict #[] }) (t' := s.toks) (fun _ _ z => Heap.get?_push_of_some _ z) (Nat.le_refl _) (dt_empty s.heap I.big)
  rw [arm_eval_Dict, zip_pairTrees [some ek] [ev] X.env pos rfl rfl, dictDisplay_pairs _ (fun z => by cases z) (by show 1 < 17; decide)]
  refine wpAny_bind (wpAny_standAt (wpAny_bind (wpAny_subDictH (knd := tupleKind (mixKind X.prog X.w)) (Q := fun d s' => wpAny (model X.prog X.w) X.A (pure (Value.ref d)) (EP X pins σ Q) X.xe s') ?hroom (by show 1 ≤ 15; decide) ?hrun)))
  case hroom => show X.A.units < cLine; omega
  case hrun =>
    refine pairTrees_cons_walk (thn (hk.run pins _ σ _ _ I1 (q _ hn)) fun u s1 ⟨x, H1, I2, rx, q1⟩ => thn (hv.run pins s1 σ H1 _ I2 q1) fun w2 s2 ⟨y, H2, I3, ry, e, b, k, ex, eb, q2⟩ => pairTrees_nil_walk ?_)
    subst ex
    cases (show u = Value.ref b from rx)
    obtain ⟨z, hd, xs0, r0, dd⟩ := dt_of I3.hok e
    cases r0
    refine ⟨[(k, b, w2)], ⟨rfl, rfl, key_of I3.hok eb, trivial⟩, dd, fun h' tk' dd' hs => wpAny_pure ⟨.ref s.heap.objs.size, _, ?_, rfl, q2⟩⟩
    obtain ⟨o, es, ep, hq, h2, h3, h4, _, h5⟩ := dd'
    refine I3.write (t' := tk') (x := s.heap.objs.size) (e := s.heap.objs.size) (o := .dT [(k, y)]) (by rw [e]; exact True.intro) (.inl rfl) (fun c v hc z' => (hs.2 c hc).trans z') ⟨o, hq⟩ ?_
    refine ⟨by rw [sizeLine_eq]; show 1 ≤ 16777216; decide, hd, [(k, b, w2)], .cons ⟨rfl, ?_, ry⟩ .nil, o, es, ep, hq, h2, h3, h4, h5⟩
    rw [upd_ne (ne_of eb e (fun z => nomatch z))]
    exact eb
/-! ### list(reversed(xs)) -/
theorem code_list_rev {prog : Program} {w : World} {A : Around} {E : Value → Shared → Prop} {s : Shared} {it l : Addr} {items : Array Value} {Q : Value → Shared → Prop} (hh : A.handled = none) (hit : s.heap.IsRevIter it l ((items.size : Int) - 1)) (hl : s.heap.IsList l items) (hne : l ≠ it) (hn : items.size ≤ sizeLine)
    (hQ : ∀ (h' : Heap) (tk : Nat) (acc : Array Value) (c : Nat), (∀ b o, b ≠ it → s.heap.get? b = some o → h'.get? b = some o) → ItemsOf (fun i v => items[items.size - 1 - i]? = some v) acc items.size →
      h'.get? s.heap.objs.size = some { cls := .type "list", data := .seq acc c } → Q (.ref s.heap.objs.size) { s with heap := h', toks := tk }) : wpAny (model prog w) A (call (.type "list") [.ref it]) Q E s := by
  refine callType_codes (Q₁ := fun ob s₁ => ob = .ref s.heap.objs.size ∧ s₁ = { s with heap := s.heap.push { cls := .type "list", data := .seq #[] } }) PySem.F.called_list (PySem.F.typeCall_list_1 _) PySem.F.entry_list_init (code_list_new _ ⟨rfl, rfl⟩) fun ob s₁ hs₁ => ?_
  obtain ⟨e1, e2⟩ := hs₁
  subst e1 e2
  obtain ⟨oi, hoi, _⟩ := id hit
  obtain ⟨ol, hol, _⟩ := id hl
  have nSi : s.heap.objs.size ≠ it := Nat.ne_of_gt (Heap.lt_size hoi)
  have nSl : s.heap.objs.size ≠ l := Nat.ne_of_gt (Heap.lt_size hol)
  have nS : s.heap.objs.size ∉ [it, l] := by simp only [List.mem_cons, List.not_mem_nil, or_false, not_or]; exact ⟨nSi, nSl⟩
  have g0 : (s.heap.push { cls := .type "list", data := .seq #[] }).get? s.heap.objs.size = some { cls := .type "list", data := .seq #[] } := Heap.get?_push_size _ rfl
  have W := (Walks.listRev (prog := prog) (w := w) (A := A.in1.in1) hh it l hne items).toS
  refine ⟨⟨_, g0, rfl⟩, PySem.F.args_list_init_2 _ _, ?_⟩
  show wpAny _ A.in1.in1 (do let old ← Builtin.List.listItems (.ref s.heap.objs.size); Builtin.List.listUpdate (.ref s.heap.objs.size) (fun _ => #[]); letGo old.toList.reverse; Builtin.List.listExtendWith (.ref s.heap.objs.size) (.ref it) .none) _ _ _
  refine wpAny_bind ?_
  unfold Builtin.List.listItems
  refine wpAny_bind (wpAny_seqItems g0 rfl (wpAny_pure ?_))
  show wpAny _ A.in1.in1 (updateSeq s.heap.objs.size (fun _ => #[]) >>= fun _ => letGo (#[] : Array Value).toList.reverse >>= fun _ => Builtin.List.listExtendWith (.ref s.heap.objs.size) (.ref it) .none) _ _ _
  refine wpAny_bind (wpAny_updateSeq g0 rfl ?_)
  have g2 := Heap.get?_update_self (Obj.mapSeq (fun _ => (#[] : Array Value))) g0 rfl
  refine wpAny_bind (wpAny_letGo ?_)
  have k2 : ∀ b o, b ≠ s.heap.objs.size → s.heap.get? b = some o → ((s.heap.push { cls := .type "list", data := .seq #[] }).update s.heap.objs.size (Obj.mapSeq fun _ => (#[] : Array Value))).get? b = some o := fun b o hb e => (Heap.get?_update_other _ _ (Ne.symm hb)).trans (Heap.get?_push_of_some _ e)
  obtain ⟨oi, hoi, ri⟩ := id hit
  have hit2 : ((s.heap.push { cls := .type "list", data := .seq #[] }).update s.heap.objs.size (Obj.mapSeq fun _ => (#[] : Array Value))).IsRevIter it l ((items.size : Int) - 1) := ⟨oi, k2 it oi (Ne.symm nSi) hoi, ri⟩
  obtain ⟨ol, hol, rl⟩ := id hl
  have hl2 : ((s.heap.push { cls := .type "list", data := .seq #[] }).update s.heap.objs.size (Obj.mapSeq fun _ => (#[] : Array Value))).IsList l items := ⟨ol, k2 l ol (Ne.symm nSl) hol, rl⟩
  generalize hh2 : ((s.heap.push { cls := .type "list", data := .seq #[] }).update s.heap.objs.size (Obj.mapSeq fun _ => (#[] : Array Value))) = hp2 at *
  have hT : ({ s with heap := hp2 } : Shared).TypeIs (.ref it) "list_reverseiterator" := hit2.typeIs
  unfold Builtin.List.listExtendWith
  refine wpAny_bind (wpAny_typeOf hT ?_)
  have c1 : (Builtin.List.listSameRef (.ref s.heap.objs.size) (.ref it) || (Value.type "list_reverseiterator" == Value.type "list" || Value.type "list_reverseiterator" == Value.type "tuple")) = false := by
    have z1 : Builtin.List.listSameRef (.ref s.heap.objs.size) (.ref it) = false := by simp [Builtin.List.listSameRef, nSi]
    rw [z1]
    decide
  first
    | (rw [if_neg (by rw [c1]; decide)])
    | (have z1 : Builtin.List.listSameRef (.ref s.heap.objs.size) (.ref it) = false := by simp [Builtin.List.listSameRef, nSi]
       have z2 : (Value.type "list_reverseiterator" == Value.type "list") = false := by decide
       have z3 : (Value.type "list_reverseiterator" == Value.type "tuple") = false := by decide
       simp only [z1, z2, z3, Bool.or_false, Bool.false_eq_true, if_false])
  refine wpAny_bind (wpAny_pyIter_revIter (s := { s with heap := hp2 }) hit2 ?_)
  refine wpAny_bind (wpAny_holding ?_)
  unfold Builtin.List.listLengthHint
  refine wpAny_bind (wpAny_specialOf hT RT.nolen_lri ?_)
  show wpAny _ A.in1.in1 (specialOf (Value.ref it) (Str.ofString "__length_hint__") >>= _) _ _ _
  refine wpAny_bind (wpAny_specialOf hT RT.hint_lri ?_)
  generalize hid : ("list_reverseiterator.__length_hint__" : String) = id0
  wp_delta
  rw [show splitId id0 = some ("list_reverseiterator", "__length_hint__") from by subst hid; decide +kernel]
  subst hid
  refine wpAny_bind (wpAny_isInstance (b := true) hT (by rw [isSubtype_type]; kernel_rfl) ?_)
  refine wpAny_pure ?_
  first
    | rw [if_neg (by decide)]
    | skip
  have e0 : ((items.size : Nat) : Int) - 1 - ((0 : Nat) : Int) = (items.size : Int) - 1 := by omega
  first
    | (refine wpAny_pure ⟨plainId_quiet PySem.F.plain_extend_loop _, codeAny_extend_loopS W hn _ nS _ items.size 0 _ _ _ rfl (Nat.zero_le _) ⟨Nat.zero_le _, by rw [e0]; exact hit2, hl2⟩ g2 (ItemsOf.nil _) fun s' acc' c' hm hS' hacc => ?_⟩)
    | trace_state
  refine ⟨rfl, ?_⟩
  rw [Moved.eq_with hm]
  have kk : ∀ b o, b ≠ it → s.heap.get? b = some o → s'.heap.get? b = some o := fun b o hb e => hm.heap b o (fun hmem => by
    rcases List.mem_cons.mp hmem with e' | hmem
    · exact absurd (Heap.lt_size e) (by rw [e']; exact Nat.lt_irrefl _)
    · exact hb (List.mem_singleton.mp hmem)) (by rw [← hh2]; exact (Heap.get?_update_other _ _ (Nat.ne_of_gt (Heap.lt_size e))).trans (Heap.get?_push_of_some _ e))
  exact hQ s'.heap s'.toks acc' c' kk hacc hS'
theorem pe_listRev {e : Expr} {te : TE} {p p2 pos pos2 : Pos} (hc : X.calm = true) (hg : Gl X "list") (hm : X.mg "list" = none) (hg2 : Gl X "reversed") (hm2 : X.mg "reversed" = none) (he : PE X e te)
    (s1 : starEach [e] X.env = (false, eval e X.env) :: starEach [] X.env := by rfl)
    (s2 : starEach [.Call (.Name "reversed" p2) [e] [] pos2] X.env = (false, eval (.Call (.Name "reversed" p2) [e] [] pos2) X.env) :: starEach [] X.env := by rfl) :
    PE X (.Call (.Name "list" p) [.Call (.Name "reversed" p2) [e] [] pos2] [] pos) (tListRev X.K te) := by
  refine ⟨fun pins s σ H Q I h => ?_⟩
  have inner := fun (R : Value → Shared → Prop) (hR : ∀ u t, EP X pins σ (fun v H1 => ∃ (a : Addr) (xs : List V), v = .ref a ∧ SqL X.K H1 a xs ∧ ∀ q, H1 q = none → Q (.ref q) (upd H1 q (.lst xs.reverse))) u t → wpAny (model X.prog X.w) X.A (call (.type "reversed") [u]) R X.xe t) =>
    Call_ (pos := pos2) (ld_blt (pos := p2) I hg2 hm2 PyProof.Rows.boot_reversed (PyProof.Rows.callWith_type1 (args_cons (thn (he.run pins s σ H _ I h) fun u t q => args_nil (hR u t q)) s1) s1 rfl))
  refine Call_ (ld_blt I hg hm boot_list (PyProof.Rows.callWith_type1 (args_cons (inner _ fun u t ⟨v, H1, I1, r1, a, xs, ev, hq, q⟩ => ?_) s2) s2 rfl))
  subst ev
  cases (show u = Value.ref a from r1)
  obtain ⟨its, rv, pl, hz⟩ := I1.list hq
  have hlen := rv.length
  refine call_reversed_list pl.isList (args_nil ?_)
  have k0 : ∀ b o, t.heap.get? b = some o → (t.heap.push (revObj a ((its.toArray.size : Int) - 1))).get? b = some o := fun b o e => Heap.get?_push_of_some _ e
  have I2 : Inv X pins σ H1 { t with heap := t.heap.push (revObj a ((its.toArray.size : Int) - 1)) } := I1.kept (t' := t.toks) k0
  obtain ⟨f0, f1, f2, f3, f4, f5⟩ := I1.fpOk (H' := H1) (b := t.heap.objs.size) (Nat.le_refl _) (I1.hok.fresh (Nat.le_refl _))
  obtain ⟨ol, hol, rl⟩ := id pl.isList
  have hne : a ≠ t.heap.objs.size := Nat.ne_of_lt (Heap.lt_size hol)
  refine code_list_rev (s := { t with heap := t.heap.push (revObj a ((its.toArray.size : Int) - 1)) }) (I1.ok.hd hc) ⟨_, Heap.get?_push_size _ rfl, rfl, rfl⟩ ⟨ol, k0 _ _ hol, rl⟩ hne (by rw [List.size_toArray, ← hlen]; exact hz) fun h' tk acc c hk hi hS => ?_
  have hv : Vals xs.reverse acc.toList := RT.vals_rev rv hi
  have I3 := I1.turnedNew (t' := tk) (h' := h') (ch := [t.heap.objs.size]) (T := (t.heap.push (revObj a ((its.toArray.size : Int) - 1))).objs.size) (ob := .lst xs.reverse) (fun b o hb e => hk b o (fun z => hb (by rw [z]; exact List.mem_singleton.mpr rfl)) (k0 b o e)) (fun b hb => by
      rw [List.mem_singleton.mp hb]
      exact I1.fpOk (Nat.le_refl _) (I1.hok.fresh (Nat.le_refl _))) (by rw [Heap.size_push]; exact Nat.le_succ _) ⟨by rw [List.length_reverse]; exact hz, acc.toList, c, hv, by rw [Array.toArray_toList]; exact hS⟩
  exact ⟨.ref _, _, I3, rfl, q _ (I1.hok.fresh (by rw [Heap.size_push]; exact Nat.le_succ _))⟩
end
end L2

namespace L2
open PySem PySem.Spec PyProof.Rows
section
variable {X : Cx}
/-! ### xs.count(y), flat things -/
def rCntF (K : PySem.W.Frag) : V → List V → Hp → VK → Prop := fun x xs H Q => ∃ (p : Addr) (ys : List V) (y : V), x = .ref p ∧ xs = [y] ∧ SqL K H p ys ∧ flatV y = true ∧ ys.all flatV = true ∧ Q (.int (ys.countP (fun z => eqV z y) : Nat)) H
theorem cnt_eqU {x : V} : ∀ {xs : List V} {us : List Value}, Vals xs us → xs.all flatV = true → us.countP (eqU x) = xs.countP fun y => eqV y x
  | _, _, .nil, _ => rfl
  | _, _, .cons r t, h => by
    rw [List.all_cons, Bool.and_eq_true] at h
    rw [List.countP_cons, List.countP_cons, cnt_eqU t h.2, eqU_of r h.1]
theorem mt_countF : MtR X "list.count" (rCntF X.K) := by
  intro pins s σ H x xs v us Q I rx rxs hw
  obtain ⟨p, ys, y, rfl, rfl, hs, fy, fa, q⟩ := hw
  cases rx
  obtain ⟨u, rfl, ru⟩ := rxs.one
  obtain ⟨its, rv, ⟨⟨cls, dd, data, sl⟩, n, ho, hc, hdn, hd⟩, hlen⟩ := I.list hs
  simp only at hc hd
  subst hc hd
  refine call_meets PySem.F.slot_list_count ⟨_, ho, rfl⟩ PySem.F.entry_list_count (PySem.F.args_list_count_2 _ _) (SeqAt.list_countAt p its.toArray n dd sl u (eqU y)) ⟨ho, fun z hz => mem_eqAt ru fy rv fa z (by simpa using hz), ?_⟩
  have ec : its.toArray.toList.countP (eqU y) = ys.countP (fun z => eqV z y) := cnt_eqU rv fa
  refine ⟨.int (ys.countP (fun z => eqV z y) : Nat), H, I.tok _, ⟨s.toks, ?_⟩, q⟩
  show Value.int ((its.toArray.toList.countP (eqU y) : Nat) : Int) s.toks = _
  rw [ec]
end
/-! ### TrackError.__init__(self, ..): an own class's name, the built-in's own __init__ behind it -/
structure BaseI (K : PySem.W.Frag) (C : Addr) : Prop where
  ga : PySem.W.specialIn K (.ref C) "__getattribute__" = some (some (.builtin "type.__getattribute__"))
  rd : PySem.W.readsIn K C (.type "type") = true
  fc : PySem.W.findCls K (.ref C) (.type "type") "__init__" = some (.val (.builtin "ValueError.__init__"))
section
variable {X : Cx} {e : Expr} {es : List Expr} {ta : TA} {p1 p2 pos : Pos} {x : Str} {C : Addr}
theorem pe_ownInit {pl : Sem Bool} (B : BaseI X.K C) (hg : Gl X x) (hm : X.mg x = some (.ref C)) (ha : PA X (e :: es) ta)
    (hc : eval (.Call (.Attribute (.Name x p1) "__init__" p2) (e :: es) [] pos) X.env = (do
      let rv ← eval (.Name x p1) X.env
      standAt p2.atName
      let (g, first) ← holding [rv] (getMethod rv "__init__" pl)
      callWith pos g first (backTo pos (starEach (e :: es) X.env)) (backToKw pos (keywordEach [] X.env))) := by rfl)
    (he : starEach (e :: es) X.env = (false, eval e X.env) :: starEach es X.env := by rfl) (hpl : (backTo pos (starEach es X.env)).any (·.1) = false := by rfl)
    (hd : (x == ("__debug__" : Str)) = false := by decide) :
    PE X (.Call (.Attribute (.Name x p1) "__init__" p2) (e :: es) [] pos) (tVeI X.K ta) := by
  refine ⟨fun pins s σ H Q I h => ?_⟩
  refine PySem.W.methodCall_KW (ld_glob I hg hm ?_ hd) hc
  refine PySem.W.method_cls I.kIn B.ga (PySem.W.cls_value I.kIn B.rd B.fc (by decide +kernel) ?_)
  refine PyProof.Rows.callWith_method1 (thn (ha.run pos pins _ σ H _ (I.tok _) h) fun us s1 ⟨vs, H1, I1, r1, a, D, ws, ev, hl, T, ea, q⟩ => ?_) he hpl
  subst ev
  cases r1 with
  | @cons _ u0 _ ur ra rw' =>
    cases (show u0 = Value.ref a from ra)
    have hz : ur.length ≤ sizeLine := by
      rw [← Paired.length rw', sizeLine_eq]
      omega
    exact oinit_ok T I1 ea hz fun s' J => ⟨.non, H1, J, rfl, q⟩
/-- raise C(e, ..), C's own __init__ keeping sp -/
def tRaiseO (C : Addr) (sp : Sp) (E : XK) (ta : TA) : TS := fun _ σ H => tMkO C sp [] ta σ H fun cls d H' => E cls d H'
end
/-! ### try: .. except X as e: .. except Y as e: .. (one name e, slot i) -/
def wManyAs (K : PySem.W.Frag) (Wout : WX) (i : Nat) (D : Ends) : List (Value × (Addr → Value → Option Addr → TS)) → WX
  | [] => Wout
  | (c, ts) :: r => fun cls d σ H => ∃ b, PySem.W.exmOne K cls c = some b ∧
      (b = true → ∀ a, H a = none → ts a cls d { nx := fun σ' H' => D.nx (σ'.set i none) H', rt := D.rt, bk := fun σ' H' => D.bk (σ'.set i none) H', ct := fun σ' H' => D.ct (σ'.set i none) H' } (σ.set i (some (.ref a))) H) ∧
      (b = false → wManyAs K Wout i D r cls d σ H)
inductive HdsAs (X : Cx) (n : Str) : List ExceptHandler → List (Value × (Addr → Value → Option Addr → TS)) → Prop
  | nil : HdsAs X n [] []
  | cons {x : Str} {c : Value} {ts : Addr → Value → Option Addr → TS} {b₀ : Stmt} {suite : List Stmt} {np pos' : Pos} {hds : List ExceptHandler} {l : List (Value × (Addr → Value → Option Addr → TS))} (hc : Names X x c)
      (hsu : ∀ (a : Addr) (oe : Obj) (cls : Value) (d : Option Addr) (pn : List (Addr × Obj)), Zc cls d oe → (∃ vs, oe.data = .fields vs) → PSs (X.suite a ((a, oe) :: pn)) (b₀ :: suite) (ts a cls d)) (r : HdsAs X n hds l) :
      HdsAs X n (.ExceptHandler (some (.Name x np)) (some n) (b₀ :: suite) pos' :: hds) ((c, ts) :: l)
section
variable {X : Cx} {n : Str} {i : Nat} {body : List Stmt} {h₀ : ExceptHandler} {hds : List ExceptHandler} {l : List (Value × (Addr → Value → Option Addr → TS))} {pos : Pos} {tb : WX → TS} {Wout : WX}
theorem ps_try_manyAs (hs : X.stack = X.env :: X.outer) (hf : X.env.frame = some X.env.locals) (hN : X.N.Nodup) (hi : X.N[i]? = some n) (hln : X.env.kindOf n = some .local) (tk : Takes X Wout)
    (hb : ∀ (W : WX) (pn : List (Addr × Obj)) (xe : Value → Shared → Prop), Takes (X.tr pn xe) W → PassesOwn (model X.prog X.w) X.A X.env xe → PSs (X.tr pn xe) body (tb W))
    (hh : HdsAs X n (h₀ :: hds) l) : PS X (.Try body (h₀ :: hds) [] [] pos) (fun D σ H => tb (wManyAs X.K Wout i D l) D σ H) := by
  refine ⟨fun pins s σ H D I hw => ?_⟩
  have ok := I.ok
  have frA : X.A.frames = some (X.env :: X.outer) := by rw [ok.frames, hs]
  have lo : Loc X.env.scope n := .inl hln
  refine wpAny_Try_except ?_
  refine wpAny_mono ((hb (wManyAs X.K Wout i D l) (X.pn ++ pins) (fun e s₁ => wpAny (model X.prog X.w) X.A (noteFrame e X.env) (fun _ s₂ => wpAny (model X.prog X.w) X.A (setFlight e none)
    (fun _ s₃ => wpAny (model X.prog X.w) X.A (handleBy e X.env (h₀ :: hds)) (SP X pins D) X.xe s₃) X.xe s₂) X.xe s₁) (fun u t xx => ?_) PassesOwn.looking).run [] s σ H D (I.toTry _) hw) (fun f s1 sp => ?_) (fun _ _ z => z)
  rotate_left
  · cases f with
    | next => obtain ⟨σ', H', J, q⟩ := sp; exact wpAny_execs_nil ⟨σ', H', J.ofTry ok, q⟩
    | brk => obtain ⟨σ', H', J, q⟩ := sp; exact ⟨σ', H', J.ofTry ok, q⟩
    | cont => obtain ⟨σ', H', J, q⟩ := sp; exact ⟨σ', H', J.ofTry ok, q⟩
    | ret u => obtain ⟨v, σ', H', J, r, q⟩ := sp; exact ⟨v, σ', H', J.ofTry ok, r, q⟩
  obtain ⟨a, B, sI, pins', σ', H', cls, d, rfl, J0, nb, up, sky, na, os, ag, w⟩ := xx
  have J : Inv X pins σ' H' sI := J0.ofTry ok
  have sky1 : Sky B (X.env :: X.outer) a (Zc cls d) X.env.locals t.heap := by rw [← hs]; exact sky
  show wpAny (model X.prog X.w) X.A (noteFrame (.ref a) X.env) _ _ _
  refine Sky.land Zc.steady frA hf sky1 fun h3 fl3 up3 => ?_
  have J3 : Inv X pins σ' H' { t with heap := h3 } := J.landed nb fl3.1 (up.trans up3) os ag
  obtain ⟨oe3, vs3, he3, hz3, hd3⟩ := fl3.there
  have nfr : a ∉ frs (X.env :: X.outer) := fun hm => by
    obtain ⟨_, o', e', hnf⟩ := fl3.2.2.1.mem hm
    rw [he3] at e'
    cases e'
    exact hnf _ hd3
  have nL : a ≠ X.env.locals := fun z => nfr (List.mem_filterMap.mpr ⟨X.env, List.mem_cons_self, by rw [hf, z]⟩)
  have nF : a ∉ X.fs := fun hm => by
    obtain ⟨en, hen, q⟩ := List.mem_filterMap.mp hm
    exact nfr (List.mem_filterMap.mpr ⟨en, List.mem_cons_of_mem _ hen, q⟩)
  have S3 := J3.suite he3 hd3 na nL nF
  have go : ∀ {hds' : List ExceptHandler} {l' : List (Value × (Addr → Value → Option Addr → TS))}, HdsAs X n hds' l' → wManyAs X.K Wout i D l' cls d σ' H' → wpAny (model X.prog X.w) X.A (handleBy (.ref a) X.env hds') (SP X pins D) X.xe { t with heap := h3 } := by
    intro hds' l' hk
    induction hk with
    | nil =>
      intro w
      refine wpAny_handleBy_nil ?_
      obtain ⟨k1, k2, k3, oe, vs, T, oT, ts', he, hz, hd, h1, hr⟩ := id fl3
      unfold PySem.passOn
      refine wpAny_bind (wpAny_field he hd h1 ?_)
      rw [if_neg (show ¬ ((Value.ref T == Value.none) = true) from by simp)]
      have fin : wpAny (model X.prog X.w) X.A (setFlight (.ref a) X.env.frame) (fun _ s4 => wpAny (model X.prog X.w) X.A (throw (.ref a) : Sem Flow) (SP X pins D) X.xe s4) X.xe { t with heap := h3 } := by
        rw [hf]
        exact HandSPX.setFlight_upZ fl3 fun h4 hh4 up4 => wpAny_throw (tk _ _ ⟨a, B, sI, pins, σ', H', cls, d, rfl, J, nb, (up.trans up3).trans up4, .inr (.inr (by rw [hs]; exact hh4)), na, os, ag, w⟩)
      first | exact wpAny_bind (wpAny_pure (wpAny_bind fin)) | exact wpAny_bind fin
    | @cons x c ts b₀ suite np pos' hds2 l2 hc hsu r ih =>
      intro w
      obtain ⟨b, hb1, yes, no⟩ := w
      refine wpAny_handleBy_cons (codeAny_handlers_test ?_) (by intro q; cases q)
      have LT : PySem.W.Looks (model X.prog X.w) h3 (typeOf (.ref a)) cls := fun A Q E s k q => wpAny_typeOf_ref (k _ _ he3) (by rw [hz3.1]; exact q)
      have LM := PySem.W.exm_one (M := model X.prog X.w) (J3.kIn) LT hb1
      have test : ∀ {Q : Value → Shared → Prop} {E : Value → Shared → Prop}, Q c { t with heap := h3 } → wpAny (model X.prog X.w) (X.A.mark (some (.ref a))) (eval (.Name x np) X.env) Q E { t with heap := h3 } := fun {Q E} q => by
        obtain ⟨hg, hdb, hm | ⟨hm, hv, hnn⟩⟩ := hc
        · exact ld_glob (X := X.suite a ((a, oe3) :: (X.pn ++ pins))) S3 hg hm q hdb
        · exact ld_blt (X := X.suite a ((a, oe3) :: (X.pn ++ pins))) S3 hg hm hv q hnn hdb
      refine test (LM.here ?_)
      cases b with
      | false =>
        show wpAny _ X.A (handleBy (.ref a) X.env hds2) _ _ _
        exact ih (no rfl)
      | true =>
        refine codeAny_handlers_suite_as (HandSPX.lands_againZ fl3 fun h4 fl4 up4 => ?_)
        have J4 : Inv X pins σ' H' { t with heap := h4 } := J.landed nb fl4.1 ((up.trans up3).trans up4) os ag
        obtain ⟨oe4, vs4, he4, hz4, hd4⟩ := fl4.there
        have S4 := J4.suite he4 hd4 na nL nF
        refine store_ok (X := X.suite a ((a, oe4) :: (X.pn ++ pins))) (v := .ref a) S4 hN hi lo rfl (fun s5 S5 => ?_) (.inr hln)
        refine wpAny_mono ((hsu a oe4 cls d (X.pn ++ pins) hz4 ⟨_, hd4⟩).run [] s5 _ H' _ S5 (yes rfl a na)) (fun f s6 sp => ?_) (fun _ _ z => False.elim z)
        have fin : ∀ {σ6 : St} {H6 : Hp} {Q : Shared → Prop}, Inv (X.suite a ((a, oe4) :: (X.pn ++ pins))) [] σ6 H6 s6 → (∀ s7, Inv X pins (σ6.set i none) H6 s7 → Q s7) →
            wpAny (model X.prog X.w) X.A (do bindName X.env n .none; unbindBehindTheSuite X.env n pos') (fun _ s7 => Q s7) X.xe s6 := fun {σ6 H6 Q} S6 hq => gone_ok (S6.unsuite ok) hN hi hln hq
        cases f with
        | next => obtain ⟨σ6, H6, S6, q6⟩ := sp; exact fin S6 fun s7 J7 => ⟨_, _, J7, q6⟩
        | brk => obtain ⟨σ6, H6, S6, q6⟩ := sp; exact fin S6 fun s7 J7 => ⟨_, _, J7, q6⟩
        | cont => obtain ⟨σ6, H6, S6, q6⟩ := sp; exact fin S6 fun s7 J7 => ⟨_, _, J7, q6⟩
        | ret u => obtain ⟨v6, σ6, H6, S6, r6, q6⟩ := sp; exact fin S6 fun s7 J7 => ⟨_, _, _, J7, r6, q6⟩
  exact go hh w
end
end L2

namespace PySem
namespace TkNe
open PySem.Sem PySem.SeqAt
variable {prog : Program} {w : World}
/-- != of two tuples of one size whose items are all equal, within one model -/
theorem tup_ne_same (l b : Addr) (items items2 : Array Value) (n n2 : Nat) (dd dd2 : Option Addr) (sl sl2 : Array (Option Value)) (hz : items.size = items2.size) :
    MeetsIn prog w (Builtin.«tuple.__ne__» ⟨[.ref l, .ref b], []⟩)
      (fun A R s => s.heap.get? l = some { cls := .type "tuple", dict := dd, data := .seq items n, slots := sl } ∧ s.heap.get? b = some { cls := .type "tuple", dict := dd2, data := .seq items2 n2, slots := sl2 } ∧
        (∀ j (h1 : j < items.size) (h2 : j < items2.size), EqP prog w A.in1 s items[j] items2[j] true) ∧ R (.ok (.ret (.bool false))) s) := by
  intro A R s hyp
  obtain ⟨hp, g, d, tk, os⟩ := s
  obtain ⟨hl, hb, he, hR0⟩ := hyp
  have sub2 := AutoSeq1.sub_tuple_tuple
  have zl : (items.toList.zip items2.toList).length = items.size := by simp [hz]
  wp_walk using wpAny_loadPart' hl, wpAny_loadPart' hb, wpAny_forIn_list _ (fun rest b s' => b.1 = none ∧ s' = ⟨hp, g, d, tk, os⟩ ∧ ∃ i, rest = (items.toList.zip items2.toList).drop i) _
  case turn =>
    rintro ⟨y, x⟩ rest b s' ⟨hb', rfl, i, hq⟩
    have hi : i < (items.toList.zip items2.toList).length := by
      rcases Nat.lt_or_ge i (items.toList.zip items2.toList).length with q | q
      · exact q
      · rw [List.drop_of_length_le q] at hq; cases hq
    have h1 : i < items.size := zl ▸ hi
    have h2 : i < items2.size := hz ▸ h1
    rw [List.drop_eq_getElem_cons hi] at hq
    injection hq with hyx hrest
    have ey : y = items[i] := by have := congrArg Prod.fst hyx; simpa using this
    have ex : x = items2[i] := by have := congrArg Prod.snd hyx; simpa using this
    subst ey ex
    refine wpAny_bind (he i h1 h2 _ _ ?_)
    wp_walk
    exact ⟨rfl, rfl, i + 1, hrest⟩
  case fin =>
    rintro ⟨b1, b2⟩ s' ⟨hb', rfl, i, hq⟩
    simp only at hb'
    subst hb'
    wp_walk
    simpa [Builtin.Tuple.tupleCompareSizes, bne, hz] using hR0
  case h => exact ⟨rfl, rfl, 0, rfl⟩
theorem ne_tups {A : Around} {s : Shared} {l b : Addr} {items items2 : Array Value} (hl : PyProof.Rows.IsTup s.heap l items) (hb : PyProof.Rows.IsTup s.heap b items2) (hz : items.size = items2.size) (hu : A.units < cLine)
    (he : ∀ j (h1 : j < items.size) (h2 : j < items2.size), EqP prog w A.in1 s items[j] items2[j] true) (E Q : Value → Shared → Prop) (h : Q (.bool false) s) : wpAny (model prog w) A (richCompare .NotEq (.ref l) (.ref b)) Q E s := by
  obtain ⟨⟨cls, dd, data, sl⟩, ho, hc, n, hd⟩ := id hl
  obtain ⟨⟨cls2, dd2, data2, sl2⟩, ho2, hc2, n2, hd2⟩ := id hb
  simp only at hc hd hc2 hd2
  subst hc hd hc2 hd2
  have ta : s.TypeIs (.ref l) "tuple" := ⟨_, ho, rfl⟩
  have tb : s.TypeIs (.ref b) "tuple" := ⟨_, ho2, rfl⟩
  exact wpAny_richCompare_same_room (op := .NotEq) ta tb F.slot_tuple_ne (call_meetsIn F.slot_tuple_ne ta F.entry_tuple_ne (F.args_tuple_ne_2 _ _) (tup_ne_same l b items items2 n n2 dd dd2 sl sl2 hz)
    ⟨ho, ho2, he, show Value.bool false ≠ Value.notImplemented ∧ Q (.bool false) s from ⟨(fun x => nomatch x), h⟩⟩) hu
end TkNe
end PySem
namespace L2
open PySem PySem.Spec PyProof.Rows
/-- a value of a dict that is told: equal data -/
def SameD (K : PySem.W.Frag) (H : Hp) (x y : V) : Prop := ∃ d, Dp K H x d ∧ Dp K H y d ∧ SeqAt.shaped d = true ∧ PyData.eqv d d = true
/-- a tuple of dicts != a tuple of dicts, pair by pair the same keys with the same data -/
def rNeDs (K : PySem.W.Frag) : R2 := fun x y H Q => ∃ (a b : Addr) (xs ys : List V), x = .ref a ∧ y = .ref b ∧ SqT K H a xs ∧ SqT K H b ys ∧
  Paired (fun u v => ∃ p q ks ls, u = V.ref p ∧ v = V.ref q ∧ H p = some (.dK ks) ∧ H q = some (.dK ls) ∧ ks.length = ls.length ∧ ∀ z ∈ ks, ∃ t, valV ls z.1 = some t ∧ SameD K H z.2 t) xs ys ∧ Q (.bl false) H
section
variable {X : Cx}
theorem op_neDs (hu : X.A.units + 70 < cLine) : OpR X (compareOp .NotEq) (rNeDs X.K) := by
  intro pins s σ H x y v u Q I rx ry h
  obtain ⟨a, b, xs, ys, rfl, rfl, ha, hb, hp, q⟩ := h
  cases (show v = Value.ref a from rx)
  cases (show u = Value.ref b from ry)
  obtain ⟨us, r1, t1, _⟩ := I.tuple ha
  obtain ⟨ws, r2, t2, _⟩ := I.tuple hb
  have hl : us.length = ws.length := by rw [← r1.length, ← r2.length]; exact Paired.length hp
  have item : ∀ {xs ys : List V} {us ws : List Value}, Vals xs us → Vals ys ws → Paired (fun u v => ∃ p q ks ls, u = V.ref p ∧ v = V.ref q ∧ H p = some (.dK ks) ∧ H q = some (.dK ls) ∧ ks.length = ls.length ∧ ∀ z ∈ ks, ∃ t, valV ls z.1 = some t ∧ SameD X.K H z.2 t) xs ys →
      ∀ j (h1 : j < us.length) (h2 : j < ws.length), SeqAt.EqP X.prog X.w X.A.in1 s us[j] ws[j] true := by
    intro xs ys us ws r1 r2 hp
    induction hp generalizing us ws with
    | nil => cases r1; intro j h1; exact absurd h1 (Nat.not_lt_zero j)
    | cons hd _ ih =>
      cases r1 with
      | cons a1 b1 =>
        cases r2 with
        | cons a2 b2 =>
          intro j h1 h2
          cases j with
          | succ j => exact ih b1 b2 j (Nat.lt_of_succ_lt_succ h1) (Nat.lt_of_succ_lt_succ h2)
          | zero =>
            obtain ⟨p, q, ks, ls, rfl, rfl, hk, hl, hz, hall⟩ := hd
            cases a1
            cases a2
            show SeqAt.EqP X.prog X.w X.A.in1 s (.ref p) (.ref q) true
            by_cases e : p = q
            · subst e; exact (SeqAt.EqAt.same _).eqP
            · refine SeqAt.eqP_refs e fun E Q hQ => ?_
              obtain ⟨_, ya, va, ra, da⟩ := dk_of I.hok hk
              obtain ⟨_, yb, vb, rb, db⟩ := dk_of I.hok hl
              refine PySem.W.rcP_dicts (knd := mixKind X.prog X.w) (r := true) ya yb da db (by show X.A.units + 1 < cLine; omega) (fun _ => hits_run (fun x y v u hs rx ry => ?_) rb ra hall) E Q ?_
              · obtain ⟨d, d1, d2, sh, eq⟩ := hs
                obtain ⟨as, q1⟩ := Dp.reads I d x v d1 rx
                obtain ⟨bs, q2⟩ := Dp.reads I d y u d2 ry
                have z := SeqAt.eqAt_reads d d X.A.in1.in1 s v u as bs q1 q2 (SeqAt.canLay_of_shaped sh) (SeqAt.canLay_of_shaped sh) (by have := SeqAt.depth_of_shaped sh; show X.A.units + 1 + 1 + min d.depth d.depth < cLine; omega)
                rw [eq] at z
                exact z.eqP
              · have e2 : va.length = vb.length := by rw [← ra.length, ← rb.length]; exact hz
                rw [show (va.length == vb.length && true) = true from by rw [e2]; simp]
                exact hQ
  refine TkNe.ne_tups t1 t2 (by simpa using hl) (by omega) (fun j h1 h2 => ?_) _ _ ⟨.bl false, H, I, rfl, q⟩
  have := item r1 r2 hp j (by simpa using h1) (by simpa using h2)
  simpa using this
end
end L2
namespace L2
open PySem PySem.Spec PyProof.Rows
/-- a module's constant -/
theorem pe_gv {X : Cx} {x : Str} {v : V} {pos : Pos} (hg : Gl X x) (h : ∃ u, X.mg x = some u ∧ RelV v u) (hd : (x == ("__debug__" : Str)) = false := by decide) : PE X (.Name x pos) (tC v) :=
  let ⟨_, hm, r⟩ := h
  pe_glob hg hm r hd
end L2
namespace L2
open PySem PySem.Spec PyProof.Rows
def rJoin (K : PySem.W.Frag) : V → List V → Hp → VK → Prop := fun x xs H Q => ∃ a p, ∃ ys : List Str, x = .str a ∧ xs = [.ref p] ∧ (SqL K H p (ys.map V.str) ∨ SqT K H p (ys.map V.str)) ∧
  (ys.map (·.length)).sum + ys.length * a.length ≤ 16777216 ∧ Q (.str (Txt.join a ys)) H
abbrev tJoin (K : PySem.W.Frag) (o e : TE) : TE := tM1 (rJoin K) o e
/-- an exception's class with its own __init__ -/
structure Oe1 (P : Program) (w : World) (K : PySem.W.Frag) (mg : Str → Option Value) (base : Heap) (k : Nat) (x : Str) (C : Addr) (sp : Sp) : Prop where
  ex : ∃ f fd ps, OexC K C ∧ PySem.W.findIn K (.ref C) "__init__" = some (some (.ref f)) ∧ PySem.W.typeIn K (.ref f) = some (.type "function") ∧ FnOk P w K mg base CX0 k f fd ps sp ∧ mg x = some (.ref C) ∧ Binds K fd ps []
structure OinT (K : PySem.W.Frag) (mg : Str → Option Value) (x : Str) (C : Addr) (qual : Str) (st : Stmt) (ps : List Str) : Prop where
  ex : ∃ f fd, Fun K "__init__" qual st f fd ∧ OexC K C ∧ PySem.W.findIn K (.ref C) "__init__" = some (some (.ref f)) ∧ PySem.W.typeIn K (.ref f) = some (.type "function") ∧ mg x = some (.ref C) ∧ Binds K fd ps []
theorem oe_mk {P : Program} {w : World} {K : PySem.W.Frag} {mg : Str → Option Value} {base : Heap} {x qual : Str} {st : Stmt} {C : Addr} {N ps : List Str} {k : Nat} {sp : Sp}
    (F : OinT K mg x C qual st ps) (S : FnScope N ps (defScope st)) (len : ∀ vs H Q E, sp vs H Q E → vs.length = ps.length) (h : B0 P w K mg base N qual st sp k) : Oe1 P w K mg base (k + 1) x C sp :=
  let ⟨f, _, G, O, hi, ht, hm, b⟩ := F.ex
  ⟨f, _, ps, O, hi, ht, G.ok S len (h f), hm, b⟩
theorem pmk_o1 {X : Cx} {e : Expr} {es : List Expr} {ta : TA} {p pos : Pos} {x : Str} {C : Addr} {j k : Nat} {sp : Sp} (c : Oe1 X.prog X.w X.K X.mg X.base k x C sp) (hr : Room j X.A) (hk : k + 1 ≤ j) (hg : Gl X x) (ha : PA X (e :: es) ta)
    (hdb : (x == ("__debug__" : Str)) = false := by decide) (he : starEach (e :: es) X.env = (false, eval e X.env) :: starEach es X.env := by rfl) (hpl : (backTo pos (starEach es X.env)).any (·.1) = false := by rfl) :
    PMk X (.Call (.Name x p) (e :: es) [] pos) (tMkO C sp [] ta) :=
  let ⟨_, _, _, O, hi, ht, F, hm, b⟩ := c.ex
  pmk_oex O hi ht F (hr.mono hk) b .nil (fun _ _ _ _ _ _ _ h => h.elim) hg hm ha hdb he hpl
end L2

/-! TkData: the program's data as plain Lean. -/
namespace TK
open PySem L2
open Enc (enc)
def nmOf (s : String) (h : PyData.strOk (Str.ofString s) = true := by decide +kernel) : Nm := ⟨Str.ofString s, h⟩
def nWalker : Nm := nmOf "walker"
def nBegin : Nm := nmOf "begin"
def nEnd : Nm := nmOf "end"
def nOver : Nm := nmOf "over"
def nAhead : Nm := nmOf "ahead"
def nAmid : Nm := nmOf "amid"
def nBehind : Nm := nmOf "behind"
abbrev Thing := Nm × Nm
abbrev Fact := T3 Nm Nm Nm
abbrev PairT := Thing × Thing
abbrev LinkT := T3 Thing Thing (Option Int)
/-! ### sorting -/
def leN (a b : Nm) : Bool := decide (a.s.cps.toList ≤ b.s.cps.toList)
def sortN (ws : List Nm) : List Nm := ws.mergeSort leN
def sortI (ns : List Int) : List Int := ns.mergeSort (fun a b => decide (a ≤ b))
theorem str_ext {a b : Str} (h : a.cps.toList = b.cps.toList) : a = b := by
  cases a; cases b
  have : _ = _ := Array.ext' h
  simp at this
  rw [this]
theorem risingS_pw : ∀ (p : Str) (l : List Str), PyProof.Rows.risingS p l = true → (p :: l).Pairwise (fun a b => a.cps.toList ≤ b.cps.toList)
  | p, [], _ => by simp
  | p, x :: r, h => by
    have h' : (!PySem.Spec.ltCps x.cps.toList p.cps.toList && PyProof.Rows.risingS x r) = true := h
    rw [Bool.and_eq_true, PyProof.Rows.ltCps_eq] at h'
    have ih := risingS_pw x r h'.2
    have hx : p.cps.toList ≤ x.cps.toList := by
      have := h'.1
      simp only [Bool.not_eq_true', decide_eq_false_iff_not] at this
      exact List.not_lt.mp this
    refine List.pairwise_cons.mpr ⟨fun y hy => ?_, ih⟩
    rcases List.mem_cons.mp hy with e | e
    · rw [e]; exact hx
    · exact List.le_trans hx ((List.pairwise_cons.mp ih).1 y e)
theorem sortedS_pw {l : List Str} (h : PyProof.Rows.sortedS l = true) : l.Pairwise (fun a b => a.cps.toList ≤ b.cps.toList) := by
  cases l with
  | nil => exact List.Pairwise.nil
  | cons x r => exact risingS_pw x r h
theorem sortN_perm (ws : List Nm) : (sortN ws).Perm ws := List.mergeSort_perm ws _
theorem sortN_pw (ws : List Nm) : (sortN ws).Pairwise (fun a b => a.s.cps.toList ≤ b.s.cps.toList) := by
  have h := List.pairwise_mergeSort (le := leN) (fun a b c h1 h2 => by
    simp only [leN, decide_eq_true_eq] at *
    exact List.le_trans h1 h2) (fun a b => by
    simp only [leN, Bool.or_eq_true, decide_eq_true_eq]
    exact List.le_total _ _) ws
  exact h.imp fun h => of_decide_eq_true h
theorem sortN_is {ws : List Nm} {ys : List Str} (p : ys.Perm (ws.map (·.s))) (h : PyProof.Rows.sortedS ys = true) : ys = (sortN ws).map (·.s) := by
  have h1 := sortedS_pw h
  have h2 : ((sortN ws).map (·.s)).Pairwise (fun a b => a.cps.toList ≤ b.cps.toList) := List.pairwise_map.mpr (sortN_pw ws)
  refine List.Perm.eq_of_pairwise (fun a b _ _ x y => str_ext (List.le_antisymm x y)) h1 h2 (p.trans ((sortN_perm ws).map _).symm)
theorem sortI_perm (ns : List Int) : (sortI ns).Perm ns := List.mergeSort_perm ns _
theorem sortI_pw (ns : List Int) : (sortI ns).Pairwise (· ≤ ·) := by
  have h := List.pairwise_mergeSort (le := fun a b : Int => decide (a ≤ b)) (fun a b c h1 h2 => by
    simp only [decide_eq_true_eq] at *
    omega) (fun a b => by
    simp only [Bool.or_eq_true, decide_eq_true_eq]
    omega) ns
  exact h.imp fun h => of_decide_eq_true h
theorem sortI_is {ns ys : List Int} (p : ys.Perm ns) (h : ys.Pairwise (· ≤ ·)) : ys = sortI ns :=
  List.Perm.eq_of_pairwise (fun a b _ _ x y => Int.le_antisymm x y) h (sortI_pw ns) (p.trans (sortI_perm ns).symm)
/-! ### things, links -/
def allThings (ws ths : List Nm) : List Thing := (sortN ws).map (fun n => (nWalker, n)) ++ ths.flatMap (fun n => [(nBegin, n), (nEnd, n)])
def weatherLinks (ths : List Nm) : List PairT := (List.range ((allThings [] ths).length - 1)).map fun k => ((allThings [] ths).getD k (nWalker, nWalker), (allThings [] ths).getD (k + 1) (nWalker, nWalker))
def linksOf (f : Fact) : List PairT :=
  if f.a = nOver then [((nWalker, f.c), (nWalker, f.b))]
  else if f.a = nAhead then [((nWalker, f.b), (nBegin, f.c))]
  else if f.a = nAmid then [((nBegin, f.c), (nWalker, f.b)), ((nWalker, f.b), (nEnd, f.c))]
  else [((nEnd, f.c), (nWalker, f.b))]
def isWord (n : Nm) : Bool := decide (n = nOver) || decide (n = nAhead) || decide (n = nAmid) || decide (n = nBehind)
def isFact3 (f : Fact) (ws ths : List Nm) : Bool := isWord f.a && decide (f.b ∈ ws) && (if f.a = nOver then decide (f.c ∈ ws) && !decide (f.c = f.b) else decide (f.c ∈ ths))
/-- what a ground holds -/
structure GS where
  walkers : List Nm
  weathers : List Nm
  facts : List (Int × Fact)
  cross : List (Int × (Nm × Nm))
  given : Int
def GS.things (g : GS) : List Thing := allThings g.walkers g.weathers
/-! ### dicts as lists of pairs -/
section
variable {κ α : Type} [DecidableEq κ]
def getA (kvs : List (κ × α)) (k : κ) : Option α := (kvs.find? fun kv => decide (kv.1 = k)).map (·.2)
def putA (kvs : List (κ × α)) (k : κ) (v : α) : List (κ × α) := if kvs.any (fun kv => decide (kv.1 = k)) then kvs.map (fun kv => if kv.1 = k then (kv.1, v) else kv) else kvs ++ [(k, v)]
def dropA (kvs : List (κ × α)) (k : κ) : List (κ × α) := kvs.filter fun kv => decide (kv.1 ≠ k)
def keysA {κ : Type} (kvs : List (κ × α)) : List κ := kvs.map (·.1)
theorem getA_isSome (kvs : List (κ × α)) (k : κ) : (getA kvs k).isSome = memB k (keysA kvs) := by
  induction kvs with
  | nil => simp [getA, keysA, memB]
  | cons a as ih =>
    by_cases e : a.1 = k
    · simp [getA, keysA, memB, e]
    · have e3 : getA (a :: as) k = getA as k := by simp [getA, e]
      rw [e3, ih]
      simp only [keysA, memB, List.map_cons, List.mem_cons]
      refine decide_eq_decide.mpr ⟨Or.inr, fun z => z.resolve_left fun q => e q.symm⟩
theorem putA_new {kvs : List (κ × α)} {k : κ} (v : α) (h : k ∉ keysA kvs) : putA kvs k v = kvs ++ [(k, v)] := by
  unfold putA
  rw [if_neg]
  intro z
  obtain ⟨p, hp, e⟩ := List.any_eq_true.mp z
  exact h (List.mem_map.mpr ⟨p, hp, of_decide_eq_true e⟩)
theorem getA_app (kvs more : List (κ × α)) (k : κ) : getA (kvs ++ more) k = (getA kvs k).or (getA more k) := by
  unfold getA
  rw [List.find?_append]
  cases kvs.find? fun kv => decide (kv.1 = k) <;> rfl
end
def linksAt (facts : List (Int × Fact)) (n : Int) : List LinkT := match getA facts n with
  | none => []
  | some f => (linksOf f).map fun p => ⟨p.1, p.2, some n⟩
def allLinks (g : GS) (without : List Int) : List LinkT :=
  (weatherLinks g.weathers).map (fun p => ⟨p.1, p.2, none⟩) ++ (sortI (keysA g.facts)).flatMap fun n => if n ∈ without then [] else linksAt g.facts n
/-! ### what follows -/
def Step (links : List LinkT) (x y : Thing) : Prop := ∃ n, T3.mk x y n ∈ links
def Reach (links : List LinkT) : Thing → Thing → Prop := Relation.TransGen (Step links)
noncomputable def reachB (links : List LinkT) (x y : Thing) : Bool := @decide (Reach links x y) (Classical.propDecidable _)
theorem reachB_iff {links : List LinkT} {x y : Thing} : reachB links x y = true ↔ Reach links x y := by
  unfold reachB
  exact @decide_eq_true_iff _ (Classical.propDecidable _)
noncomputable def pairsOf (things : List Thing) (links : List LinkT) : List PairT := things.flatMap fun x => (things.filter fun y => reachB links x y).map fun y => (x, y)
noncomputable def GS.pairs (g : GS) : List PairT := pairsOf g.things (allLinks g [])
/-! ### how they stand in the heap -/
def keyT (t : Thing) : List Key := [Sum.inr t.1.s, Sum.inr t.2.s]
theorem keyT_inj {a b : Thing} (h : keyT a = keyT b) : a = b := by
  unfold keyT at h
  simp at h
  exact Prod.ext (Nm.ext' h.1) (Nm.ext' h.2)
theorem D.key {t : Thing} {v : V} {H : Hp} (h : D t v H) : ∃ b, v = .ref b ∧ H b = some (.tup ((keyT t).map kV)) := by
  have h : Td H v (.tuple [.str t.1.s, .str t.2.s]) := h
  cases h with
  | tup hp ha =>
    cases ha with
    | cons g1 g2 =>
      cases g2 with
      | cons g2 g3 =>
        cases g3
        cases g1
        cases g2
        exact ⟨_, rfl, hp⟩
instance : Enc Bool where
  enc b := .bool b
  eqv a b := by simp only [PyData.eqv, Bool.beq_eq_decide_eq]
  lay a := by simp [PyData.canLay0]
  dep := 0
  depth a := by simp [PyData.depth]
instance {α β : Type} [DecidableEq α] [DecidableEq β] [Enc α] [Enc β] : Enc (Option (α × β)) where
  enc r := match r with | none => .none | some p => enc p
  eqv r t := by
    cases r with
    | none => cases t <;> simp [PyData.eqv, enc]
    | some p =>
      cases t with
      | none => simp [PyData.eqv, enc]
      | some q =>
        show PyData.eqv (enc p) (enc q) = _
        rw [Enc.eqv]
        exact decide_eq_decide.mpr (by rw [Option.some.injEq])
  lay r := by
    cases r with
    | none => simp [PyData.canLay0]
    | some p => exact Enc.lay p
  dep := Enc.dep (α × β)
  depth r := by
    cases r with
    | none => simp [PyData.depth]
    | some p => exact Enc.depth p
section
variable {κ κ' α : Type} [DecidableEq κ] [DecidableEq κ'] [DecidableEq α] [Enc α] {j : κ → κ'} {H H' : Hp} {d : Addr} {kvs : List (κ × α)}
abbrev PrJ (j : κ → κ') (H : Hp) : κ × α → κ' × V → Prop := fun k e => e.1 = j k.1 ∧ D k.2 e.2 H
theorem prD_t (e : TEx H H') {kvs : List (κ × α)} {vs : List (κ' × V)} (h : Paired (PrJ j H) kvs vs) : Paired (PrJ j H') kvs vs := Paired.mapP h fun _ _ z => ⟨z.1, z.2.t e⟩
theorem prD_val (hj : ∀ x y, j x = j y → x = y) {vs : List (κ' × V)} (h : Paired (PrJ j H) kvs vs) (k : κ) : (getA kvs k = none ∧ valV vs (j k) = none) ∨ ∃ x v, getA kvs k = some x ∧ valV vs (j k) = some v ∧ D x v H := by
  induction h with
  | nil => exact Or.inl ⟨rfl, rfl⟩
  | @cons a b as bs hab _ ih =>
    obtain ⟨h1, h2⟩ := hab
    by_cases e : a.1 = k
    · refine Or.inr ⟨a.2, b.2, by simp [getA, e], ?_, h2⟩
      exact valV_pos (by rw [h1, e])
    · have e2 : ¬ b.1 = j k := fun z => e (by rw [h1] at z; exact hj _ _ z)
      have e3 : getA (a :: as) k = getA as k := by simp [getA, e]
      rw [e3, valV_neg e2]
      exact ih
theorem prD_put (hj : ∀ x y, j x = j y → x = y) {vs : List (κ' × V)} (h : Paired (PrJ j H) kvs vs) (k : κ) {x : α} {v : V} (hx : D x v H) : Paired (PrJ j H) (putA kvs k x) (putK vs (j k) v) := by
  have e1 : (kvs.any fun kv => decide (kv.1 = k)) = vs.any fun kv => decide (kv.1 = j k) := by
    induction h with
    | nil => rfl
    | @cons a b as bs hab _ ih =>
      rw [List.any_cons, List.any_cons, ih]
      congr 1
      rw [hab.1]
      exact decide_eq_decide.mpr ⟨fun z => by rw [z], fun z => hj _ _ z⟩
  unfold putA putK
  rw [e1]
  split
  · clear e1
    rename_i hh
    clear hh
    induction h with
    | nil => exact .nil
    | @cons a b as bs hab _ ih =>
      rw [List.map_cons, List.map_cons]
      refine .cons ?_ ih
      by_cases e : a.1 = k
      · have e2 : b.1 = j k := by rw [hab.1, e]
        rw [if_pos e, if_pos e2]
        exact ⟨hab.1, hx⟩
      · have e2 : ¬ b.1 = j k := fun z => e (by rw [hab.1] at z; exact hj _ _ z)
        rw [if_neg e, if_neg e2]
        exact hab
  · clear e1
    rename_i hh
    clear hh
    induction h with
    | nil => exact .cons ⟨rfl, hx⟩ .nil
    | cons hab _ ih => exact .cons hab ih
theorem prD_drop (hj : ∀ x y, j x = j y → x = y) {vs : List (κ' × V)} (h : Paired (PrJ j H) kvs vs) (k : κ) : Paired (PrJ j H) (dropA kvs k) (dropK vs (j k)) := by
  unfold dropA dropK
  induction h with
  | nil => exact .nil
  | @cons a b as bs hab _ ih =>
    by_cases e : a.1 = k
    · have e2 : b.1 = j k := by rw [hab.1, e]
      rw [List.filter_cons_of_neg (by simp [e]), List.filter_cons_of_neg (by simp [e2])]
      exact ih
    · have e2 : ¬ b.1 = j k := fun z => e (by rw [hab.1] at z; exact hj _ _ z)
      rw [List.filter_cons_of_pos (by simp [e]), List.filter_cons_of_pos (by simp [e2])]
      exact .cons hab ih
theorem prD_keys {vs : List (κ' × V)} (h : Paired (PrJ j H) kvs vs) : vs.map (·.1) = (keysA kvs).map j := by
  induction h with
  | nil => rfl
  | cons hab _ ih => simp [keysA] at ih ⊢; exact ⟨hab.1, ih⟩
theorem prD_len {vs : List (κ' × V)} (h : Paired (PrJ j H) kvs vs) : kvs.length = vs.length := Paired.length h
end
theorem inl_inj' : ∀ x y : Int, (Sum.inl x : Key) = Sum.inl y → x = y := fun _ _ h => Sum.inl.inj h
/-- a dict with number keys, with things as keys, holds data -/
def DkAt {α : Type} [DecidableEq α] [Enc α] (H : Hp) (d : Addr) (kvs : List (Int × α)) : Prop := ∃ vs : List (Key × V), H d = some (.dK vs) ∧ Paired (PrJ Sum.inl H) kvs vs
def DtAt {α : Type} [DecidableEq α] [Enc α] (H : Hp) (d : Addr) (kvs : List (Thing × α)) : Prop := ∃ vs : List (List Key × V), H d = some (.dT vs) ∧ Paired (PrJ keyT H) kvs vs
section
variable {α : Type} [DecidableEq α] [Enc α] {H H' : Hp} {d : Addr}
theorem DkAt.ex {kvs : List (Int × α)} (h : DkAt H d kvs) (e : Ex H H') : DkAt H' d kvs := let ⟨vs, h1, h2⟩ := h; ⟨vs, e _ _ h1, prD_t e.t h2⟩
theorem DkAt.same {kvs : List (Int × α)} (h : DkAt H d kvs) (e : TEx H H') (hd : H' d = H d) : DkAt H' d kvs := let ⟨vs, h1, h2⟩ := h; ⟨vs, hd.trans h1, prD_t e h2⟩
theorem DtAt.ex {kvs : List (Thing × α)} (h : DtAt H d kvs) (e : Ex H H') : DtAt H' d kvs := let ⟨vs, h1, h2⟩ := h; ⟨vs, e _ _ h1, prD_t e.t h2⟩
theorem DtAt.same {kvs : List (Thing × α)} (h : DtAt H d kvs) (e : TEx H H') (hd : H' d = H d) : DtAt H' d kvs := let ⟨vs, h1, h2⟩ := h; ⟨vs, hd.trans h1, prD_t e h2⟩
theorem DtAt.put {kvs : List (Thing × α)} {t : Thing} {x : α} {v : V} {vs : List (List Key × V)} (h : H d = some (.dT vs)) (p : Paired (PrJ keyT H) kvs vs) (hx : D x v H) : DtAt (upd H d (.dT (putK vs (keyT t) v))) d (putA kvs t x) :=
  ⟨_, upd_same, prD_t (TEx.upd h True.intro) (prD_put (fun _ _ => keyT_inj) p t hx)⟩
theorem DkAt.put {kvs : List (Int × α)} {t : Int} {x : α} {v : V} {vs : List (Key × V)} (h : H d = some (.dK vs)) (p : Paired (PrJ Sum.inl H) kvs vs) (hx : D x v H) : DkAt (upd H d (.dK (putK vs (Sum.inl t) v))) d (putA kvs t x) :=
  ⟨_, upd_same, prD_t (TEx.upd h True.intro) (prD_put inl_inj' p t hx)⟩
end
end TK

namespace TK
open PySem L2
open Enc (enc)
/-! ### addresses and what the written part says of the classes -/
structure Ad where
  cNet : Addr
  cGround : Addr
  cNoFact : Addr
  cNoSuch : Addr
  cFull : Addr
  cRing : Addr
  cBadText : Addr
  cTrackError : Addr
  oWORDS : Addr
  wd : PySem.World
structure ClT (K : PySem.W.Frag) (a : Ad) : Prop where
  net : Cls K a.cNet
  gr : Cls K a.cGround
  onward : NoAttr K a.cNet "onward"
  walkers : NoAttr K a.cGround "walkers"
  weathers : NoAttr K a.cGround "weathers"
  facts : NoAttr K a.cGround "facts"
  crossings : NoAttr K a.cGround "crossings"
  given : NoAttr K a.cGround "given"
  ring : OexC K a.cRing
  row : PySem.W.findIn K (.ref a.cRing) "row" = some none
  x_rr : PySem.W.exmOne K (.ref a.cRing) (.ref a.cRing) = some true
  x_nr : PySem.W.exmOne K (.ref a.cNoFact) (.ref a.cRing) = some false
  x_nn : PySem.W.exmOne K (.ref a.cNoFact) (.ref a.cNoFact) = some true
  x_sr : PySem.W.exmOne K (.ref a.cNoSuch) (.ref a.cRing) = some false
  x_sn : PySem.W.exmOne K (.ref a.cNoSuch) (.ref a.cNoFact) = some false
  x_ss : PySem.W.exmOne K (.ref a.cNoSuch) (.ref a.cNoSuch) = some true
  x_fr : PySem.W.exmOne K (.ref a.cFull) (.ref a.cRing) = some false
  x_fn : PySem.W.exmOne K (.ref a.cFull) (.ref a.cNoFact) = some false
  x_fs : PySem.W.exmOne K (.ref a.cFull) (.ref a.cNoSuch) = some false
  x_ff : PySem.W.exmOne K (.ref a.cFull) (.ref a.cFull) = some true
  words : ∀ H, SqT K H a.oWORDS [.str ("over" : Str), .str ("ahead" : Str), .str ("amid" : Str), .str ("behind" : Str)]
/-! ### fields -/
theorem lk_hit {f : Str} {v : V} {fs : List (Str × V)} : ((f, v) :: fs).lookup f = some v := by simp [List.lookup]
theorem lk_miss {f g : Str} {v : V} {fs : List (Str × V)} (h : (g == f) = false) : ((f, v) :: fs).lookup g = fs.lookup g := by simp [List.lookup, h]
theorem pf_hit {f : Str} {v w : V} {fs : List (Str × V)} : putF f v ((f, w) :: fs) = (f, v) :: fs := by simp [putF]
theorem pf_miss {f g : Str} {v w : V} {fs : List (Str × V)} (h : (g == f) = false) : putF f v ((g, w) :: fs) = (g, w) :: putF f v fs := by
  have h' : ¬ g = f := by simpa using h
  simp [putF, h']
theorem pf_nil {f : Str} {v : V} : putF f v [] = [(f, v)] := rfl
/-! ### a ground -/
structure GA where
  p : Addr
  dx : Addr
  lw : Addr
  lt : Addr
  df : Addr
  dc : Addr
def gf (A : GA) (n : Int) : List (Str × V) := [("walkers", .ref A.lw), ("weathers", .ref A.lt), ("facts", .ref A.df), ("crossings", .ref A.dc), ("given", .int n)]
theorem gf_walkers (A : GA) (n : Int) : (gf A n).lookup ("walkers" : Str) = some (.ref A.lw) := lk_hit
theorem gf_weathers (A : GA) (n : Int) : (gf A n).lookup ("weathers" : Str) = some (.ref A.lt) := (lk_miss (by decide +kernel)).trans lk_hit
theorem gf_facts (A : GA) (n : Int) : (gf A n).lookup ("facts" : Str) = some (.ref A.df) := (lk_miss (by decide +kernel)).trans ((lk_miss (by decide +kernel)).trans lk_hit)
theorem gf_crossings (A : GA) (n : Int) : (gf A n).lookup ("crossings" : Str) = some (.ref A.dc) := (lk_miss (by decide +kernel)).trans ((lk_miss (by decide +kernel)).trans ((lk_miss (by decide +kernel)).trans lk_hit))
theorem gf_given (A : GA) (n : Int) : (gf A n).lookup ("given" : Str) = some (.int n) := (lk_miss (by decide +kernel)).trans ((lk_miss (by decide +kernel)).trans ((lk_miss (by decide +kernel)).trans ((lk_miss (by decide +kernel)).trans lk_hit)))
theorem gf_put (A : GA) (n m : Int) : putF "given" (.int m) (gf A n) = gf A m := by
  unfold gf
  rw [pf_miss (by decide +kernel), pf_miss (by decide +kernel), pf_miss (by decide +kernel), pf_miss (by decide +kernel), pf_hit]
theorem gf_no (A : GA) (n : Int) {m : Str} (h1 : (m == ("walkers" : Str)) = false) (h2 : (m == ("weathers" : Str)) = false) (h3 : (m == ("facts" : Str)) = false) (h4 : (m == ("crossings" : Str)) = false) (h5 : (m == ("given" : Str)) = false) : (gf A n).lookup m = none := by
  unfold gf
  rw [lk_miss h1, lk_miss h2, lk_miss h3, lk_miss h4, lk_miss h5]
  rfl
structure GrAt (C : Addr) (g : GS) (A : GA) (H : Hp) : Prop where
  ins : H A.p = some (.ins C A.dx (gf A g.given))
  ws : Ls g.walkers (.ref A.lw) H
  ts : Ls g.weathers (.ref A.lt) H
  fa : DkAt H A.df g.facts
  cr : DkAt H A.dc g.cross
  ne : A.df ≠ A.dc
theorem GrAt.ex {C : Addr} {g : GS} {A : GA} {H H' : Hp} (h : GrAt C g A H) (e : Ex H H') : GrAt C g A H' := ⟨e _ _ h.ins, h.ws.ex e, h.ts.ex e, h.fa.ex e, h.cr.ex e, h.ne⟩
/-- what the promises lean on -/
structure GOk (g : GS) : Prop where
  lw : g.walkers.length ≤ 8
  lt : g.weathers.length ≤ 3
  nd : (g.walkers ++ g.weathers).Nodup
  keys : (keysA g.facts ++ keysA g.cross).Nodup
  low : ∀ k ∈ keysA g.facts ++ keysA g.cross, 0 ≤ k ∧ k < g.given
  many : g.facts.length + g.cross.length ≤ 60
  facts : ∀ k f, (k, f) ∈ g.facts → isFact3 f g.walkers g.weathers = true
  cross : ∀ k c, (k, c) ∈ g.cross → c.1 ∈ g.walkers ∧ c.2 ∈ g.walkers ∧ c.1 ≠ c.2
  acyc : ∀ x, ¬ Reach (allLinks g []) x x
  zero : 0 ≤ g.given
/-! ### a net -/
structure NetAt (C : Addr) (things : List Thing) (links : List LinkT) (H : Hp) (p : Addr) : Prop where
  ex : ∃ (dx d : Addr) (ls : List Addr), H p = some (.ins C dx [("onward", .ref d)]) ∧ H d = some (.dT (things.zipWith (fun t l => (keyT t, V.ref l)) ls)) ∧ ls.length = things.length ∧ ls.Nodup ∧
    ∀ (i : Nat) (t : Thing) (l : Addr), things[i]? = some t → ls[i]? = some l → Ls ((links.filter fun k => decide (k.a = t)).map fun k => (k.b, k.c)) (.ref l) H
/-- .. whose objects Hb does not know -/
structure NetN (C : Addr) (things : List Thing) (links : List LinkT) (Hb H : Hp) (p : Addr) : Prop where
  ex : ∃ (dx d : Addr) (ls : List Addr), H p = some (.ins C dx [("onward", .ref d)]) ∧ H d = some (.dT (things.zipWith (fun t l => (keyT t, V.ref l)) ls)) ∧ ls.length = things.length ∧ ls.Nodup ∧
    (∀ (i : Nat) (t : Thing) (l : Addr), things[i]? = some t → ls[i]? = some l → Ls ((links.filter fun k => decide (k.a = t)).map fun k => (k.b, k.c)) (.ref l) H) ∧ Hb p = none ∧ Hb d = none ∧ ∀ l ∈ ls, Hb l = none
theorem NetN.at {C : Addr} {things : List Thing} {links : List LinkT} {Hb H : Hp} {p : Addr} (h : NetN C things links Hb H p) : NetAt C things links H p :=
  let ⟨dx, d, ls, h1, h2, h3, h4, h5, _⟩ := h.ex
  ⟨dx, d, ls, h1, h2, h3, h4, h5⟩
theorem NetAt.mono {C : Addr} {things : List Thing} {links : List LinkT} {H H' : Hp} {p : Addr} (h : NetAt C things links H p) (e : Ex H H') : NetAt C things links H' p :=
  let ⟨dx, d, ls, h1, h2, h3, h4, h5⟩ := h.ex
  ⟨dx, d, ls, e _ _ h1, e _ _ h2, h3, h4, fun i t l a b => (h5 i t l a b).ex e⟩
theorem NetN.mono {C : Addr} {things : List Thing} {links : List LinkT} {Hb H H' : Hp} {p : Addr} (h : NetN C things links Hb H p) (e : Ex H H') : NetN C things links Hb H' p :=
  let ⟨dx, d, ls, h1, h2, h3, h4, h5, h6⟩ := h.ex
  ⟨dx, d, ls, e _ _ h1, e _ _ h2, h3, h4, fun i t l a b => (h5 i t l a b).ex e, h6⟩
/-! ### ways -/
inductive IsWay (links : List LinkT) : Thing → Thing → List LinkT → Prop
  | one {k : LinkT} : k ∈ links → IsWay links k.a k.b [k]
  | cons {k : LinkT} {y : Thing} {w : List LinkT} : k ∈ links → IsWay links k.b y w → IsWay links k.a y (k :: w)
def Short (links : List LinkT) (x y : Thing) (w : List LinkT) : Prop := IsWay links x y w ∧ ∀ u, IsWay links x y u → w.length ≤ u.length
/-! ### deeds -/
inductive Deed where
  | tell (f : List Nm)
  | cross (x y : Nm)
  | take (n : Int)
  | settle (n : Int) (o : Nm)
inductive Res where
  | num (n : Int)
  | non
  | word (w : Nm)
def Res.enc : Res → PyData
  | .num n => .int n
  | .non => .none
  | .word w => .str w.s
def wRing : Nm := nmOf "ring"
def wNoFact : Nm := nmOf "nofact"
def wNoSuch : Nm := nmOf "nosuch"
def wFull : Nm := nmOf "full"
def TupN (xs : List Nm) : VP := fun v H => Td H v (.tuple (xs.map enc))
instance {xs : List Nm} : Mono (TupN xs) := ⟨fun e h => td_t e.t _ h⟩
def factL (xs : List Nm) : Option Fact := match xs with
  | [x, y, z] => some ⟨x, y, z⟩
  | _ => none
def isFactL (xs : List Nm) (ws ths : List Nm) : Bool := match factL xs with
  | some f => isFact3 f ws ths
  | none => false
noncomputable def closes (g : GS) (f : Fact) : Bool := (linksOf f).any fun e => reachB (allLinks g []) e.2 e.1
def GS.full (g : GS) : Bool := decide (60 ≤ g.facts.length + g.cross.length)
noncomputable def doG (g : GS) : Deed → Res × GS
  | .tell xs => match factL xs with
    | none => (.word wNoFact, g)
    | some f =>
      if isFact3 f g.walkers g.weathers = false then (.word wNoFact, g)
      else if g.full = true then (.word wFull, g)
      else if closes g f = true then (.word wRing, g)
      else (.num g.given, { g with facts := putA g.facts g.given f, given := g.given + 1 })
  | .cross x y =>
    if x ∉ g.walkers ∨ y ∉ g.walkers ∨ x = y then (.word wNoFact, g)
    else if g.full = true then (.word wFull, g)
    else (.num g.given, { g with cross := putA g.cross g.given (x, y), given := g.given + 1 })
  | .take n =>
    if n ∉ keysA g.facts ∧ n ∉ keysA g.cross then (.word wNoSuch, g)
    else (.non, { g with facts := dropA g.facts n, cross := dropA g.cross n })
  | .settle n o => match getA g.cross n with
    | none => (.word wNoSuch, g)
    | some c =>
      if o ≠ c.1 ∧ o ≠ c.2 then (.word wNoFact, g)
      else if closes g ⟨nOver, o, if o = c.1 then c.2 else c.1⟩ = true then (.word wRing, g)
      else (.num n, { g with cross := dropA g.cross n, facts := putA g.facts n ⟨nOver, o, if o = c.1 then c.2 else c.1⟩ })
/-- only what is named may change; tuples stay -/
structure Chg (S : List Addr) (H H' : Hp) : Prop where
  keep : ∀ b o, b ∉ S → H b = some o → H' b = some o
  tup : TEx H H'
theorem Chg.of_ex {S : List Addr} {H H' : Hp} (e : Ex H H') : Chg S H H' := ⟨fun b o _ h => e b o h, e.t⟩
theorem Chg.trans {S : List Addr} {H H1 H2 : Hp} (a : Chg S H H1) (b : Chg S H1 H2) : Chg S H H2 := ⟨fun c o n h => b.keep c o n (a.keep c o n h), a.tup.trans b.tup⟩
theorem Chg.mono {S S' : List Addr} {H H1 : Hp} (a : Chg S H H1) (h : ∀ b ∈ S, b ∈ S') : Chg S' H H1 := ⟨fun c o n q => a.keep c o (fun z => n (h c z)) q, a.tup⟩
theorem Chg.exB {S : List Addr} {Hb H H1 : Hp} (a : Chg S H H1) (e : Ex Hb H) (h : ∀ b ∈ S, Hb b = none) : Ex Hb H1 := fun b o q => a.keep b o (fun z => by rw [h b z] at q; cases q) (e b o q)
/-! ### promises: things.py -/
def letters : Str := "abcdefghijklmnopqrstuvwxyz"
def isNameS (z : Str) : Bool := (decide (1 ≤ (z.length : Int)) && decide ((z.length : Int) ≤ 8)) && decide ((z.cps.toList.filter fun c => !decide (c ∈ letters.cps.toList)) = [])
def sp_is_name (K : PySem.W.Frag) (a : Ad) : Sp := fun vs H Q _ => ∃ z : Nm, vs = [.str z.s] ∧ z.s.length ≤ 10000 ∧ ∀ H', Ex H H' → Q (.bl (isNameS z.s)) H'
def sp_all_things (K : PySem.W.Frag) (a : Ad) : Sp := fun vs H Q _ => ∃ (ws ths : List Nm) (v w : V), vs = [v, w] ∧ Ls ws v H ∧ Ls ths w H ∧ ws.length < 64 ∧ ths.length ≤ 1000 ∧ ∀ x H', Ex H H' → NL H (allThings ws ths) x H' → Q x H'
def sp_weather_links (K : PySem.W.Frag) (a : Ad) : Sp := fun vs H Q _ => ∃ (ths : List Nm) (v : V), vs = [v] ∧ Ls ths v H ∧ ths.length ≤ 1000 ∧ ∀ x H', Ex H H' → NL H (weatherLinks ths) x H' → Q x H'
def sp_links_of (K : PySem.W.Frag) (a : Ad) : Sp := fun vs H Q _ => ∃ (f : Fact) (v : V), vs = [v] ∧ D f v H ∧ ∀ x H', Ex H H' → NL H (linksOf f) x H' → Q x H'
def sp_is_fact (K : PySem.W.Frag) (a : Ad) : Sp := fun vs H Q _ => ∃ (xs ws ths : List Nm) (v w u : V), vs = [v, w, u] ∧ TupN xs v H ∧ Ls ws w H ∧ Ls ths u H ∧ xs.length ≤ 1000 ∧ ∀ H', Ex H H' → Q (.bl (isFactL xs ws ths)) H'
/-! ### links.py -/
def sp_Net_init (K : PySem.W.Frag) (a : Ad) : Sp := fun vs H Q _ => ∃ (Hb : Hp) (p dx : Addr) (things : List Thing) (v : V), vs = [.ref p, v] ∧ Ex Hb H ∧ Hb p = none ∧ H p = some (.ins a.cNet dx []) ∧ Ls things v Hb ∧ things.Nodup ∧ things.length ≤ 1000 ∧
  ∀ H', Ex Hb H' → NetN a.cNet things [] Hb H' p → Q .non H'
def sp_Net_add (K : PySem.W.Frag) (a : Ad) : Sp := fun vs H Q _ => ∃ (Hb : Hp) (p : Addr) (things : List Thing) (links : List LinkT) (e l : Thing) (n : Option Int) (v w u : V), vs = [.ref p, v, w, u] ∧ Ex Hb H ∧ NetN a.cNet things links Hb H p ∧ D e v H ∧ D l w H ∧ D n u H ∧
  e ∈ things ∧ things.Nodup ∧ links.length ≤ 1000 ∧ ∀ H', Ex Hb H' → TEx H H' → NetN a.cNet things (links ++ [⟨e, l, n⟩]) Hb H' p → Q .non H'
def sp_Net_way (K : PySem.W.Frag) (a : Ad) : Sp := fun vs H Q _ => ∃ (p : Addr) (things : List Thing) (links : List LinkT) (b t : Thing) (v w : V), vs = [.ref p, v, w] ∧ NetAt a.cNet things links H p ∧ D b v H ∧ D t w H ∧ b ∈ things ∧ things.Nodup ∧ (∀ k ∈ links, k.b ∈ things) ∧ things.length ≤ 1000 ∧
  ∀ x H', Ex H H' → ((x = .non ∧ (b = t ∨ ¬ Reach links b t)) ∨ ∃ u, b ≠ t ∧ Short links b t u ∧ u.length ≤ things.length ∧ NL H u x H') → Q x H'
def BeyR (links : List LinkT) (b : Thing) (H : Hp) (x : V) (H' : Hp) : Prop := ∃ d kvs, x = .ref d ∧ H d = none ∧ H' d = some (.dT kvs) ∧ ∀ t : Thing, (valV kvs (keyT t)).isSome = reachB links b t
def sp_Net_beyond (K : PySem.W.Frag) (a : Ad) : Sp := fun vs H Q _ => ∃ (p : Addr) (things : List Thing) (links : List LinkT) (b : Thing) (v : V), vs = [.ref p, v] ∧ NetAt a.cNet things links H p ∧ D b v H ∧ b ∈ things ∧ things.Nodup ∧ (∀ k ∈ links, k.b ∈ things) ∧ things.length ≤ 1000 ∧
  ∀ x H', Ex H H' → BeyR links b H x H' → Q x H'
/-! ### orders.py -/
def sp_known_pairs (K : PySem.W.Frag) (a : Ad) : Sp := fun vs H Q _ => ∃ (p : Addr) (things : List Thing) (links : List LinkT) (v : V), vs = [.ref p, v] ∧ NetAt a.cNet things links H p ∧ Ls things v H ∧ things.Nodup ∧ (∀ k ∈ links, k.b ∈ things) ∧ things.length ≤ 100 ∧
  ∀ x H', Ex H H' → NL H (pairsOf things links) x H' → Q x H'
/-! ### ground.py -/
def RingO (K : PySem.W.Frag) (a : Ad) : Prop := True
def sp_Ring_init (K : PySem.W.Frag) (a : Ad) : Sp := fun vs H Q _ => ∃ (e : Addr) (v : V) (ns : List Int), vs = [.ref e, v] ∧ H e = some (exo e a.cRing none) ∧ Ls ns v H ∧
  ∀ dx, H dx = none → dx ≠ e → Q .non (upd (upd H dx (exd dx [("row", v)])) e (exo e a.cRing (some dx)))
def sp_Ground_things (K : PySem.W.Frag) (a : Ad) : Sp := fun vs H Q _ => ∃ (g : GS) (A : GA), vs = [.ref A.p] ∧ GrAt a.cGround g A H ∧ g.walkers.length < 64 ∧ g.weathers.length ≤ 1000 ∧ ∀ x H', Ex H H' → NL H g.things x H' → Q x H'
def sp_Ground_net (K : PySem.W.Frag) (a : Ad) : Sp := fun vs H Q _ => ∃ (g : GS) (A : GA) (wo : List Int) (v : V), vs = [.ref A.p, v] ∧ GrAt a.cGround g A H ∧ GOk g ∧ Ls wo v H ∧ ∀ p H', Ex H H' → NetN a.cNet g.things (allLinks g wo) H H' p → Q (.ref p) H'
def sp_Ground_pairs (K : PySem.W.Frag) (a : Ad) : Sp := fun vs H Q _ => ∃ (g : GS) (A : GA), vs = [.ref A.p] ∧ GrAt a.cGround g A H ∧ GOk g ∧ ∀ x H', Ex H H' → NL H g.pairs x H' → Q x H'
def sp_Ground_new_number (K : PySem.W.Frag) (a : Ad) : Sp := fun vs H Q _ => ∃ (g : GS) (A : GA), vs = [.ref A.p] ∧ GrAt a.cGround g A H ∧ ∀ H', Chg [A.p] H H' → GrAt a.cGround { g with given := g.given + 1 } A H' → Q (.int g.given) H'
/-- the first of some links over which a shortest way back is the shortest -/
def Best (L : List LinkT) (es : List PairT) (e : PairT) (u : List LinkT) : Prop := ∃ pre post, es = pre ++ e :: post ∧ Short L e.2 e.1 u ∧ (∀ e' ∈ pre, ∀ u', Short L e'.2 e'.1 u' → u.length < u'.length) ∧ ∀ e' ∈ post, ∀ u', Short L e'.2 e'.1 u' → u.length ≤ u'.length
/-- a ring's row -/
def RowOk (g : GS) (f : Fact) (row : List Int) : Prop := ∃ e u, Best (allLinks g []) (linksOf f) e u ∧ row = u.filterMap (·.c)
def sp_Ground_ring_of (K : PySem.W.Frag) (a : Ad) : Sp := fun vs H Q _ => ∃ (g : GS) (A : GA) (f : Fact) (v : V), vs = [.ref A.p, v] ∧ GrAt a.cGround g A H ∧ GOk g ∧ D f v H ∧ isFact3 f g.walkers g.weathers = true ∧
  ∀ x H', Ex H H' → ((x = .non ∧ closes g f = false) ∨ ∃ row, closes g f = true ∧ RowOk g f row ∧ NL H row x H') → Q x H'
/-- what leaves as an exception -/
def ExcE (a : Ad) (g : GS) (f? : Option Fact) (E : XK) (H : Hp) (w : Nm) : Prop :=
  (w = wNoFact → ∀ H', Ex H H' → E (.ref a.cNoFact) none H') ∧ (w = wNoSuch → ∀ H', Ex H H' → E (.ref a.cNoSuch) none H') ∧ (w = wFull → ∀ H', Ex H H' → E (.ref a.cFull) none H') ∧
  (w = wRing → ∀ f row d x H', f? = some f → RowOk g f row → Ex H H' → H d = none → H' d = some (.xd [("row", x)]) → NL H row x H' → E (.ref a.cRing) (some d) H')
/-- the ground's answer to a deed: a number or None, or what it raises -/
def GAns (a : Ad) (g : GS) (A : GA) (dd : Deed) (f? : Option Fact) (H : Hp) (Q : VK) (E : XK) : Prop :=
  match (doG g dd).1 with
  | .num n => ∀ H', Chg [A.p, A.df, A.dc] H H' → GrAt a.cGround (doG g dd).2 A H' → Q (.int n) H'
  | .non => ∀ H', Chg [A.p, A.df, A.dc] H H' → GrAt a.cGround (doG g dd).2 A H' → Q .non H'
  | .word w => ExcE a g f? E H w
def sp_Ground_tell (K : PySem.W.Frag) (a : Ad) : Sp := fun vs H Q E => ∃ (g : GS) (A : GA) (xs : List Nm) (v : V), vs = [.ref A.p, v] ∧ GrAt a.cGround g A H ∧ GOk g ∧ TupN xs v H ∧ xs.length ≤ 1000 ∧ GAns a g A (.tell xs) (factL xs) H Q E
def sp_Ground_cross (K : PySem.W.Frag) (a : Ad) : Sp := fun vs H Q E => ∃ (g : GS) (A : GA) (x y : Nm), vs = [.ref A.p, .str x.s, .str y.s] ∧ GrAt a.cGround g A H ∧ GOk g ∧ GAns a g A (.cross x y) none H Q E
def sp_Ground_take (K : PySem.W.Frag) (a : Ad) : Sp := fun vs H Q E => ∃ (g : GS) (A : GA) (n : Int), vs = [.ref A.p, .int n] ∧ GrAt a.cGround g A H ∧ GOk g ∧ GAns a g A (.take n) none H Q E
def setF (g : GS) (n : Int) (o : Nm) : Option Fact := (getA g.cross n).map fun c => ⟨nOver, o, if o = c.1 then c.2 else c.1⟩
def sp_Ground_settle (K : PySem.W.Frag) (a : Ad) : Sp := fun vs H Q E => ∃ (g : GS) (A : GA) (n : Int) (o : Nm), vs = [.ref A.p, .int n, .str o.s] ∧ GrAt a.cGround g A H ∧ GOk g ∧ GAns a g A (.settle n o) (setF g n o) H Q E
def sp_Ground_told (K : PySem.W.Frag) (a : Ad) : Sp := fun vs H Q _ => ∃ (g : GS) (A : GA), vs = [.ref A.p] ∧ GrAt a.cGround g A H ∧
  ∀ t df dc H', Ex H H' → H t = none → H df = none → H dc = none → df ≠ dc → H' t = some (.tup [.ref df, .ref dc]) → DkAt H' df g.facts → DkAt H' dc g.cross → Q (.ref t) H'
/-- a good ground is made (the law never hands in another) -/
structure NamesOk (ws ths : List Nm) : Prop where
  lw : ws.length ≤ 8
  lt : ths.length ≤ 3
  nd : (ws ++ ths).Nodup
  nm : ∀ n ∈ ws ++ ths, isNameS n.s = true
def newG (ws ths : List Nm) : GS := ⟨ws, ths, [], [], 0⟩
def sp_Ground_init (K : PySem.W.Frag) (a : Ad) : Sp := fun vs H Q E => ∃ (Hb : Hp) (p dx : Addr) (ws ths : List Nm) (v w : V), vs = [.ref p, v, w] ∧ Ex Hb H ∧ Hb p = none ∧ H p = some (.ins a.cGround dx []) ∧ Ls ws v Hb ∧ Ls ths w Hb ∧ NamesOk ws ths ∧
  ∀ A H', Ex Hb H' → A.p = p → Hb A.df = none → Hb A.dc = none → Hb A.lw = none → Hb A.lt = none → GrAt a.cGround (newG ws ths) A H' → Q .non H'
end TK

namespace TK
open PySem L2
open Enc (enc)
section
variable {α β γ : Type} [DecidableEq α] [DecidableEq β] [DecidableEq γ] [Enc α] [Enc β] [Enc γ]
variable {K : PySem.W.Frag} {σ : St} {H H' : Hp} {ta tb tc te tl : TE} {t u tt : TT} {P P' : VP} {r : R2} {ta' : TA}
theorem e_fld {p C dx : Addr} {fs : List (Str × V)} {f : Str} {v : V} (h : EV te σ H (Is (.ref p))) (hp : H p = some (.ins C dx fs)) (hc : Cls K C) (hn : NoAttr K C f) (hl : fs.lookup f = some v) (m : ∀ H1, Ex H H1 → P v H1) : EV (tFld K te f) σ H P := fun H1 e Q q =>
  h H1 e _ fun x H2 e2 px => by
    cases px
    exact ⟨p, C, dx, fs, v, rfl, (e.trans e2) _ _ hp, hc, hn, hl, q v H2 e2 (m H2 (e.trans e2))⟩
theorem e_meth0 {p C dx : Addr} {fs : List (Str × V)} {m : Str} {sp : Sp} {E : XK} (h : EV te σ H (Is (.ref p))) (hp : H p = some (.ins C dx fs)) (hm : fs.lookup m = none)
    (hs : ∀ H1, Ex H H1 → ∀ Q : VK, (∀ v H2, Ex H1 H2 → P v H2 → Q v H2) → sp [.ref p] H1 Q E) : EV (tMeth C m sp [] E te tNil) σ H P := fun H1 e Q q =>
  h H1 e _ fun x H2 e2 px => by
    cases px
    exact ⟨p, dx, fs, rfl, (e.trans e2) _ _ hp, hm, hs H2 (e.trans e2) Q fun v H3 e3 => q v H3 (e2.trans e3)⟩
theorem e_meth1 {P1 : VP} {p C dx : Addr} {fs : List (Str × V)} {m : Str} {sp : Sp} {E : XK} (h : EV te σ H (Is (.ref p))) (hp : H p = some (.ins C dx fs)) (hm : fs.lookup m = none) (h1 : EV ta σ H P1)
    (hs : ∀ x H1, Ex H H1 → P1 x H1 → ∀ Q : VK, (∀ v H2, Ex H1 H2 → P v H2 → Q v H2) → sp [.ref p, x] H1 Q E) : EV (tMeth C m sp [] E te (tCons ta tNil)) σ H P := fun H1 e Q q =>
  h H1 e _ fun x H2 e2 px => by
    cases px
    exact ⟨p, dx, fs, rfl, (e.trans e2) _ _ hp, hm, h1 H2 (e.trans e2) _ fun y H3 e3 p1 => hs y H3 ((e.trans e2).trans e3) p1 Q fun v H4 e4 => q v H4 ((e2.trans e3).trans e4)⟩
theorem e_meth2 {P1 P2 : VP} [Mono P1] {p C dx : Addr} {fs : List (Str × V)} {m : Str} {sp : Sp} {E : XK} (h : EV te σ H (Is (.ref p))) (hp : H p = some (.ins C dx fs)) (hm : fs.lookup m = none) (h1 : EV ta σ H P1) (h2 : EV tb σ H P2)
    (hs : ∀ x y H1, Ex H H1 → P1 x H1 → P2 y H1 → ∀ Q : VK, (∀ v H2, Ex H1 H2 → P v H2 → Q v H2) → sp [.ref p, x, y] H1 Q E) : EV (tMeth C m sp [] E te (tCons ta (tCons tb tNil))) σ H P := fun H1 e Q q =>
  h H1 e _ fun x H2 e2 px => by
    cases px
    exact ⟨p, dx, fs, rfl, (e.trans e2) _ _ hp, hm, h1 H2 (e.trans e2) _ fun y H3 e3 p1 => h2 H3 ((e.trans e2).trans e3) _ fun z H4 e4 p2 =>
      hs y z H4 (((e.trans e2).trans e3).trans e4) (Mono.mono e4 p1) p2 Q fun v H5 e5 => q v H5 (((e2.trans e3).trans e4).trans e5)⟩
/-! ### sorted -/
theorem ls_strs {ws : List Nm} {v : V} {H : Hp} (h : Ls ws v H) : ∃ p, v = .ref p ∧ H p = some (.lst (ws.map fun n => V.str n.s)) := by
  obtain ⟨p, vs, rfl, h2, h3⟩ := h
  refine ⟨p, rfl, ?_⟩
  rw [h2]
  clear h2
  congr 2
  induction ws generalizing vs with
  | nil => cases h3; rfl
  | cons w ws ih =>
    cases h3 with
    | cons a b =>
      have a' : Td H _ (.str w.s) := a
      cases a'
      rw [ih _ b]
      rfl
theorem tda_strs (ws : List Nm) (H : Hp) : TdA H (ws.map fun n => V.str n.s) (ws.map enc) := by
  induction ws with
  | nil => exact .nil
  | cons w ws ih => exact .cons (Td.str _) ih
theorem ls_ints {ns : List Int} {v : V} {H : Hp} (h : Ls ns v H) : ∃ p, v = .ref p ∧ H p = some (.lst (ns.map V.int)) := by
  obtain ⟨p, vs, rfl, h2, h3⟩ := h
  refine ⟨p, rfl, ?_⟩
  rw [h2]
  clear h2
  congr 2
  induction ns generalizing vs with
  | nil => cases h3; rfl
  | cons w ws ih =>
    cases h3 with
    | cons a b =>
      have a' : Td H _ (.int w) := a
      cases a'
      rw [ih _ b]
      rfl
theorem tda_ints (ns : List Int) (H : Hp) : TdA H (ns.map V.int) (ns.map enc) := by
  induction ns with
  | nil => exact .nil
  | cons w ws ih => exact .cons (Td.int _) ih
theorem e_sortedS {ws : List Nm} (h : EV te σ H (Ls ws)) (hz : ws.length < 64) : EV (tCB (rSortedS K) (tCons te tNil)) σ H (NL H (sortN ws)) := fun H1 e Q q =>
  h H1 e _ fun v H2 e2 p => by
    obtain ⟨lp, rfl, hp⟩ := ls_strs p
    refine ⟨lp, ws.map (·.s), rfl, sq_of (by rw [List.map_map]; exact hp), by rw [List.length_map]; exact hz, fun ys l pm so hl => ?_⟩
    rw [sortN_is pm so]
    refine q _ _ (e2.trans (Ex.new hl)) ⟨l, _, rfl, e.free (e2.free hl), upd_same, ?_⟩
    rw [List.map_map]
    exact tda_strs _ _
theorem e_sortedI {ns : List Int} (h : EV te σ H (Ls ns)) (hz : ns.length < 64) : EV (tCB (rSorted K) (tCons te tNil)) σ H (NL H (sortI ns)) := fun H1 e Q q =>
  h H1 e _ fun v H2 e2 p => by
    obtain ⟨lp, rfl, hp⟩ := ls_ints p
    refine ⟨lp, ns, rfl, sq_of hp, hz, fun ys l pm so hl => ?_⟩
    rw [sortI_is pm so]
    exact q _ _ (e2.trans (Ex.new hl)) ⟨l, _, rfl, e.free (e2.free hl), upd_same, tda_ints _ _⟩
/-! ### dicts by numbers -/
theorem keys_kV (vs : List (Key × V)) (ks : List Int) (h : vs.map (·.1) = ks.map Sum.inl) : vs.map (fun kv => kV kv.1) = ks.map V.int := by
  have e : vs.map (fun kv => kV kv.1) = (vs.map (·.1)).map kV := by rw [List.map_map]; rfl
  rw [e, h, List.map_map]
  rfl
theorem e_listD {d : Addr} {kvs : List (Int × α)} (h : EV te σ H (Is (.ref d))) (hd : DkAt H d kvs) : EV (tCB rListD0 (tCons te tNil)) σ H (NL H (keysA kvs)) := fun H1 e Q q =>
  h H1 e _ fun v H2 e2 p => by
    cases p
    obtain ⟨vs, h1, h2⟩ := hd.ex (e.trans e2)
    refine ⟨d, vs, rfl, Or.inl h1, fun l hl => q _ _ (e2.trans (Ex.new hl)) ⟨l, _, rfl, e.free (e2.free hl), upd_same, ?_⟩⟩
    rw [keys_kV vs _ (prD_keys h2)]
    exact tda_ints _ _
theorem e_sortedDI {d : Addr} {kvs : List (Int × α)} (h : EV te σ H (Is (.ref d))) (hd : DkAt H d kvs) (hz : kvs.length < 64) : EV (tCB rSortedDI (tCons te tNil)) σ H (NL H (sortI (keysA kvs))) := fun H1 e Q q =>
  h H1 e _ fun v H2 e2 p => by
    cases p
    obtain ⟨vs, h1, h2⟩ := hd.ex (e.trans e2)
    refine ⟨d, vs, keysA kvs, rfl, Or.inl h1, prD_keys h2, by unfold keysA; rw [List.length_map]; exact hz, fun ys l pm so hl => ?_⟩
    rw [sortI_is pm so]
    exact q _ _ (e2.trans (Ex.new hl)) ⟨l, _, rfl, e.free (e2.free hl), upd_same, tda_ints _ _⟩
theorem e_lenD {d : Addr} {kvs : List (Int × α)} (h : EV te σ H (Is (.ref d))) (hd : DkAt H d kvs) : EV (tLenD (tCons te tNil)) σ H (D (kvs.length : Int)) := fun H1 e Q q =>
  h H1 e _ fun v H2 e2 p => by
    cases p
    obtain ⟨vs, h1, h2⟩ := hd.ex (e.trans e2)
    exact ⟨d, vs, rfl, h1, by rw [← prD_len h2]; exact q _ _ e2 (D.of_int _ _)⟩
theorem e_dget {d : Addr} {kvs : List (Int × α)} {k : Int} {x : α} (h : EV ta σ H (Is (.ref d))) (hk : EV tb σ H (D k)) (hd : DkAt H d kvs) (hx : getA kvs k = some x) : EV (tDGet ta tb) σ H (D x) := fun H1 e Q q =>
  h H1 e _ fun v H2 e2 p => hk H2 (e.trans e2) _ fun y H3 e3 pk => by
    cases p
    cases pk.is_int
    obtain ⟨vs, h1, h2⟩ := hd.ex ((e.trans e2).trans e3)
    rcases prD_val inl_inj' h2 k with ⟨z, _⟩ | ⟨x', v', z1, z2, z3⟩
    · rw [hx] at z; cases z
    · rw [hx] at z1
      cases z1
      have g := DGet.k (k := Sum.inl k) h1
      rw [z2] at g
      exact ⟨d, v', rfl, g, q _ H3 (e2.trans e3) z3⟩
theorem din_val {d : Addr} {kvs : List (Int × α)} {k : Int} (hd : DkAt H d kvs) : ∃ o, DGet H d (.int k) o ∧ o.isSome = memB k (keysA kvs) := by
  obtain ⟨vs, h1, h2⟩ := hd
  refine ⟨_, DGet.k (k := Sum.inl k) h1, ?_⟩
  rw [← getA_isSome]
  rcases prD_val inl_inj' h2 k with ⟨z, z'⟩ | ⟨x', v', z1, z2, _⟩
  · rw [z, z'] <;> rfl
  · rw [z1, z2] <;> rfl
theorem b_din {d : Addr} {kvs : List (Int × α)} {k : Int} (hk : EV ta σ H (D k)) (h : EV tb σ H (Is (.ref d))) (hd : DkAt H d kvs) : EB (tB (tDIn ta tb)) σ H (memB k (keysA kvs)) := fun H1 e Q q =>
  hk H1 e _ fun y H2 e2 pk => h H2 (e.trans e2) _ fun v H3 e3 p => by
    cases p
    cases pk.is_int
    obtain ⟨o, g, ho⟩ := din_val (k := k) (hd.ex ((e.trans e2).trans e3))
    exact ⟨d, o, rfl, g, _, by rw [ho], q H3 (e2.trans e3)⟩
theorem b_dnotin {d : Addr} {kvs : List (Int × α)} {k : Int} (hk : EV ta σ H (D k)) (h : EV tb σ H (Is (.ref d))) (hd : DkAt H d kvs) : EB (tB (tDNotIn ta tb)) σ H (!memB k (keysA kvs)) := fun H1 e Q q =>
  hk H1 e _ fun y H2 e2 pk => h H2 (e.trans e2) _ fun v H3 e3 p => by
    cases p
    cases pk.is_int
    obtain ⟨o, g, ho⟩ := din_val (k := k) (hd.ex ((e.trans e2).trans e3))
    exact ⟨d, o, rfl, g, _, by rw [ho], q H3 (e2.trans e3)⟩
/-! ### dicts by things -/
abbrev kT {ω : Type} (kvs : List (Thing × ω)) : List (List Key × ω) := kvs.map fun kv => (keyT kv.1, kv.2)
theorem kT_find {ω : Type} (kvs : List (Thing × ω)) (t : Thing) : (kT kvs).find? (fun kv => decide (kv.1 = keyT t)) = (kvs.find? fun kv => decide (kv.1 = t)).map fun kv => (keyT kv.1, kv.2) := by
  induction kvs with
  | nil => rfl
  | cons a as ih =>
    by_cases e : a.1 = t
    · simp [kT, e]
    · have e2 : ¬ keyT a.1 = keyT t := fun z => e (keyT_inj z)
      simp only [kT, List.map_cons, List.find?_cons, decide_eq_false e, decide_eq_false e2]
      exact ih
theorem dget_t {d : Addr} {kvs : List (List Key × V)} {x : Thing} {v : V} (hd : H d = some (.dT kvs)) (hx : D x v H) : DGet H d v (valV kvs (keyT x)) := by
  obtain ⟨b, rfl, hb⟩ := hx.key
  exact DGet.t hd hb
theorem dput_t {d : Addr} {kvs : List (List Key × V)} {x : Thing} {v z : V} (hd : H d = some (.dT kvs)) (hx : D x v H) (hz : kvs.length < 100000) : DPut H d v z (upd H d (.dT (putK kvs (keyT x) z))) := by
  obtain ⟨b, rfl, hb⟩ := hx.key
  exact DPut.t hd hb (sz_lt hz)
theorem b_tin {d : Addr} {kvs : List (List Key × V)} {x : Thing} (hk : EV ta σ H (D x)) (h : EV tb σ H (Is (.ref d))) (hd : H d = some (.dT kvs)) : EB (tB (tDIn ta tb)) σ H (valV kvs (keyT x)).isSome := fun H1 e Q q =>
  hk H1 e _ fun y H2 e2 pk => h H2 (e.trans e2) _ fun v H3 e3 p => by
    cases p
    exact ⟨d, _, rfl, dget_t (((e.trans e2).trans e3) _ _ hd) (pk.ex e3), _, rfl, q H3 (e2.trans e3)⟩
theorem b_tnotin {d : Addr} {kvs : List (List Key × V)} {x : Thing} (hk : EV ta σ H (D x)) (h : EV tb σ H (Is (.ref d))) (hd : H d = some (.dT kvs)) : EB (tB (tDNotIn ta tb)) σ H (!(valV kvs (keyT x)).isSome) := fun H1 e Q q =>
  hk H1 e _ fun y H2 e2 pk => h H2 (e.trans e2) _ fun v H3 e3 p => by
    cases p
    exact ⟨d, _, rfl, dget_t (((e.trans e2).trans e3) _ _ hd) (pk.ex e3), _, rfl, q H3 (e2.trans e3)⟩
theorem e_tget {d : Addr} {kvs : List (List Key × V)} {x : Thing} {z : V} (h : EV ta σ H (Is (.ref d))) (hk : EV tb σ H (D x)) (hd : H d = some (.dT kvs)) (hx : valV kvs (keyT x) = some z) : EV (tDGet ta tb) σ H (Is z) := fun H1 e Q q =>
  h H1 e _ fun v H2 e2 p => hk H2 (e.trans e2) _ fun y H3 e3 pk => by
    cases p
    have g := dget_t (((e.trans e2).trans e3) _ _ hd) pk
    rw [hx] at g
    exact ⟨d, z, rfl, g, q _ H3 (e2.trans e3) rfl⟩
/-! ### ranges -/
theorem e_lcR {n : Int} {vs : List Nat} {j : Nat} (f : Nat → β) (h : EV ta σ H (D n)) (hn : n ≤ 40000) (hn0 : -40000 ≤ n) (hw : ∀ x, wipe ((wipe σ vs).set j (some x)) vs = wipe σ vs)
    (he : ∀ (i : Nat) H1, (i : Int) < n → Ex H H1 → EV te ((wipe σ vs).set j (some (.int (i : Int)))) H1 (D (f i))) : EV (tLc (iRng1 (tCons ta tNil)) (gName j) tYes te vs) σ H (NL H ((List.range n.toNat).map f)) := fun H0 e Q q =>
  h H0 e _ fun v H1 e1 p => by
    cases p.is_int
    refine ⟨n, rfl, by omega, by omega, fun Dl hD => ?_⟩
    refine lc_range (lo := 0) (n := n.toNat) (fun i H' => Ex H1 H' ∧ ∃ ws, H' Dl = some (.lst ws) ∧ TdA H' ws (((List.range i).map f).map enc)) ⟨Ex.new hD, [], upd_same, .nil⟩ ?_ ?_
    · rintro i H' hi ⟨e2, ws, hw2, hd⟩
      have e0 : (0 : Int) + (i : Int) = (i : Int) := Int.zero_add _
      rw [e0]
      refine ⟨hw _, ?_⟩
      show te ((wipe σ vs).set j (some (V.int (i : Int)))) H' _
      have hwl : ws.length = i := by
        have z := tda_len hd
        rw [List.length_map, List.length_map, List.length_range] at z
        exact z
      refine he i H1 (by omega) (e.trans e1) H' e2 _ fun y H4 e4 py => ⟨ws, e4 _ _ hw2, sz_lt (by omega), Ex.mut (e2.trans e4) hD, ws ++ [y], upd_same, ?_⟩
      have tx : TEx H4 (upd H4 Dl (.lst (ws ++ [y]))) := TEx.upd (e4 _ _ hw2) True.intro
      rw [List.range_succ, List.map_append, List.map_append]
      exact tda_app (tda_t (e4.t.trans tx) _ hd) (tda_one (td_t tx _ py))
    · rintro H' ⟨e2, ws, hw2, hd⟩
      exact q _ H' (e1.trans e2) ⟨Dl, ws, rfl, e.free (e1.free hD), hw2, hd⟩
/-! ### a statement, then the rest -/
variable {Z : Ends} {tu tw ts tr : TS} {g : TG} {D1 : α}
theorem q_set {i : Nat} (h : EV te σ H P) (k : ∀ v H1, Ex H H1 → P v H1 → tr Z (σ.set i (some v)) H1) : tSeq (tAsg te (gName i)) tr Z σ H := h.run k
theorem q_drop (h : EV te σ H P) (k : ∀ v H1, Ex H H1 → P v H1 → tr Z σ H1) : tSeq (tDrop te) tr Z σ H := h.run k
theorem q_if {b : Bool} (h : EB t σ H b) (h1 : b = true → ∀ H1, Ex H H1 → tu { Z with nx := tr Z } σ H1) (h2 : b = false → ∀ H1, Ex H H1 → tr Z σ H1) : tSeq (tIfS t tu tNext) tr Z σ H := s_if (tw := tNext) h h1 h2
theorem q_if2 {b : Bool} (h : EB t σ H b) (h1 : b = true → ∀ H1, Ex H H1 → tu { Z with nx := tr Z } σ H1) (h2 : b = false → ∀ H1, Ex H H1 → tw { Z with nx := tr Z } σ H1) : tSeq (tIfS t tu tw) tr Z σ H := s_if h h1 h2
theorem q_pair {x : α} {y : β} {i j : Nat} (h : EV te σ H (D (x, y))) (k : ∀ v w H1, Ex H H1 → D x v H1 → D y w H1 → tr Z ((σ.set i (some v)).set j (some w)) H1) : tSeq (tAsg te (gTup K 2 (gCons (gName i) (gCons (gName j) gNil)))) tr Z σ H :=
  h.run fun v H1 e d => g_pair d fun x y dx dy => k x y H1 e dx dy
theorem q_t3 {x : α} {y : β} {z : γ} {i j l : Nat} (h : EV te σ H (D (T3.mk x y z))) (k : ∀ v w u H1, Ex H H1 → D x v H1 → D y w H1 → D z u H1 → tr Z (((σ.set i (some v)).set j (some w)).set l (some u)) H1) :
    tSeq (tAsg te (gTup K 3 (gCons (gName i) (gCons (gName j) (gCons (gName l) gNil))))) tr Z σ H :=
  h.run fun v H1 e d => g_t3 d fun x y z dx dy dz => k x y z H1 e dx dy dz
theorem q_for {xs : List α} (h : EV tl σ H P) (hP : ∀ v H1, P v H1 → Ls xs v H1) (Inv : Hp → V → List α → St → Hp → Prop) (h0 : ∀ v H1, Ex H H1 → P v H1 → Inv H1 v [] σ H1)
    (hk : ∀ v H1 pre σ' H', Ex H H1 → P v H1 → Inv H1 v pre σ' H' → Ls xs v H')
    (hs : ∀ v H1 pre x post y σ' H', Ex H H1 → P v H1 → xs = pre ++ x :: post → Inv H1 v pre σ' H' → D x y H' → g y σ' H' fun σ2 H2 => tu { Z with nx := Inv H1 v (pre ++ [x]), ct := Inv H1 v (pre ++ [x]), bk := tr Z } σ2 H2)
    (hd : ∀ v H1 σ' H', Ex H H1 → P v H1 → Inv H1 v xs σ' H' → tr Z σ' H') : tSeq (tFor (iList K tl) g tu) tr Z σ H :=
  s_for (Z := { Z with nx := tr Z }) h hP Inv h0 hk hs hd
theorem q_while (W : Nat → St → Hp → Prop) (m0 : Nat) (h0 : W m0 σ H)
    (hs : ∀ m σ' H', W m σ' H' → ∃ b, EB t σ' H' b ∧ (b = true → ∀ H1, Ex H' H1 → tu { Z with nx := fun σ2 H2 => ∃ m', m' < m ∧ W m' σ2 H2, ct := fun σ2 H2 => ∃ m', m' < m ∧ W m' σ2 H2, bk := tr Z } σ' H1) ∧ (b = false → ∀ H1, Ex H' H1 → tr Z σ' H1)) : tSeq (tWhile t tu) tr Z σ H :=
  s_while (Z := { Z with nx := tr Z }) W m0 h0 hs
theorem q_forR {ta : TE} {n : Int} (h : EV ta σ H (D n)) (hn : n ≤ 100000) (hn0 : -100000 ≤ n) (Pv : Nat → St → Hp → Prop) {j : Nat} (h0 : ∀ H1, Ex H H1 → Pv 0 σ H1)
    (hs : ∀ (i : Nat) σ' H', (i : Int) < n → Pv i σ' H' → tu { Z with nx := Pv (i + 1), ct := Pv (i + 1), bk := tr Z } (σ'.set j (some (.int (i : Int)))) H') (hd : ∀ σ' H', Pv n.toNat σ' H' → tr Z σ' H') : tSeq (tFor (iRng1 (tCons ta tNil)) (gName j) tu) tr Z σ H :=
  s_forR (Z := { Z with nx := tr Z }) (ea_int1 h) hn hn0 Pv h0 hs hd
/-- o.f = e -/
theorem q_sfld {P1 : VP} {p C : Addr} {f : Str} (h : EV te σ H P1) (ho : ∀ H1, Ex H H1 → EV ta σ H1 (Is (.ref p)))
    (k : ∀ v H1, Ex H H1 → P1 v H1 → ∃ dx fs, H1 p = some (.ins C dx fs) ∧ Cls K C ∧ NoAttr K C f ∧ fs.length < 1000 ∧ ∀ H2, Ex H1 H2 → tr Z σ (upd H2 p (.ins C dx (putF f v fs)))) : tSeq (sFld K ta te f) tr Z σ H :=
  h.run fun v H1 e p1 => by
    obtain ⟨dx, fs, hp, hc, hn, hl, kk⟩ := k v H1 e p1
    refine (ho H1 e).run fun x H2 e2 px => ?_
    cases px
    exact ⟨p, C, dx, fs, rfl, e2 _ _ hp, hc, hn, hl, kk H2 e2⟩
theorem s_sfld {P1 : VP} {p C : Addr} {f : Str} (h : EV te σ H P1) (ho : ∀ H1, Ex H H1 → EV ta σ H1 (Is (.ref p)))
    (k : ∀ v H1, Ex H H1 → P1 v H1 → ∃ dx fs, H1 p = some (.ins C dx fs) ∧ Cls K C ∧ NoAttr K C f ∧ fs.length < 1000 ∧ ∀ H2, Ex H1 H2 → Z.nx σ (upd H2 p (.ins C dx (putF f v fs)))) : sFld K ta te f Z σ H :=
  q_sfld (tr := tNext) h ho k
/-- d[k] = v, k a thing -/
theorem s_tput {P1 : VP} [Mono P1] {d : Addr} {x : Thing} {kvs : List (List Key × V)} (h : EV te σ H P1) (hd : EV ta σ H (Is (.ref d))) (hx : EV tb σ H (D x)) (ha : H d = some (.dT kvs)) (hz : kvs.length < 100000)
    (k : ∀ v H1, Ex H H1 → P1 v H1 → Z.nx σ (upd H1 d (.dT (putK kvs (keyT x) v)))) : sDPut ta tb te Z σ H :=
  h.run fun v H1 e p1 => hd H1 e _ fun y H2 e2 py => hx H2 (e.trans e2) _ fun z H3 e3 pz => by
    cases py
    exact ⟨d, _, rfl, dput_t (((e.trans e2).trans e3) _ _ ha) pz hz, k v H3 ((e.trans e2).trans e3) (Mono.mono (e2.trans e3) p1)⟩
/-- d[k] = v, k a number -/
theorem s_kput {P1 : VP} [Mono P1] {d : Addr} {n : Int} (h : EV te σ H P1) (hd : EV ta σ H (Is (.ref d))) (hx : EV tb σ H (D n)) 
    (k : ∀ v H1, Ex H H1 → P1 v H1 → ∃ kvs, H1 d = some (.dK kvs) ∧ kvs.length < 100000 ∧ Z.nx σ (upd H1 d (.dK (putK kvs (Sum.inl n) v)))) : sDPut ta tb te Z σ H :=
  h.run fun v H1 e p1 => hd H1 e _ fun y H2 e2 py => hx H2 (e.trans e2) _ fun z H3 e3 pz => by
    cases py
    cases pz.is_int
    obtain ⟨kvs, h1, h2, h3⟩ := k v H3 ((e.trans e2).trans e3) (Mono.mono (e2.trans e3) p1)
    exact ⟨d, _, rfl, DPut.k (k := Sum.inl n) h1 (sz_lt h2), h3⟩
/-- xs.append(e) -/
theorem s_app {P1 : VP} [Mono P1] {l : Addr} {xs : List V} (ho : EV ta σ H (Is (.ref l))) (h : EV te σ H P1) (hl : H l = some (.lst xs)) (hz : xs.length < 100000) (k : ∀ v H1, Ex H H1 → P1 v H1 → Z.nx σ (upd H1 l (.lst (xs ++ [v])))) :
    tDrop (tBM K "list" rAppend ta (tCons te tNil)) Z σ H := ho.run fun x H1 e px => by
  cases px
  exact ⟨Or.inl ⟨rfl, xs, sq_of (e _ _ hl)⟩, h H1 e _ fun v H2 e2 pv => ⟨l, xs, v, rfl, rfl, e2 _ _ (e _ _ hl), sz_lt hz, k v H2 (e.trans e2) pv⟩⟩
theorem q_app {P1 : VP} [Mono P1] {l : Addr} {xs : List V} (ho : EV ta σ H (Is (.ref l))) (h : EV te σ H P1) (hl : H l = some (.lst xs)) (hz : xs.length < 100000) (k : ∀ v H1, Ex H H1 → P1 v H1 → tr Z σ (upd H1 l (.lst (xs ++ [v])))) :
    tSeq (tDrop (tBM K "list" rAppend ta (tCons te tNil))) tr Z σ H := s_app (Z := { Z with nx := tr Z }) ho h hl hz k
theorem q_tput {P1 : VP} [Mono P1] {d : Addr} {x : Thing} {kvs : List (List Key × V)} (h : EV te σ H P1) (hd : EV ta σ H (Is (.ref d))) (hx : EV tb σ H (D x)) (ha : H d = some (.dT kvs)) (hz : kvs.length < 100000)
    (k : ∀ v H1, Ex H H1 → P1 v H1 → tr Z σ (upd H1 d (.dT (putK kvs (keyT x) v)))) : tSeq (sDPut ta tb te) tr Z σ H := s_tput (Z := { Z with nx := tr Z }) h hd hx ha hz k
/-! ### tuples of names -/
theorem e_lenT {xs : List Nm} (h : EV te σ H (TupN xs)) : EV (tCB (rLen K) (tCons te tNil)) σ H (D (xs.length : Int)) := fun H1 e Q q =>
  h H1 e _ fun v H2 e2 p => by
    have p : Td H2 v (.tuple (xs.map enc)) := p
    cases p with
    | tup hp ha =>
      have z := tda_len ha
      rw [List.length_map] at z
      exact ⟨_, _, rfl, Or.inr (st_of hp), by rw [z]; exact q _ H2 e2 (D.of_int _ _)⟩
theorem e_ixTN {xs : List Nm} {j : Nat} {n : Nm} (h : EV te σ H (TupN xs)) (hx : xs[j]? = some n) : EV (tOp (rIxT K) te (tC (.int (j : Int)))) σ H (D n) := fun H1 e Q q =>
  h H1 e _ fun v H2 e2 p => by
    have p : Td H2 v (.tuple (xs.map enc)) := p
    cases p with
    | tup hp ha =>
      obtain ⟨w, hw, ht⟩ := tda_at (i := j) ha (by rw [List.getElem?_map, hx]; rfl)
      exact ⟨_, _, (j : Int), w, rfl, rfl, st_of hp, atI_nat hw, q w H2 e2 ht⟩
theorem inV_strs (n : Nm) (ws : List Nm) : inV (.str n.s) (ws.map fun w => V.str w.s) = decide (n ∈ ws) := by
  unfold inV
  induction ws with
  | nil => simp
  | cons w ws ih =>
    rw [List.map_cons, List.any_cons, ih]
    have e : eqV (.str w.s) (.str n.s) = decide (n = w) := by
      show (w.s == n.s) = _
      rw [beq_str]
      exact decide_eq_decide.mpr ⟨fun z => Nm.ext' z.symm, fun z => by rw [z]⟩
    rw [e, ← Bool.decide_or]
    exact decide_eq_decide.mpr (by rw [List.mem_cons])
theorem flat_strs (ws : List Nm) : (ws.map fun w => V.str w.s).all flatV = true := by
  rw [List.all_map, List.all_eq_true]
  intro x _
  rfl
/-- x in, not in a tuple of names -/
theorem b_inTn {n : Nm} {ws : List Nm} {neg : Bool} (h1 : EV ta σ H (D n)) (h2 : EV tb σ H P') (m : ∀ y H1, Ex H H1 → P' y H1 → ∃ p, y = .ref p ∧ SqT K H1 p (ws.map fun w => V.str w.s)) [Mono P'] : EB (tTest (tOp (rIn K neg) ta tb)) σ H (if neg then !decide (n ∈ ws) else decide (n ∈ ws)) :=
  b_op h1 h2 fun x y H1 e p p' Q q => by
    cases p.is_nm
    obtain ⟨l, rfl, hs⟩ := m y H1 e p'
    exact ⟨l, _, rfl, Or.inr hs, rfl, flat_strs ws, by rw [inV_strs]; exact q⟩
/-! ### the signs of a text -/
def sign (c : Nat) : Nm := if h : c < 0x110000 then ⟨⟨#[c]⟩, by simp [PyData.strOk, h]⟩ else nWalker
theorem sign_s {c : Nat} (h : c < 0x110000) : (sign c).s = ⟨#[c]⟩ := by unfold sign; rw [dif_pos h]
theorem nm_lt {z : Nm} {c : Nat} (h : c ∈ z.s.cps.toList) : c < 0x110000 := by
  have ok := z.ok
  unfold PyData.strOk at ok
  rw [Array.all_eq_true'] at ok
  simpa using ok c (by simpa using h)
theorem e_lcS {z : Nm} {vs : List Nat} {j : Nat} (p : Nat → Bool) (hl : EV tl σ H (D z)) (hz : z.s.length ≤ 10000) (hw : ∀ x, wipe ((wipe σ vs).set j (some x)) vs = wipe σ vs)
    (ht : ∀ c H1, c ∈ z.s.cps.toList → Ex H H1 → EB tt ((wipe σ vs).set j (some (.str ⟨#[c]⟩))) H1 (p c)) (he : ∀ c H1, c ∈ z.s.cps.toList → Ex H H1 → EV te ((wipe σ vs).set j (some (.str ⟨#[c]⟩))) H1 (D (sign c))) :
    EV (tLc (iStr tl) (gName j) tt te vs) σ H (NL H ((z.s.cps.toList.filter p).map sign)) := fun H0 e Q q => hl H0 e _ fun v H1 e1 pl => by
  cases pl.is_nm
  refine ⟨z.s, rfl, fun Dl hD => ?_⟩
  have hz' : z.s.cps.toList.length = z.s.length := Array.length_toList
  refine ⟨fun i m H' => m = z.s.length - i ∧ i ≤ z.s.length ∧ Ex H1 H' ∧ ∃ ws, H' Dl = some (.lst ws) ∧ TdA H' ws ((((z.s.cps.toList.take i).filter p).map sign).map enc), ⟨_, rfl, Nat.zero_le _, Ex.new hD, [], upd_same, .nil⟩, ?_⟩
  rintro i m H' ⟨rfl, hi, e2, ws, hw2, hd⟩
  by_cases hlt : i < z.s.length
  · refine .inr ⟨hlt, fun H'' => (i + 1 ≤ z.s.length ∧ Ex H1 H'' ∧ ∃ ws, H'' Dl = some (.lst ws) ∧ TdA H'' ws ((((z.s.cps.toList.take (i + 1)).filter p).map sign).map enc)), fun H'' h2 => ⟨_, by omega, rfl, h2⟩, fun x H'' y => ?_⟩
    obtain ⟨ee, c, hc, rfl⟩ := y
    subst ee
    have hc' : z.s.cps.toList[i]? = some c := by rw [Array.getElem?_toList]; exact hc
    have hm : c ∈ z.s.cps.toList := List.mem_of_getElem? hc'
    have et : z.s.cps.toList.take (i + 1) = z.s.cps.toList.take i ++ [c] := by rw [List.take_add_one, hc']; rfl
    refine ⟨hw _, ht c H1 hm (e.trans e1) _ e2 _ fun H3 e3 => ?_⟩
    have hwl : ws.length ≤ i := by
      have z1 := tda_len hd
      rw [List.length_map, List.length_map] at z1
      have z2 := List.length_filter_le p (z.s.cps.toList.take i)
      rw [List.length_take] at z2
      omega
    cases hp : p c with
    | true =>
      rw [if_pos rfl]
      refine he c H1 hm (e.trans e1) H3 (e2.trans e3) _ fun y H4 e4 py => ⟨ws, e4 _ _ (e3 _ _ hw2), sz_lt (by omega), hlt, Ex.mut ((e2.trans e3).trans e4) hD, ws ++ [y], upd_same, ?_⟩
      have tx : TEx H4 (upd H4 Dl (.lst (ws ++ [y]))) := TEx.upd (e4 _ _ (e3 _ _ hw2)) True.intro
      rw [et, List.filter_append, List.filter_cons_of_pos hp, List.map_append, List.map_append]
      exact tda_app (tda_t ((e3.trans e4).t.trans tx) _ hd) (tda_one (td_t tx _ py))
    | false =>
      show _ ∧ _ ∧ _
      refine ⟨hlt, e2.trans e3, ws, e3 _ _ hw2, ?_⟩
      rw [et, List.filter_append, List.filter_cons_of_neg (by rw [hp]; decide), List.filter_nil, List.append_nil]
      exact tda_t e3.t _ hd
  · have ei : i = z.s.length := by omega
    subst ei
    rw [List.take_of_length_le (by omega)] at hd
    exact .inl ⟨Nat.le_refl _, q _ H' (e1.trans e2) ⟨Dl, ws, rfl, e.free (e1.free hD), hw2, hd⟩⟩
theorem e_lenS {z : Nm} (h : EV te σ H (D z)) (hz : z.s.length ≤ 10000) : EV (tCB rLenS (tCons te tNil)) σ H (D (z.s.length : Int)) := fun H1 e Q q =>
  h H1 e _ fun v H2 e2 p => by
    cases p.is_nm
    exact ⟨z.s, rfl, sz_of (by omega), q _ H2 e2 (D.of_int _ _)⟩
/-- i op j op k, one after the other -/
theorem e_chain {i j k : Int} {f g : Int → Int → Bool} {t1 t2 t3 : TE} (h1 : EV t1 σ H (D i)) (h2 : EV t2 σ H (D j)) (h3 : EV t3 σ H (D k)) :
    EV (tChain (rI0 fun i j => .bl (f i j)) (rI0 fun i j => .bl (g i j)) t1 t2 t3) σ H (Is (.bl (f i j && g j k))) := fun H1 e Q q =>
  h1 H1 e _ fun x H2 e2 p1 => h2 H2 (e.trans e2) _ fun y H3 e3 p2 => by
    cases p1.is_int
    cases p2.is_int
    refine ⟨i, j, rfl, rfl, f i j, rfl, ?_⟩
    cases hf : f i j with
    | false => exact q _ H3 (e2.trans e3) (by show _ = _; rw [hf]; rfl)
    | true =>
      refine h3 H3 ((e.trans e2).trans e3) _ fun z H4 e4 p3 => ?_
      cases p3.is_int
      exact ⟨j, k, rfl, rfl, q _ H4 ((e2.trans e3).trans e4) (by show _ = _; rw [hf]; rfl)⟩
/-! ### dicts by things that hold data -/
theorem tin_val {d : Addr} {kvs : List (Thing × α)} {x : Thing} {v : V} (hd : DtAt H d kvs) (hx : D x v H) : ∃ o, DGet H d v o ∧ o.isSome = memB x (keysA kvs) := by
  obtain ⟨vs, h1, h2⟩ := hd
  refine ⟨_, dget_t h1 hx, ?_⟩
  rw [← getA_isSome]
  rcases prD_val (fun _ _ => keyT_inj) h2 x with ⟨z, z'⟩ | ⟨x', v', z1, z2, _⟩
  · rw [z, z'] <;> rfl
  · rw [z1, z2] <;> rfl
theorem b_Tin {d : Addr} {kvs : List (Thing × α)} {x : Thing} (hk : EV ta σ H (D x)) (h : EV tb σ H (Is (.ref d))) (hd : DtAt H d kvs) : EB (tB (tDIn ta tb)) σ H (memB x (keysA kvs)) := fun H1 e Q q =>
  hk H1 e _ fun y H2 e2 pk => h H2 (e.trans e2) _ fun v H3 e3 p => by
    cases p
    obtain ⟨o, g, ho⟩ := tin_val (hd.ex ((e.trans e2).trans e3)) (pk.ex e3)
    exact ⟨d, o, rfl, g, _, by rw [ho], q H3 (e2.trans e3)⟩
theorem b_Tnotin {d : Addr} {kvs : List (Thing × α)} {x : Thing} (hk : EV ta σ H (D x)) (h : EV tb σ H (Is (.ref d))) (hd : DtAt H d kvs) : EB (tB (tDNotIn ta tb)) σ H (!memB x (keysA kvs)) := fun H1 e Q q =>
  hk H1 e _ fun y H2 e2 pk => h H2 (e.trans e2) _ fun v H3 e3 p => by
    cases p
    obtain ⟨o, g, ho⟩ := tin_val (hd.ex ((e.trans e2).trans e3)) (pk.ex e3)
    exact ⟨d, o, rfl, g, _, by rw [ho], q H3 (e2.trans e3)⟩
theorem e_Tget {d : Addr} {kvs : List (Thing × α)} {x : Thing} {z : α} (h : EV ta σ H (Is (.ref d))) (hk : EV tb σ H (D x)) (hd : DtAt H d kvs) (hx : getA kvs x = some z) : EV (tDGet ta tb) σ H (D z) := fun H1 e Q q =>
  h H1 e _ fun v H2 e2 p => hk H2 (e.trans e2) _ fun y H3 e3 pk => by
    cases p
    obtain ⟨vs, h1, h2⟩ := hd.ex ((e.trans e2).trans e3)
    have g := dget_t h1 pk
    rcases prD_val (fun _ _ => keyT_inj) h2 x with ⟨z', _⟩ | ⟨x', v', z1, z2, z3⟩
    · rw [hx] at z'; cases z'
    · rw [hx] at z1
      cases z1
      rw [z2] at g
      exact ⟨d, v', rfl, g, q _ H3 (e2.trans e3) z3⟩
theorem q_Tput {x : Thing} {z : α} {d : Addr} {kvs : List (Thing × α)} (h : EV te σ H (D z)) (hd : EV ta σ H (Is (.ref d))) (hx : EV tb σ H (D x)) (ha : DtAt H d kvs) (hz : kvs.length < 100000)
    (k : ∀ H1 H2, Ex H H1 → Chg [d] H1 H2 → (∀ b, b ≠ d → H2 b = H1 b) → DtAt H2 d (putA kvs x z) → tr Z σ H2) : tSeq (sDPut ta tb te) tr Z σ H :=
  h.run fun v H1 e p1 => hd H1 e _ fun y H2 e2 py => hx H2 (e.trans e2) _ fun w H3 e3 pz => by
    cases py
    obtain ⟨vs, h1, h2⟩ := ha.ex ((e.trans e2).trans e3)
    refine ⟨d, _, rfl, dput_t h1 pz (by rw [← prD_len h2]; exact hz), k H3 _ ((e.trans e2).trans e3) ⟨fun b o hb q => ?_, TEx.upd h1 True.intro⟩ (fun b hb => upd_ne hb) (DtAt.put h1 h2 (p1.ex (e2.trans e3)))⟩
    rw [upd_ne (by simpa using hb)]
    exact q
theorem s_Tput {x : Thing} {z : α} {d : Addr} {kvs : List (Thing × α)} (h : EV te σ H (D z)) (hd : EV ta σ H (Is (.ref d))) (hx : EV tb σ H (D x)) (ha : DtAt H d kvs) (hz : kvs.length < 100000)
    (k : ∀ H1 H2, Ex H H1 → Chg [d] H1 H2 → (∀ b, b ≠ d → H2 b = H1 b) → DtAt H2 d (putA kvs x z) → Z.nx σ H2) : sDPut ta tb te Z σ H := q_Tput (tr := tNext) h hd hx ha hz k
theorem e_dnewT : EV tDNewT σ H (fun v H1 => ∃ d, v = .ref d ∧ H d = none ∧ H1 d = some (.dT [])) := fun H1 e Q q p hp => q _ _ (Ex.new hp) ⟨p, rfl, e.free hp, upd_same⟩
theorem e_dnewK : EV tDNewK σ H (fun v H1 => ∃ d, v = .ref d ∧ H d = none ∧ H1 d = some (.dK [])) := fun H1 e Q q p hp => q _ _ (Ex.new hp) ⟨p, rfl, e.free hp, upd_same⟩
/-- a list grows: what it holds -/
theorem ls_app {xs : List α} {x : α} {l : Addr} {vs : List V} {v : V} (hl : H l = some (.lst vs)) (hv : TdA H vs (xs.map enc)) (hx : D x v H) : Ls (xs ++ [x]) (.ref l) (upd H l (.lst (vs ++ [v]))) := by
  refine ⟨l, _, rfl, upd_same, ?_⟩
  rw [List.map_append]
  have tx : TEx H (upd H l (.lst (vs ++ [v]))) := TEx.upd hl True.intro
  exact tda_app (tda_t tx _ hv) (tda_one (td_t tx _ hx))
/-- xs.append(e), xs told by its data -/
theorem q_App {xs : List α} {x : α} {l : Addr} (ho : EV ta σ H (Is (.ref l))) (h : EV te σ H (D x)) (hl : Ls xs (.ref l) H) (hz : xs.length < 100000)
    (k : ∀ H1 H2, Ex H H1 → Chg [l] H1 H2 → (∀ b, b ≠ l → H2 b = H1 b) → Ls (xs ++ [x]) (.ref l) H2 → tr Z σ H2) : tSeq (tDrop (tBM K "list" rAppend ta (tCons te tNil))) tr Z σ H := by
  obtain ⟨p, vs, e0, hp, hv⟩ := hl
  cases e0
  have hlen := tda_len hv
  rw [List.length_map] at hlen
  refine q_app ho h hp (by omega) fun v H1 e pv => k H1 _ e ⟨fun b o hb q => ?_, TEx.upd (e _ _ hp) True.intro⟩ (fun b hb => upd_ne hb) (ls_app (e _ _ hp) (tda_t e.t _ hv) pv)
  rw [upd_ne (by simpa using hb)]
  exact q
theorem s_App {xs : List α} {x : α} {l : Addr} (ho : EV ta σ H (Is (.ref l))) (h : EV te σ H (D x)) (hl : Ls xs (.ref l) H) (hz : xs.length < 100000)
    (k : ∀ H1 H2, Ex H H1 → Chg [l] H1 H2 → (∀ b, b ≠ l → H2 b = H1 b) → Ls (xs ++ [x]) (.ref l) H2 → Z.nx σ H2) : tDrop (tBM K "list" rAppend ta (tCons te tNil)) Z σ H := q_App (tr := tNext) ho h hl hz k
theorem Ls.chg {xs : List α} {l : Addr} {S : List Addr} (h : Ls xs (.ref l) H) (c : Chg S H H') (hl : l ∉ S) : Ls xs (.ref l) H' := by
  obtain ⟨p, vs, e0, hp, hv⟩ := h
  cases e0
  exact ⟨l, vs, rfl, c.keep _ _ hl hp, tda_t c.tup _ hv⟩
theorem DtAt.chg {kvs : List (Thing × α)} {d : Addr} {S : List Addr} (h : DtAt H d kvs) (c : Chg S H H') (hl : d ∉ S) : DtAt H' d kvs := let ⟨vs, h1, h2⟩ := h; ⟨vs, c.keep _ _ hl h1, prD_t c.tup h2⟩
theorem DkAt.chg {kvs : List (Int × α)} {d : Addr} {S : List Addr} (h : DkAt H d kvs) (c : Chg S H H') (hl : d ∉ S) : DkAt H' d kvs := let ⟨vs, h1, h2⟩ := h; ⟨vs, c.keep _ _ hl h1, prD_t c.tup h2⟩
/-- for x in a list whose reading changes the heap -/
theorem q_forX {xs : List α} (h : ∀ Q : VK, (∀ v H1, P v H1 → Q v H1) → tl σ H Q) (hP : ∀ v H1, P v H1 → Ls xs v H1) (Inv : Hp → V → List α → St → Hp → Prop) (h0 : ∀ v H1, P v H1 → Inv H1 v [] σ H1)
    (hk : ∀ v H1 pre σ' H', P v H1 → Inv H1 v pre σ' H' → Ls xs v H')
    (hs : ∀ v H1 pre x post y σ' H', P v H1 → xs = pre ++ x :: post → Inv H1 v pre σ' H' → D x y H' → g y σ' H' fun σ2 H2 => tu { Z with nx := Inv H1 v (pre ++ [x]), ct := Inv H1 v (pre ++ [x]), bk := Z.nx } σ2 H2)
    (hd : ∀ v H1 σ' H', P v H1 → Inv H1 v xs σ' H' → Z.nx σ' H') : tFor (iList K tl) g tu Z σ H := by
  refine h _ fun v H1 p => ?_
  obtain ⟨a, vs, rfl, ha, hv⟩ := hP v H1 p
  have hz : vs.length = xs.length := by have := tda_len hv; rwa [List.length_map] at this
  have same : ∀ pre σ' H', Inv H1 (.ref a) pre σ' H' → ∃ us, H' a = some (.lst us) ∧ TdA H' us (xs.map enc) := fun pre σ' H' q => by
    obtain ⟨b, us, eb, hb, hu⟩ := hk _ H1 pre σ' H' p q
    cases eb
    exact ⟨us, hb, hu⟩
  refine ⟨a, rfl, ⟨vs, sq_of ha⟩, fun i m σ' H' => m = xs.length - i ∧ i ≤ xs.length ∧ Inv H1 (.ref a) (xs.take i) σ' H', ⟨_, rfl, Nat.zero_le _, by rw [List.take_zero]; exact h0 _ H1 p⟩, ?_⟩
  rintro i m σ' H' ⟨rfl, hi, q⟩
  obtain ⟨us, hb, hu⟩ := same _ σ' H' q
  have hz' : us.length = xs.length := by have := tda_len hu; rwa [List.length_map] at this
  by_cases hlt : i < xs.length
  · refine .inr ⟨⟨us, us[i]'(by omega), sq_of hb, by simp [hz', hlt]⟩, Inv H1 (.ref a) (xs.take (i + 1)), fun σ'' H'' p' => ⟨xs.length - (i + 1), by omega, rfl, by omega, p'⟩, fun x H'' y => ?_⟩
    obtain ⟨ee, y⟩ := y
    subst ee
    obtain ⟨d, hd', ht⟩ := tda_get hu (y us (sq_of hb))
    have hx' : xs[i]? = some xs[i] := List.getElem?_eq_getElem hlt
    rw [List.getElem?_map, hx'] at hd'
    have hd'' : enc xs[i] = d := Option.some.inj hd'
    subst hd''
    have et : xs.take (i + 1) = xs.take i ++ [xs[i]] := by rw [List.take_add_one, hx']; rfl
    rw [et]
    refine hs _ H1 (xs.take i) xs[i] (xs.drop (i + 1)) x σ' _ p ?_ q ht
    rw [← List.drop_eq_getElem_cons hlt, List.take_append_drop]
  · have ei : i = xs.length := by omega
    subst ei
    rw [List.take_length] at q
    exact .inl ⟨⟨us, sq_of hb, by omega⟩, hd _ H1 σ' H' p q⟩
end
end TK


namespace TK
open PySem L2 PySem.Spec PyProof.Rows
open Enc (enc)
def t_is_name (K : PySem.W.Frag) (a : Ad) : TS :=
  (tRet (tAndV (tChain (rI0 fun i j => .bl (decide (i ≤ j))) (rI0 fun i j => .bl (decide (i ≤ j))) (tC (.int 1)) (tCB (rLenS) (tCons (tVar 0) tNil)) (tC (V.int 8))) (tOp (rEqD K) (tLc (iStr (tVar 0)) (gName 1) (tTest (tOp rNotInS (tVar 1) (tC (V.str ("abcdefghijklmnopqrstuvwxyz" : Str))))) (tVar 1) [1]) (tLst tNil))))
def t_Ground_init (K : PySem.W.Frag) (a : Ad) (E : XK) : TS :=
  (tSeq (sFld K (tVar 0) (tCB (rListS K) (tCons (tVar 1) tNil)) "walkers") (tSeq (sFld K (tVar 0) (tCB (rListS K) (tCons (tVar 2) tNil)) "weathers") (tSeq (tAsg (tOp rCat (tFld K (tVar 0) "walkers") (tFld K (tVar 0) "weathers")) (gName 3)) (tSeq (tIfS (tOr (tTest (tOp (rI0 fun i j => .bl (decide (j < i))) (tCB (rLen K) (tCons (tFld K (tVar 0) "walkers") tNil)) (tC (V.int 8)))) (tTest (tOp (rI0 fun i j => .bl (decide (j < i))) (tCB (rLen K) (tCons (tFld K (tVar 0) "weathers") tNil)) (tC (V.int 3))))) (fun _ σ H => E (.ref a.cFull) none H) tNext) (tSeq (tFor (iList K (tVar 3)) (gName 4) (tIfS (tOr (tNot (tB (tCall (sp_is_name K a) [] E0 (tCons (tVar 4) tNil)))) (tTest (tOp (rNeD K) (tBM K "list" (rCntF K) (tVar 3) (tCons (tVar 4) tNil)) (tC (.int 1))))) (fun _ σ H => E (.ref a.cNoFact) none H) tNext)) (tSeq (sFld K (tVar 0) tDNewK "facts") (tSeq (sFld K (tVar 0) tDNewK "crossings") (sFld K (tVar 0) (tC (.int 0)) "given"))))))))
def t_is_fact (K : PySem.W.Frag) (a : Ad) : TS :=
  (tSeq (tIfS (tOr (tTest (tOp (rNeD K) (tCB (rLen K) (tCons (tVar 0) tNil)) (tC (.int 3)))) (tOr (tTest (tOp (rIn K true) (tOp (rIxT K) (tVar 0) (tC (.int 0))) (tC (V.ref a.oWORDS)))) (tTest (tOp (rNotInD K) (tOp (rIxT K) (tVar 0) (tC (.int 1))) (tVar 1))))) (tRet (tC (.bl false))) tNext) (tSeq (tIfS (tTest (tOp (rEqD K) (tOp (rIxT K) (tVar 0) (tC (.int 0))) (tC (.str ("over" : Str))))) (tRet (tAndV (tOp (rInD K) (tOp (rIxT K) (tVar 0) (tC (.int 2))) (tVar 1)) (tOp (rNeD K) (tOp (rIxT K) (tVar 0) (tC (.int 2))) (tOp (rIxT K) (tVar 0) (tC (.int 1)))))) tNext) (tRet (tOp (rInD K) (tOp (rIxT K) (tVar 0) (tC (.int 2))) (tVar 2)))))
def t_all_things (K : PySem.W.Frag) (a : Ad) : TS :=
  (tSeq (tAsg (tLc (iList K (tCB (rSortedS K) (tCons (tVar 0) tNil))) (gName 2) tYes (tTup (tCons (tC (.str ("walker" : Str))) (tCons (tVar 2) tNil))) [2]) (gName 3)) (tSeq (tFor (iList K (tVar 1)) (gName 2) (tAsg (tOp rCat (tVar 3) (tLst (tCons (tTup (tCons (tC (.str ("begin" : Str))) (tCons (tVar 2) tNil))) (tCons (tTup (tCons (tC (.str ("end" : Str))) (tCons (tVar 2) tNil))) tNil)))) (gName 3))) (tRet (tVar 3))))
def t_Ground_things (K : PySem.W.Frag) (a : Ad) : TS :=
  (tRet (tCall (sp_all_things K a) [] E0 (tCons (tFld K (tVar 0) "walkers") (tCons (tFld K (tVar 0) "weathers") tNil))))
def t_Net_init (K : PySem.W.Frag) (a : Ad) : TS :=
  (tSeq (sFld K (tVar 0) tDNewT "onward") (tFor (iList K (tVar 1)) (gName 2) (sDPut (tFld K (tVar 0) "onward") (tVar 2) (tLst tNil))))
def t_weather_links (K : PySem.W.Frag) (a : Ad) : TS :=
  (tSeq (tAsg (tCall (sp_all_things K a) [] E0 (tCons (tLst tNil) (tCons (tVar 0) tNil))) (gName 1)) (tRet (tLc (iRng1 (tCons (tOp (rI0 fun i j => .int (i - j)) (tCB (rLen K) (tCons (tVar 1) tNil)) (tC (.int 1))) tNil)) (gName 2) tYes (tTup (tCons (tOp (rIxL K) (tVar 1) (tVar 2)) (tCons (tOp (rIxL K) (tVar 1) (tOp (rI0 fun i j => .int (i + j)) (tVar 2) (tC (.int 1)))) tNil))) [2])))
def t_Net_add (K : PySem.W.Frag) (a : Ad) : TS :=
  (tDrop (tBM K "list" (rAppend) (tDGet (tFld K (tVar 0) "onward") (tVar 1)) (tCons (tTup (tCons (tVar 2) (tCons (tVar 3) tNil))) tNil)))
def t_links_of (K : PySem.W.Frag) (a : Ad) : TS :=
  (tSeq (tAsg (tVar 0) (gTup K 3 (gCons (gName 1) (gCons (gName 2) (gCons (gName 3) gNil))))) (tSeq (tAsg (tTup (tCons (tC (.str ("walker" : Str))) (tCons (tVar 2) tNil))) (gName 4)) (tSeq (tIfS (tTest (tOp (rEqD K) (tVar 1) (tC (.str ("over" : Str))))) (tRet (tLst (tCons (tTup (tCons (tTup (tCons (tC (.str ("walker" : Str))) (tCons (tVar 3) tNil))) (tCons (tVar 4) tNil))) tNil))) tNext) (tSeq (tIfS (tTest (tOp (rEqD K) (tVar 1) (tC (.str ("ahead" : Str))))) (tRet (tLst (tCons (tTup (tCons (tVar 4) (tCons (tTup (tCons (tC (.str ("begin" : Str))) (tCons (tVar 3) tNil))) tNil))) tNil))) tNext) (tSeq (tIfS (tTest (tOp (rEqD K) (tVar 1) (tC (.str ("amid" : Str))))) (tRet (tLst (tCons (tTup (tCons (tTup (tCons (tC (.str ("begin" : Str))) (tCons (tVar 3) tNil))) (tCons (tVar 4) tNil))) (tCons (tTup (tCons (tVar 4) (tCons (tTup (tCons (tC (.str ("end" : Str))) (tCons (tVar 3) tNil))) tNil))) tNil)))) tNext) (tRet (tLst (tCons (tTup (tCons (tTup (tCons (tC (.str ("end" : Str))) (tCons (tVar 3) tNil))) (tCons (tVar 4) tNil))) tNil))))))))
def t_Ground_net (K : PySem.W.Frag) (a : Ad) : TS :=
  (tSeq (tAsg (tMake a.cNet (sp_Net_init K a) [] E0 (tCons (tMeth a.cGround "things" (sp_Ground_things K a) [] E0 (tVar 0) tNil) tNil)) (gName 2)) (tSeq (tFor (iList K (tCall (sp_weather_links K a) [] E0 (tCons (tFld K (tVar 0) "weathers") tNil))) (gTup K 2 (gCons (gName 3) (gCons (gName 4) gNil))) (tDrop (tMeth a.cNet "add" (sp_Net_add K a) [] E0 (tVar 2) (tCons (tVar 3) (tCons (tVar 4) (tCons (tC .non) tNil)))))) (tSeq (tFor (iList K (tCB (rSorted K) (tCons (tCB (rListD0) (tCons (tFld K (tVar 0) "facts") tNil)) tNil))) (gName 5) (tIfS (tTest (tOp (rNotInD K) (tVar 5) (tVar 1))) (tFor (iList K (tCall (sp_links_of K a) [] E0 (tCons (tDGet (tFld K (tVar 0) "facts") (tVar 5)) tNil))) (gTup K 2 (gCons (gName 3) (gCons (gName 4) gNil))) (tDrop (tMeth a.cNet "add" (sp_Net_add K a) [] E0 (tVar 2) (tCons (tVar 3) (tCons (tVar 4) (tCons (tVar 5) tNil)))))) tNext)) (tRet (tVar 2)))))
def t_Net_way (K : PySem.W.Frag) (a : Ad) : TS :=
  (tSeq (tAsg (tDisp1T (tVar 1) (tC .non)) (gName 3)) (tSeq (tAsg (tLst (tCons (tVar 1) tNil)) (gName 4)) (tSeq (tAsg (tC (.int 0)) (gName 5)) (tSeq (tWhile (tAnd (tTest (tOp (rI0 fun i j => .bl (decide (i < j))) (tVar 5) (tCB (rLen K) (tCons (tVar 4) tNil)))) (tB (tDNotIn (tVar 2) (tVar 3)))) (tSeq (tAsg (tOp (rIxL K) (tVar 4) (tVar 5)) (gName 6)) (tSeq (tAsg (tOp (rI0 fun i j => .int (i + j)) (tVar 5) (tC (.int 1))) (gName 5)) (tFor (iList K (tDGet (tFld K (tVar 0) "onward") (tVar 6))) (gTup K 2 (gCons (gName 7) (gCons (gName 8) gNil))) (tIfS (tB (tDNotIn (tVar 7) (tVar 3))) (tSeq (sDPut (tVar 3) (tVar 7) (tTup (tCons (tVar 6) (tCons (tVar 8) tNil)))) (tDrop (tBM K "list" (rAppend) (tVar 4) (tCons (tVar 7) tNil)))) tNext))))) (tSeq (tIfS (tOr (tB (tDNotIn (tVar 2) (tVar 3))) (tTest (tOp (rEqD K) (tVar 2) (tVar 1)))) (tRet (tC .non)) tNext) (tSeq (tAsg (tLst tNil) (gName 9)) (tSeq (tWhile (tB (tNotN (tDGet (tVar 3) (tVar 2)))) (tSeq (tAsg (tDGet (tVar 3) (tVar 2)) (gTup K 2 (gCons (gName 10) (gCons (gName 8) gNil)))) (tSeq (tDrop (tBM K "list" (rAppend) (tVar 9) (tCons (tTup (tCons (tVar 10) (tCons (tVar 2) (tCons (tVar 8) tNil)))) tNil))) (tAsg (tVar 10) (gName 2))))) (tRet (tListRev K (tVar 9))))))))))
def t_Ground_ring_of (K : PySem.W.Frag) (a : Ad) : TS :=
  (tSeq (tAsg (tMeth a.cGround "net" (sp_Ground_net K a) [] E0 (tVar 0) (tCons (tLst tNil) tNil)) (gName 2)) (tSeq (tAsg (tC .non) (gName 3)) (tSeq (tFor (iList K (tCall (sp_links_of K a) [] E0 (tCons (tVar 1) tNil))) (gTup K 2 (gCons (gName 4) (gCons (gName 5) gNil))) (tSeq (tAsg (tMeth a.cNet "way" (sp_Net_way K a) [] E0 (tVar 2) (tCons (tVar 5) (tCons (tVar 4) tNil))) (gName 6)) (tIfS (tAnd (tB (tNotN (tVar 6))) (tOr (tB (tIsN (tVar 3))) (tTest (tOp (rI0 fun i j => .bl (decide (i < j))) (tCB (rLen K) (tCons (tVar 6) tNil)) (tCB (rLen K) (tCons (tVar 3) tNil)))))) (tAsg (tVar 6) (gName 3)) tNext))) (tSeq (tIfS (tB (tIsN (tVar 3))) (tRet (tC .non)) tNext) (tRet (tLc (iList K (tVar 3)) (gTup K 3 (gCons (gName 7) (gCons (gName 8) (gCons (gName 9) gNil)))) (tB (tNotN (tVar 9))) (tVar 9) [7, 8, 9]))))))
def t_Ground_new_number (K : PySem.W.Frag) (a : Ad) : TS :=
  (tSeq (sFld K (tVar 0) (tOp (rI0 fun i j => .int (i + j)) (tFld K (tVar 0) "given") (tC (.int 1))) "given") (tRet (tOp (rI0 fun i j => .int (i - j)) (tFld K (tVar 0) "given") (tC (.int 1)))))
def t_Ring_init (K : PySem.W.Frag) (a : Ad) : TS :=
  (tSeq (tDrop (tVeI K (tCons (tVar 0) (tCons (tCB (rLen K) (tCons (tVar 1) tNil)) tNil)))) (tOst K "row" (tVar 0) (tVar 1)))
def t_Ground_tell (K : PySem.W.Frag) (a : Ad) (E : XK) : TS :=
  (tSeq (tIfS (tNot (tB (tCall (sp_is_fact K a) [] E0 (tCons (tVar 1) (tCons (tFld K (tVar 0) "walkers") (tCons (tFld K (tVar 0) "weathers") tNil)))))) (fun _ σ H => E (.ref a.cNoFact) none H) tNext) (tSeq (tIfS (tTest (tOp (rI0 fun i j => .bl (decide (j ≤ i))) (tOp (rI0 fun i j => .int (i + j)) (tLenD (tCons (tFld K (tVar 0) "facts") tNil)) (tLenD (tCons (tFld K (tVar 0) "crossings") tNil))) (tC (V.int 60)))) (fun _ σ H => E (.ref a.cFull) none H) tNext) (tSeq (tAsg (tMeth a.cGround "ring_of" (sp_Ground_ring_of K a) [] E0 (tVar 0) (tCons (tVar 1) tNil)) (gName 2)) (tSeq (tIfS (tB (tNotN (tVar 2))) (tRaiseO a.cRing (sp_Ring_init K a) E (tCons (tVar 2) tNil)) tNext) (tSeq (tAsg (tMeth a.cGround "new_number" (sp_Ground_new_number K a) [] E0 (tVar 0) tNil) (gName 3)) (tSeq (sDPut (tFld K (tVar 0) "facts") (tVar 3) (tVar 1)) (tRet (tVar 3))))))))
def t_Ground_cross (K : PySem.W.Frag) (a : Ad) (E : XK) : TS :=
  (tSeq (tIfS (tOr (tTest (tOp (rNotInD K) (tVar 1) (tFld K (tVar 0) "walkers"))) (tOr (tTest (tOp (rNotInD K) (tVar 2) (tFld K (tVar 0) "walkers"))) (tTest (tOp (rEqD K) (tVar 1) (tVar 2))))) (fun _ σ H => E (.ref a.cNoFact) none H) tNext) (tSeq (tIfS (tTest (tOp (rI0 fun i j => .bl (decide (j ≤ i))) (tOp (rI0 fun i j => .int (i + j)) (tLenD (tCons (tFld K (tVar 0) "facts") tNil)) (tLenD (tCons (tFld K (tVar 0) "crossings") tNil))) (tC (V.int 60)))) (fun _ σ H => E (.ref a.cFull) none H) tNext) (tSeq (tAsg (tMeth a.cGround "new_number" (sp_Ground_new_number K a) [] E0 (tVar 0) tNil) (gName 3)) (tSeq (sDPut (tFld K (tVar 0) "crossings") (tVar 3) (tTup (tCons (tVar 1) (tCons (tVar 2) tNil)))) (tRet (tVar 3))))))
def t_Ground_take (K : PySem.W.Frag) (a : Ad) (E : XK) : TS :=
  (tIfS (tB (tDIn (tVar 1) (tFld K (tVar 0) "facts"))) (tDrop (tDPop1 (tFld K (tVar 0) "facts") (tVar 1))) (tIfS (tB (tDIn (tVar 1) (tFld K (tVar 0) "crossings"))) (tDrop (tDPop1 (tFld K (tVar 0) "crossings") (tVar 1))) (fun _ σ H => E (.ref a.cNoSuch) none H)))
def t_Ground_settle (K : PySem.W.Frag) (a : Ad) (E : XK) : TS :=
  (tSeq (tIfS (tB (tDNotIn (tVar 1) (tFld K (tVar 0) "crossings"))) (fun _ σ H => E (.ref a.cNoSuch) none H) tNext) (tSeq (tAsg (tDGet (tFld K (tVar 0) "crossings") (tVar 1)) (gName 3)) (tSeq (tIfS (tTest (tOp (rIn K true) (tVar 2) (tVar 3))) (fun _ σ H => E (.ref a.cNoFact) none H) tNext) (tSeq (tAsg (tOp (rIxT K) (tVar 3) (tCB (rIntB) (tCons (tOp (rEqD K) (tVar 2) (tOp (rIxT K) (tVar 3) (tC (.int 0)))) tNil))) (gName 4)) (tSeq (tAsg (tMeth a.cGround "ring_of" (sp_Ground_ring_of K a) [] E0 (tVar 0) (tCons (tTup (tCons (tC (.str ("over" : Str))) (tCons (tVar 2) (tCons (tVar 4) tNil)))) tNil)) (gName 5)) (tSeq (tIfS (tB (tNotN (tVar 5))) (tRaiseO a.cRing (sp_Ring_init K a) E (tCons (tVar 5) tNil)) tNext) (tSeq (tDrop (tDPop1 (tFld K (tVar 0) "crossings") (tVar 1))) (tSeq (sDPut (tFld K (tVar 0) "facts") (tVar 1) (tTup (tCons (tC (.str ("over" : Str))) (tCons (tVar 2) (tCons (tVar 4) tNil))))) (tRet (tVar 1))))))))))
def t_Ground_told (K : PySem.W.Frag) (a : Ad) : TS :=
  (tRet (tTup (tCons (tCB (rDictD) (tCons (tFld K (tVar 0) "facts") tNil)) (tCons (tCB (rDictD) (tCons (tFld K (tVar 0) "crossings") tNil)) tNil))))
def t_Net_beyond (K : PySem.W.Frag) (a : Ad) : TS :=
  (tSeq (tAsg tDNewT (gName 2)) (tSeq (tAsg (tLst (tCons (tVar 1) tNil)) (gName 3)) (tSeq (tWhile (tTest (tOp (rNeD K) (tVar 3) (tLst tNil))) (tFor (iList K (tDGet (tFld K (tVar 0) "onward") (tBM0 K "list" (rPop) (tVar 3)))) (gTup K 2 (gCons (gName 4) (gCons (gName 5) gNil))) (tIfS (tB (tDNotIn (tVar 4) (tVar 2))) (tSeq (sDPut (tVar 2) (tVar 4) (tC (.bl true))) (tDrop (tBM K "list" (rAppend) (tVar 3) (tCons (tVar 4) tNil)))) tNext))) (tRet (tVar 2)))))
def t_known_pairs (K : PySem.W.Frag) (a : Ad) : TS :=
  (tSeq (tAsg (tLst tNil) (gName 2)) (tSeq (tFor (iList K (tVar 1)) (gName 3) (tSeq (tAsg (tMeth a.cNet "beyond" (sp_Net_beyond K a) [] E0 (tVar 0) (tCons (tVar 3) tNil)) (gName 4)) (tAsg (tOp rCat (tVar 2) (tLc (iList K (tVar 1)) (gName 5) (tB (tDIn (tVar 5) (tVar 4))) (tTup (tCons (tVar 3) (tCons (tVar 5) tNil))) [5])) (gName 2)))) (tRet (tVar 2))))
def t_Ground_pairs (K : PySem.W.Frag) (a : Ad) : TS :=
  (tRet (tCall (sp_known_pairs K a) [] E0 (tCons (tMeth a.cGround "net" (sp_Ground_net K a) [] E0 (tVar 0) (tCons (tLst tNil) tNil)) (tCons (tMeth a.cGround "things" (sp_Ground_things K a) [] E0 (tVar 0) tNil) tNil))))
end TK

namespace TK
open PySem L2 PySem.Spec PyProof.Rows
open Enc (enc)
section
variable {K : PySem.W.Frag} {a : Ad} {vs : List V} {H : Hp} {Q : VK} {E : XK}
abbrev FinQ (Q : VK) : Ends := { nx := fun _ H' => Q .non H', rt := Q }
theorem len_all_things (K : PySem.W.Frag) (a : Ad) : ∀ vs H Q E, sp_all_things K a vs H Q E → vs.length = 2 := fun _ _ _ _ ⟨_, _, _, _, e, _⟩ => by rw [e]; rfl
theorem p_all_things (T : ClT K a) (h : sp_all_things K a vs H Q E) : t_all_things K a (FinQ Q) (start ["walkers", "weathers", "name", "found"] vs) H := by
  obtain ⟨ws, ths, v, w, rfl, hv, hw, z1, z2, k⟩ := h
  have zs : (sortN ws).length = ws.length := (sortN_perm ws).length_eq
  refine q_set (e_lc0 (α := Nm) (β := Thing) (fun n => (nWalker, n)) (e_sortedS (e_var hv) z1).ls (by omega) (fun _ => rfl) fun x y H1 _ _ d => e_pair (e_str nWalker) (e_var d)) fun x1 H1 e1 d1 => ?_
  have hw1 := hw.ex e1
  refine q_for (α := Nm) (e_var (P := Ls ths) hw1) (fun _ _ p => p) (fun H2 v2 pre σ' H' => ∃ (x : V) (n : Option V), σ' = [some v, some w, n, some x] ∧ Ex H2 H' ∧ NL H ((sortN ws).map (fun n => (nWalker, n)) ++ pre.flatMap (fun n => [(nBegin, n), (nEnd, n)])) x H')
    ?_ ?_ ?_ ?_
  · exact fun v2 H2 e2 p2 => ⟨x1, none, rfl, Ex.refl _, by rw [List.flatMap_nil, List.append_nil]; exact d1.ex e2⟩
  · rintro v2 H2 pre σ' H' e2 p2 ⟨x, n, rfl, e3, q⟩
    exact p2.ex e3
  · rintro v2 H2 pre n post y σ' H' e2 p2 hsp ⟨x, nn, rfl, e3, q⟩ dy
    have hl : pre.length ≤ 1000 := by rw [hsp, List.length_append] at z2; omega
    have hz : ((sortN ws).map (fun n => (nWalker, n)) ++ pre.flatMap (fun n => [(nBegin, n), (nEnd, n)])).length ≤ 64 + 2 * pre.length := by
      rw [List.length_append, List.length_map, List.length_flatMap, zs]
      have : (pre.map fun n => ([(nBegin, n), (nEnd, n)] : List Thing).length).sum = 2 * pre.length := by
        clear hsp q hl
        induction pre with
        | nil => rfl
        | cons a as ih => rw [List.map_cons, List.sum_cons, ih, List.length_cons, List.length_cons]; simp; omega
      omega
    refine s_set (e_cat (α := Thing) (e_var q.ls) (e_l2 (e_pair (e_str nBegin) (e_var dy)) (e_pair (e_str nEnd) (e_var dy))).ls (by simp only [List.length_cons, List.length_nil]; omega)) fun x2 H3 e4 d4 => ?_
    refine ⟨x2, _, rfl, e3.trans e4, ?_⟩
    rw [List.flatMap_append, List.flatMap_singleton, ← List.append_assoc]
    exact d4.back (e1.trans (e2.trans e3))
  · rintro v2 H2 σ' H' e2 p2 ⟨x, n, rfl, e3, q⟩
    exact s_ret (e_var (P := NL H (allThings ws ths)) q) fun x2 H3 e4 d4 => k _ _ (e1.trans (e2.trans (e3.trans e4))) d4
theorem len_weather_links (K : PySem.W.Frag) (a : Ad) : ∀ vs H Q E, sp_weather_links K a vs H Q E → vs.length = 1 := fun _ _ _ _ ⟨_, _, e, _⟩ => by rw [e]; rfl
theorem allThings_len (ths : List Nm) : (allThings [] ths).length = 2 * ths.length := by
  unfold allThings
  have : sortN [] = [] := List.Perm.eq_nil (sortN_perm [])
  rw [this, List.map_nil, List.nil_append]
  induction ths with
  | nil => rfl
  | cons a as ih => rw [List.flatMap_cons, List.length_append, ih]; simp; omega
theorem p_weather_links (T : ClT K a) (h : sp_weather_links K a vs H Q E) : t_weather_links K a (FinQ Q) (start ["weathers", "moments", "k"] vs) H := by
  obtain ⟨ths, v, rfl, hv, z, k⟩ := h
  have hl := allThings_len ths
  refine q_set (P := NL H (allThings [] ths)) (e_call2 (P1 := NL H ([] : List Nm)) (P2 := Ls ths) e_nil (e_var hv) fun x y H1 e p1 p2 Q q => ⟨[], ths, x, y, rfl, p1.ls, p2, by decide, z, fun r H2 e2 n => q r H2 e2 (n.back e)⟩) fun x1 H1 e1 d1 => ?_
  refine s_ret (P := NL H1 (weatherLinks ths)) ?_ ?_; rotate_left; · exact fun r H2 e2 d2 => k _ _ (e1.trans e2) (d2.back e1)
  have hlen : EV (tCB (rLen K) (tCons (tVar 1) tNil)) [some v, some x1, none] H1 (D (((allThings [] ths).length : Nat) : Int)) := e_len (e_var d1.ls)
  have et : weatherLinks ths = (List.range ((((allThings [] ths).length : Nat) : Int) - 1).toNat).map fun k => ((allThings [] ths).getD k (nWalker, nWalker), (allThings [] ths).getD (k + 1) (nWalker, nWalker)) := by
    have e2 : ((((allThings [] ths).length : Nat) : Int) - 1).toNat = (allThings [] ths).length - 1 := by omega
    rw [e2]
    rfl
  rw [et]
  refine e_lcR (β := PairT) _ (e_I0 (g := fun i j => i - j) hlen e_int) (by omega) (by omega) (fun _ => rfl) fun i H2 hi e2 => ?_
  · have hi : i + 1 < (allThings [] ths).length := by omega
    have d2 := (d1.ex e2).ls
    refine e_pair (e_ixL (j := i) (x := (allThings [] ths).getD i (nWalker, nWalker)) (e_var d2) (e_var (D.of_int _ _)) ?_) (e_ixL (j := i + 1) (x := (allThings [] ths).getD (i + 1) (nWalker, nWalker)) (e_var d2) (e_I0 (g := fun i j => i + j) (e_var (D.of_int _ _)) e_int) ?_)
    · refine atI_nat ?_
      rw [List.getD_eq_getElem?_getD, List.getElem?_eq_getElem (by omega)]
      rfl
    · have e3 : (i : Int) + 1 = ((i + 1 : Nat) : Int) := by omega
      show atI _ ((i : Int) + 1) = _
      rw [e3]
      refine atI_nat ?_
      rw [List.getD_eq_getElem?_getD, List.getElem?_eq_getElem (by omega)]
      rfl
theorem len_links_of (K : PySem.W.Frag) (a : Ad) : ∀ vs H Q E, sp_links_of K a vs H Q E → vs.length = 1 := fun _ _ _ _ ⟨_, _, e, _⟩ => by rw [e]; rfl
theorem p_links_of (T : ClT K a) (h : sp_links_of K a vs H Q E) : t_links_of K a (FinQ Q) (start ["fact", "word", "one", "other", "walker"] vs) H := by
  obtain ⟨⟨f1, f2, f3⟩, v, rfl, hv, k⟩ := h
  refine q_t3 (e_var (P := D (T3.mk f1 f2 f3)) hv) fun x y z H0 e0 dx dy dz => ?_
  refine q_set (e_pair (e_str nWalker) (e_var dy)) fun w H1 e1 dw => ?_
  have dx := dx.ex e1
  have dy := dy.ex e1
  have dz := dz.ex e1
  refine q_if (b_eq (e_var dx) (e_str nOver)) (fun c H2 e2 => ?_) fun c H2 e2 => ?_
  · refine s_ret (P := NL H2 (linksOf ⟨f1, f2, f3⟩)) ?_ ?_; rotate_left; · exact fun r H3 e3 d3 => k _ _ (e0.trans (e1.trans (e2.trans e3))) (d3.back (e0.trans (e1.trans e2)))
    have hl : linksOf ⟨f1, f2, f3⟩ = [((nWalker, f3), (nWalker, f2))] := if_pos (of_decide_eq_true c)
    rw [hl]
    exact e_l1 (e_pair (e_pair (e_str nWalker) (e_var (dz.ex e2))) (e_var (dw.ex e2)))
  have n1 : ¬ f1 = nOver := of_decide_eq_false c
  refine q_if (b_eq (e_var (dx.ex e2)) (e_str nAhead)) (fun c H3 e3 => ?_) fun c H3 e3 => ?_
  · refine s_ret (P := NL H3 (linksOf ⟨f1, f2, f3⟩)) ?_ ?_; rotate_left; · exact fun r H4 e4 d4 => k _ _ (e0.trans (e1.trans (e2.trans (e3.trans e4)))) (d4.back (e0.trans (e1.trans (e2.trans e3))))
    have hl : linksOf ⟨f1, f2, f3⟩ = [((nWalker, f2), (nBegin, f3))] := by unfold linksOf; rw [if_neg n1, if_pos (of_decide_eq_true c)]
    rw [hl]
    exact e_l1 (e_pair (e_var (dw.ex (e2.trans e3))) (e_pair (e_str nBegin) (e_var (dz.ex (e2.trans e3)))))
  have n2 : ¬ f1 = nAhead := of_decide_eq_false c
  refine q_if (b_eq (e_var (dx.ex (e2.trans e3))) (e_str nAmid)) (fun c H4 e4 => ?_) fun c H4 e4 => ?_
  · refine s_ret (P := NL H4 (linksOf ⟨f1, f2, f3⟩)) ?_ ?_; rotate_left; · exact fun r H5 e5 d5 => k _ _ (e0.trans (e1.trans (e2.trans (e3.trans (e4.trans e5))))) (d5.back (e0.trans (e1.trans (e2.trans (e3.trans e4)))))
    have hl : linksOf ⟨f1, f2, f3⟩ = [((nBegin, f3), (nWalker, f2)), ((nWalker, f2), (nEnd, f3))] := by unfold linksOf; rw [if_neg n1, if_neg n2, if_pos (of_decide_eq_true c)]
    rw [hl]
    have e := e2.trans (e3.trans e4)
    exact e_l2 (e_pair (e_pair (e_str nBegin) (e_var (dz.ex e))) (e_var (dw.ex e))) (e_pair (e_var (dw.ex e)) (e_pair (e_str nEnd) (e_var (dz.ex e))))
  have n3 : ¬ f1 = nAmid := of_decide_eq_false c
  refine s_ret (P := NL H4 (linksOf ⟨f1, f2, f3⟩)) ?_ ?_; rotate_left; · exact fun r H5 e5 d5 => k _ _ (e0.trans (e1.trans (e2.trans (e3.trans (e4.trans e5))))) (d5.back (e0.trans (e1.trans (e2.trans (e3.trans e4)))))
  have hl : linksOf ⟨f1, f2, f3⟩ = [((nEnd, f3), (nWalker, f2))] := by unfold linksOf; rw [if_neg n1, if_neg n2, if_neg n3]
  rw [hl]
  have e := e2.trans (e3.trans e4)
  exact e_l1 (e_pair (e_pair (e_str nEnd) (e_var (dz.ex e))) (e_var (dw.ex e)))
theorem len_is_fact (K : PySem.W.Frag) (a : Ad) : ∀ vs H Q E, sp_is_fact K a vs H Q E → vs.length = 3 := fun _ _ _ _ ⟨_, _, _, _, _, _, e, _⟩ => by rw [e]; rfl
theorem p_is_fact (T : ClT K a) (h : sp_is_fact K a vs H Q E) : t_is_fact K a (FinQ Q) (start ["fact", "walkers", "weathers"] vs) H := by
  obtain ⟨xs, ws, ths, v, w, u, rfl, hv, hw, hu, hz, k⟩ := h
  by_cases h3 : ∃ x y z, xs = [x, y, z]
  · obtain ⟨x, y, z, rfl⟩ := h3
    have hL : isFactL [x, y, z] ws ths = isFact3 ⟨x, y, z⟩ ws ths := rfl
    rw [hL] at k
    have hw4 : isWord x = decide (x ∈ [nOver, nAhead, nAmid, nBehind]) := by
      unfold isWord
      simp only [← Bool.decide_or]
      refine decide_eq_decide.mpr ?_
      simp only [List.mem_cons, List.not_mem_nil, or_false, or_assoc]
    have t0 : ∀ {H1 : Hp}, Ex H H1 → EV (tOp (rIxT K) (tVar 0) (tC (.int 0))) [some v, some w, some u] H1 (D x) := fun e => e_ixTN (j := 0) (e_var (up (P := TupN [x, y, z]) hv e)) rfl
    have t1 : ∀ {H1 : Hp}, Ex H H1 → EV (tOp (rIxT K) (tVar 0) (tC (.int 1))) [some v, some w, some u] H1 (D y) := fun e => e_ixTN (j := 1) (e_var (up (P := TupN [x, y, z]) hv e)) rfl
    have t2 : ∀ {H1 : Hp}, Ex H H1 → EV (tOp (rIxT K) (tVar 0) (tC (.int 2))) [some v, some w, some u] H1 (D z) := fun e => e_ixTN (j := 2) (e_var (up (P := TupN [x, y, z]) hv e)) rfl
    have test := b_or (b_ne (α := Int) (K := K) (e_lenT (K := K) (e_var (i := 0) (σ := [some v, some w, some u]) (P := TupN [x, y, z]) hv)) (e_int (i := 3))) fun _ => b_or (b_inTn (K := K) (ws := [nOver, nAhead, nAmid, nBehind]) (neg := true) (t0 (Ex.refl H)) (e_c (x := .ref a.oWORDS)) fun y H1 e p => ⟨_, p, T.words H1⟩) fun _ => b_notin (K := K) (t1 (Ex.refl H)) (e_var (P := Ls ws) (i := 1) hw)
    refine q_if test (fun c H1 e1 => ?_) fun c H1 e1 => ?_
    · have hf : isFact3 ⟨x, y, z⟩ ws ths = false := by
        unfold isFact3
        rw [hw4]
        simp only [List.length_cons, List.length_nil, if_true, Bool.or_eq_true, Bool.not_eq_true', decide_eq_false_iff_not] at c
        rcases c with c | c | c
        · exact absurd rfl c
        · rw [decide_eq_false c]; rfl
        · have : decide (y ∈ ws) = false := c
          rw [this, Bool.and_false]; rfl
      have kk := k H1 e1
      rw [hf] at kk
      exact kk
    simp only [List.length_cons, List.length_nil, if_true, Bool.or_eq_false_iff, Bool.not_eq_false', decide_eq_true_eq] at c
    obtain ⟨_, c1, c2⟩ := c
    have hf : isFact3 ⟨x, y, z⟩ ws ths = if x = nOver then decide (z ∈ ws) && !decide (z = y) else decide (z ∈ ths) := by
      unfold isFact3
      rw [hw4, decide_eq_true c1, (show decide (y ∈ ws) = true from c2)]
      rfl
    refine q_if (b_eq (t0 e1) (e_str nOver)) (fun c H2 e2 => ?_) fun c H2 e2 => ?_
    · rw [if_pos (of_decide_eq_true c)] at hf
      rw [hf] at k
      refine s_ret (P := Is (.bl (memB z ws && !decide (z = y)))) ?_ ?_
      · exact e_andV (e_inB (t2 (e1.trans e2)) (e_var (P := Ls ws) (up hw (e1.trans e2)))) fun _ => e_neB (t2 (e1.trans e2)) (t1 (e1.trans e2))
      · exact fun r H3 e3 p => by cases p; exact k H3 (e1.trans (e2.trans e3))
    · rw [if_neg (of_decide_eq_false c)] at hf
      rw [hf] at k
      refine s_ret (P := Is (.bl (memB z ths))) ?_ ?_
      · exact e_inB (t2 (e1.trans e2)) (e_var (P := Ls ths) (up hu (e1.trans e2)))
      · exact fun r H3 e3 p => by cases p; exact k H3 (e1.trans (e2.trans e3))
  · have hl : xs.length ≠ 3 := fun e => h3 (by
      match xs, e with
      | [x, y, z], _ => exact ⟨x, y, z, rfl⟩)
    have hf : isFactL xs ws ths = false := by
      have : factL xs = none := by
        match xs, h3 with
        | [], _ => rfl
        | [_], _ => rfl
        | [_, _], _ => rfl
        | [x, y, z], h => exact absurd ⟨x, y, z, rfl⟩ h
        | _ :: _ :: _ :: _ :: _, _ => rfl
      unfold isFactL
      rw [this]
    have test : EB (tOr (tTest (tOp (rNeD K) (tCB (rLen K) (tCons (tVar 0) tNil)) (tC (.int 3)))) (tOr (tTest (tOp (rIn K true) (tOp (rIxT K) (tVar 0) (tC (.int 0))) (tC (V.ref a.oWORDS)))) (tTest (tOp (rNotInD K) (tOp (rIxT K) (tVar 0) (tC (.int 1))) (tVar 1))))) [some v, some w, some u] H (!decide ((xs.length : Int) = 3) || false) :=
      b_or (b_ne (α := Int) (K := K) (e_lenT (K := K) (e_var (i := 0) (σ := [some v, some w, some u]) (P := TupN xs) hv)) (e_int (i := 3))) fun c => absurd (of_decide_eq_true (by simpa using c)) (fun z => hl (by omega))
    refine q_if test (fun c H1 e1 => ?_) fun c H1 e1 => ?_
    · have kk := k H1 e1
      rw [hf] at kk
      exact kk
    · exfalso
      simp only [Bool.or_false, Bool.not_eq_false', decide_eq_true_eq] at c
      omega
theorem len_is_name (K : PySem.W.Frag) (a : Ad) : ∀ vs H Q E, sp_is_name K a vs H Q E → vs.length = 1 := fun _ _ _ _ ⟨_, e, _⟩ => by rw [e]; rfl
theorem p_is_name (T : ClT K a) (h : sp_is_name K a vs H Q E) : t_is_name K a (FinQ Q) (start ["text", "sign"] vs) H := by
  obtain ⟨z, rfl, hz, k⟩ := h
  have hv : D z (.str z.s) H := D.of_nm z H
  refine s_ret (P := Is (.bl (isNameS z.s))) ?_ ?_
  · have e1 : ((z.s.cps.toList.filter fun c => !decide (c ∈ letters.cps.toList)).map sign = ([] : List Nm)) ↔ ((z.s.cps.toList.filter fun c => !decide (c ∈ letters.cps.toList)) = []) := by rw [List.map_eq_nil_iff]
    have e2 : isNameS z.s = ((decide ((1 : Int) ≤ (z.s.length : Int)) && decide ((z.s.length : Int) ≤ 8)) && decide ((z.s.cps.toList.filter fun c => !decide (c ∈ letters.cps.toList)).map sign = ([] : List Nm))) := by
      unfold isNameS
      rw [decide_eq_decide.mpr e1]
    rw [e2]
    refine e_andV (e_chain (f := fun i j => decide (i ≤ j)) (g := fun i j => decide (i ≤ j)) e_int (e_lenS (e_var hv) hz) e_int) fun _ => ?_
    refine e_eqLB (α := Nm) (e_lcS (z := z) (fun c => !decide (c ∈ letters.cps.toList)) (e_var hv) hz (fun _ => rfl) (fun c H1 _ _ => ?_) fun c H1 hc _ => ?_).ls e_nil.ls
    · exact fun H2 e2 Q q => ⟨_, rfl, c, letters, rfl, rfl, _, rfl, q H2 (Ex.refl _)⟩
    · refine e_v rfl fun H2 e3 => ?_
      have := D.of_nm (sign c) H2
      rw [sign_s (nm_lt hc)] at this
      exact this
  · exact fun r H3 e3 p => by cases p; exact k H3 e3
end
end TK

namespace TK
open PySem L2 PySem.Spec PyProof.Rows
open Enc (enc)
section
variable {K : PySem.W.Frag} {a : Ad} {vs : List V} {H : Hp} {Q : VK} {E : XK}
/-! ### a net's dict -/
abbrev netD (things : List Thing) (ls : List Addr) : List (List Key × V) := things.zipWith (fun t l => (keyT t, V.ref l)) ls
theorem netD_keys {things : List Thing} {ls : List Addr} (h : ls.length = things.length) : (netD things ls).map (·.1) = things.map keyT := by
  induction things generalizing ls with
  | nil => simp [netD]
  | cons t ts ih =>
    cases ls with
    | nil => simp at h
    | cons l ls => simp only [netD, List.zipWith_cons_cons, List.map_cons]; rw [show (List.zipWith (fun t l => (keyT t, V.ref l)) ts ls).map (·.1) = _ from ih (by simpa using h)]
theorem netD_val {things : List Thing} {ls : List Addr} (nd : things.Nodup) {i : Nat} {t : Thing} {l : Addr} (ht : things[i]? = some t) (hl : ls[i]? = some l) : valV (netD things ls) (keyT t) = some (V.ref l) := by
  induction things generalizing ls i with
  | nil => simp at ht
  | cons t' ts ih =>
    cases ls with
    | nil => simp at hl
    | cons l' ls =>
      cases i with
      | zero => simp at ht hl; subst ht; subst hl; exact valV_pos rfl
      | succ i =>
        simp at ht hl
        have hn : t ∈ ts := List.mem_of_getElem? ht
        have : ¬ t' = t := fun e => (List.nodup_cons.mp nd).1 (e ▸ hn)
        show valV ((keyT t', V.ref l') :: netD ts ls) (keyT t) = _
        rw [valV_neg (fun e => this (keyT_inj e))]
        exact ih (List.nodup_cons.mp nd).2 ht hl
theorem putK_new {κ : Type} [DecidableEq κ] {kvs : List (κ × V)} {k : κ} (v : V) (h : k ∉ kvs.map (·.1)) : putK kvs k v = kvs ++ [(k, v)] := by
  unfold putK
  rw [if_neg]
  intro z
  obtain ⟨p, hp, e⟩ := List.any_eq_true.mp z
  exact h (List.mem_map.mpr ⟨p, hp, of_decide_eq_true e⟩)
theorem keyT_mem {ts : List Thing} {t : Thing} : keyT t ∈ ts.map keyT ↔ t ∈ ts := by
  constructor
  · intro h
    obtain ⟨u, hu, e⟩ := List.mem_map.mp h
    exact keyT_inj e ▸ hu
  · exact fun h => List.mem_map.mpr ⟨t, h, rfl⟩
theorem len_Net_init (K : PySem.W.Frag) (a : Ad) : ∀ vs H Q E, sp_Net_init K a vs H Q E → vs.length = 2 := fun _ _ _ _ ⟨_, _, _, _, _, e, _⟩ => by rw [e]; rfl
theorem p_Net_init (T : ClT K a) (h : sp_Net_init K a vs H Q E) : t_Net_init K a (FinQ Q) (start ["self", "things", "thing"] vs) H := by
  obtain ⟨Hb, p, dx, things, v, rfl, eb, hp0, hp, hv, nd, hz, k⟩ := h
  refine q_sfld (p := p) (C := a.cNet) e_dnewT (fun H1 e => e_is) fun vd H1 e1 ⟨d, rd, hd0, hd⟩ => ⟨dx, [], e1 _ _ hp, T.net, T.onward, by decide, fun H2 e2 => ?_⟩
  subst rd
  have hpd : p ≠ d := by intro z; subst z; rw [hp] at hd0; cases hd0
  have hbd : Hb d = none := eb.free hd0
  have e3 : Ex Hb (upd H2 p (.ins a.cNet dx (putF "onward" (.ref d) []))) := (eb.trans (e1.trans e2)).mut hp0
  refine s_for (α := Thing) (P := fun x H1 => x = v ∧ Ex Hb H1) (xs := things) (e_v rfl fun H1 e => ⟨rfl, e3.trans e⟩) (fun x H1 q => by rw [q.1]; exact hv.ex q.2) (fun H2 v2 pre σ' H' => ∃ (n : Option V) (ls : List Addr), σ' = [some (.ref p), some v, n] ∧ Ex Hb H' ∧ H' p = some (.ins a.cNet dx [("onward", .ref d)]) ∧ H' d = some (.dT (netD pre ls)) ∧ ls.length = pre.length ∧ ls.Nodup ∧ ∀ l ∈ ls, Hb l = none ∧ H' l = some (.lst []))
    ?_ ?_ ?_ ?_
  · intro v2 H3 e4 p2
    refine ⟨none, [], rfl, e3.trans e4, e4 _ _ upd_same, e4 _ _ ?_, rfl, List.nodup_nil, fun l hl => by cases hl⟩
    rw [upd_ne (Ne.symm hpd)]
    exact e2 _ _ hd
  · rintro v2 H3 pre σ' H' e4 p2 ⟨n, ls, rfl, e5, h1, h2, h3, h4, h5⟩
    rw [p2.1]
    exact hv.ex e5
  · rintro v2 H3 pre x post y σ' H' e4 p2 hsp ⟨n, ls, rfl, e5, h1, h2, h3, h4, h5⟩ dy
    have hl : pre.length ≤ 1000 := by rw [hsp, List.length_append] at hz; omega
    have hx : x ∉ pre := fun z => by
      rw [hsp] at nd
      exact (List.nodup_append.mp nd).2.2 x z x (by simp) rfl
    refine s_tput (e_nil (α := Thing)) (e_fld e_is h1 T.net T.onward lk_hit fun _ _ => rfl) (e_var dy) h2 (by simp [netD]; omega) fun w H4 e6 p4 => ?_
    obtain ⟨l, us, rfl, hl0, hl1, hu⟩ := p4
    have hu' : us = [] := by cases hu; rfl
    subst hu'
    have hld : l ≠ d := by intro z; subst z; rw [h2] at hl0; cases hl0
    have hlp : l ≠ p := by intro z; subst z; rw [h1] at hl0; cases hl0
    have hnew : ∀ m ∈ ls, m ≠ l := fun m hm z => by have := (h5 m hm).2; rw [z, hl0] at this; cases this
    refine ⟨_, ls ++ [l], rfl, (e5.trans e6).mut hbd, ?_, ?_, by simp [h3], List.nodup_append.mpr ⟨h4, by simp, fun m hm n hn => by simp at hn; rw [hn]; exact hnew m hm⟩, fun m hm => ?_⟩
    · rw [upd_ne hpd]; exact e6 _ _ h1
    · rw [upd_same, putK_new _ (by rw [netD_keys h3]; exact fun z => hx (keyT_mem.mp z))]
      simp only [netD]
      rw [List.zipWith_append h3.symm]
      rfl
    · rcases List.mem_append.mp hm with q | q
      · refine ⟨(h5 m q).1, ?_⟩
        have : m ≠ d := by intro z; have := (h5 m q).2; rw [z, h2] at this; cases this
        rw [upd_ne this]; exact e6 _ _ (h5 m q).2
      · simp at q
        subst q
        exact ⟨e5.free hl0, by rw [upd_ne hld]; exact hl1⟩
  · rintro v2 H3 σ' H' e4 p2 ⟨n, ls, rfl, e5, h1, h2, h3, h4, h5⟩
    refine k H' e5 ⟨⟨dx, d, ls, h1, h2, h3, h4, fun i t l hi hl => ?_, hp0, hbd, fun l hl => (h5 l hl).1⟩⟩
    exact ⟨l, [], rfl, (h5 l (List.mem_of_getElem? hl)).2, .nil⟩
theorem len_Net_add (K : PySem.W.Frag) (a : Ad) : ∀ vs H Q E, sp_Net_add K a vs H Q E → vs.length = 4 := fun _ _ _ _ ⟨_, _, _, _, _, _, _, _, _, _, e, _⟩ => by rw [e]; rfl
theorem p_Net_add (T : ClT K a) (h : sp_Net_add K a vs H Q E) : t_Net_add K a (FinQ Q) (start ["self", "earlier", "later", "number"] vs) H := by
  obtain ⟨Hb, p, things, links, e, l, n, v, w, u, rfl, eb, ⟨dx, d, ls, h1, h2, h3, h4, h5, h6, h7, h8⟩, de, dl, dn, he, nd, hz, k⟩ := h
  obtain ⟨i, hi⟩ := List.getElem?_of_mem he
  have hil : i < ls.length := by rw [h3]; exact (List.getElem?_eq_some_iff.mp hi).1
  have hli : ls[i]? = some ls[i] := List.getElem?_eq_getElem hil
  obtain ⟨q, us, eq, hq, hu⟩ := h5 i e _ hi hli
  cases eq
  have hul : us.length ≤ 1000 := by
    have := tda_len hu
    rw [List.length_map, List.length_map] at this
    have h9 := List.length_filter_le (fun k => decide (k.a = e)) links
    omega
  refine s_app (P1 := D (l, n)) (l := ls[i]) (e_tget (e_fld e_is h1 T.net T.onward lk_hit fun _ _ => rfl) (e_var de) h2 (netD_val nd hi hli)) (e_pair (e_var dl) (e_var dn)) hq (by omega) fun x H1 e1 dx' => ?_
  have hlp : p ≠ ls[i] := by intro z; rw [← z, h1] at hq; cases hq
  have hld : d ≠ ls[i] := by intro z; rw [← z, h2] at hq; cases hq
  have hbl : Hb ls[i] = none := h8 _ (List.getElem_mem hil)
  have tx : TEx H1 (upd H1 ls[i] (.lst (us ++ [x]))) := TEx.upd (e1 _ _ hq) True.intro
  refine k _ ((eb.trans e1).mut hbl) (e1.t.trans tx) ⟨⟨dx, d, ls, ?_, ?_, h3, h4, fun j t m hj hm => ?_, h6, h7, h8⟩⟩
  · rw [upd_ne hlp]; exact e1 _ _ h1
  · rw [upd_ne hld]; exact e1 _ _ h2
  · by_cases hji : j = i
    · subst hji
      rw [hi] at hj
      rw [hli] at hm
      cases hj
      cases hm
      rw [List.filter_append, List.map_append]
      have : (([⟨e, l, n⟩] : List LinkT).filter fun k => decide (k.a = e)).map (fun k => (k.b, k.c)) = [(l, n)] := by simp
      rw [this]
      exact ls_app (e1 _ _ hq) (tda_t e1.t _ hu) dx'
    · have hne : e ≠ t := fun z => by
        subst z
        exact hji ((List.getElem?_inj ((List.getElem?_eq_some_iff.mp hj).1) nd).mp (hj.trans hi.symm))
      have hml : m ≠ ls[i] := fun z => by
        rw [z] at hm
        exact hji ((List.getElem?_inj ((List.getElem?_eq_some_iff.mp hm).1) h4).mp (hm.trans hli.symm))
      rw [List.filter_append]
      have : (([⟨e, l, n⟩] : List LinkT).filter fun k => decide (k.a = t)) = [] := by simp [hne]
      rw [this, List.append_nil]
      obtain ⟨q', us', eq', hq', hu'⟩ := h5 j t m hj hm
      cases eq'
      refine ⟨m, us', rfl, ?_, tda_t (e1.t.trans tx) _ hu'⟩
      rw [upd_ne hml]
      exact e1 _ _ hq'
end
end TK

namespace TK
open PySem L2 PySem.Spec PyProof.Rows
open Enc (enc)
section
variable {K : PySem.W.Frag} {a : Ad} {vs : List V} {H : Hp} {Q : VK} {E : XK}
theorem nodup_sub_len {α : Type} [DecidableEq α] : ∀ {xs ys : List α}, xs.Nodup → (∀ x ∈ xs, x ∈ ys) → xs.length ≤ ys.length
  | [], ys, _, _ => Nat.zero_le _
  | x :: xs, ys, h, s => by
    obtain ⟨h1, h2⟩ := List.nodup_cons.mp h
    have hx : x ∈ ys := s x (by simp)
    have h3 : xs.length ≤ (ys.erase x).length := nodup_sub_len h2 fun z hz => by
      have hne : z ≠ x := fun e => h1 (e ▸ hz)
      exact (List.mem_erase_of_ne hne).mpr (s z (List.mem_cons_of_mem _ hz))
    rw [List.length_erase_of_mem hx] at h3
    have : 0 < ys.length := List.length_pos_of_mem hx
    simp only [List.length_cons]
    omega
/-! ### x = row.pop(); z = d[x] -/
theorem e_popget {σ : L2.St} {tx : TE} {dn r : Addr} {i : Nat} {row : List Thing} {x : Thing} {kvs : List (List Key × V)} {z : V} (h0 : EV tx σ H (Is (.ref dn))) (hi : σ[i]? = some (some (.ref r))) (hl : Ls (row ++ [x]) (.ref r) H) (hd : H dn = some (.dT kvs)) (hx : valV kvs (keyT x) = some z)
    (Q : VK) (k : ∀ H1 H2, Ex H H1 → Chg [r] H1 H2 → (∀ b, b ≠ r → H2 b = H1 b) → Ls row (.ref r) H2 → Q z H2) : tDGet tx (tBM0 K "list" rPop (tVar i)) σ H Q := by
  refine h0.run fun y H1 e py => ?_
  cases py
  obtain ⟨q, us, eq, hq, hu⟩ := hl
  cases eq
  have hq1 := e _ _ hq
  have hu1 := tda_t e.t _ hu
  have hul : us.length = row.length + 1 := by
    have := tda_len hu
    rw [this]; simp
  rw [List.map_append] at hu1
  obtain ⟨w, hw, dw⟩ := tda_at (i := row.length) (d := enc x) hu1 (by rw [List.getElem?_append_right (by simp)]; simp)
  refine ⟨.ref r, hi, Or.inl ⟨rfl, us, sq_of hq1⟩, r, us, w, rfl, rfl, hq1, by rw [hul]; exact hw, ?_⟩
  have tx : TEx H1 (upd H1 r (.lst us.dropLast)) := TEx.upd hq1 True.intro
  have hnr : dn ≠ r := by intro z; rw [z, hq] at hd; cases hd
  have hdn : (upd H1 r (.lst us.dropLast)) dn = some (.dT kvs) := by rw [upd_ne hnr]; exact e _ _ hd
  have hg := dget_t hdn (D.t dw tx)
  rw [hx] at hg
  refine ⟨dn, z, rfl, hg, k H1 _ e ⟨fun b o hb h => ?_, tx⟩ (fun b hb => upd_ne hb) ⟨r, us.dropLast, rfl, upd_same, ?_⟩⟩
  · rw [upd_ne (by simpa using hb)]; exact h
  · have := tda_take row.length (tda_t tx _ hu1)
    have e2 : (row.map enc ++ [x].map enc).take row.length = row.map enc := by
      rw [← List.length_map (f := enc), List.take_left]
    have e3 : us.take row.length = us.dropLast := by rw [List.dropLast_eq_take, hul]; rfl
    rw [e2, e3] at this
    exact this
/-! ### what is reached -/
structure BIn (things : List Thing) (links : List LinkT) (b : Thing) (found row : List Thing) (C : Thing → Thing → Option Int → Prop) : Prop where
  nd : found.Nodup
  fs : ∀ t ∈ found, t ∈ things
  rs : ∀ t ∈ row, t ∈ things
  fr : ∀ t ∈ found, Reach links b t
  rr : ∀ t ∈ row, t = b ∨ Reach links b t
  cl : ∀ y, (y = b ∨ y ∈ found) → y ∉ row → ∀ z n, T3.mk y z n ∈ links → z ∈ found ∨ C y z n
section
variable {things : List Thing} {links : List LinkT} {b x : Thing} {found row : List Thing}
theorem BIn.le {C} (h : BIn things links b found row C) : found.length ≤ things.length := nodup_sub_len h.nd h.fs
theorem BIn.pop (h : BIn things links b found (row ++ [x]) fun _ _ _ => False) : BIn things links b found row fun y z n => y = x ∧ (z, n) ∉ ([] : List (Thing × Option Int)) where
  nd := h.nd
  fs := h.fs
  rs := fun t q => h.rs t (by simp [q])
  fr := h.fr
  rr := fun t q => h.rr t (by simp [q])
  cl := fun y hy hr z n hl => by
    by_cases e : y = x
    · exact Or.inr ⟨e, by simp⟩
    · exact Or.inl ((h.cl y hy (by simp [hr, e]) z n hl).resolve_right id)
abbrev outs (links : List LinkT) (x : Thing) : List (Thing × Option Int) := (links.filter fun k => decide (k.a = x)).map fun k => (k.b, k.c)
theorem outs_mem {z : Thing} {n : Option Int} : (z, n) ∈ outs links x ↔ T3.mk x z n ∈ links := by
  simp only [outs, List.mem_map, List.mem_filter, decide_eq_true_eq]
  constructor
  · rintro ⟨k, ⟨h1, h2⟩, h3⟩
    cases k
    cases h3
    cases h2
    exact h1
  · exact fun h => ⟨_, ⟨h, rfl⟩, rfl⟩
theorem BIn.old {pre : List (Thing × Option Int)} {z : Thing} {n : Option Int} (h : BIn things links b found row fun y z n => y = x ∧ (z, n) ∉ pre) (hz : z ∈ found) : BIn things links b found row fun y z' n' => y = x ∧ (z', n') ∉ pre ++ [(z, n)] where
  nd := h.nd
  fs := h.fs
  rs := h.rs
  fr := h.fr
  rr := h.rr
  cl := fun y hy hr z' n' hl => by
    by_cases e : (z', n') = (z, n)
    · cases e; exact Or.inl hz
    · rcases h.cl y hy hr z' n' hl with q | q
      · exact Or.inl q
      · exact Or.inr ⟨q.1, fun w => by rcases List.mem_append.mp w with w | w; exact q.2 w; exact e (by simpa using w)⟩
theorem BIn.new {pre : List (Thing × Option Int)} {z : Thing} {n : Option Int} (h : BIn things links b found row fun y z n => y = x ∧ (z, n) ∉ pre) (hz : z ∉ found) (ht : z ∈ things) (hr : Reach links b z) : BIn things links b (found ++ [z]) (row ++ [z]) fun y z' n' => y = x ∧ (z', n') ∉ pre ++ [(z, n)] where
  nd := List.nodup_append.mpr ⟨h.nd, by simp, fun m hm k hk e => by simp at hk; exact hz (hk ▸ e ▸ hm)⟩
  fs := fun t q => by rcases List.mem_append.mp q with q | q; exact h.fs t q; simp at q; exact q ▸ ht
  rs := fun t q => by rcases List.mem_append.mp q with q | q; exact h.rs t q; simp at q; exact q ▸ ht
  fr := fun t q => by rcases List.mem_append.mp q with q | q; exact h.fr t q; simp at q; exact q ▸ hr
  rr := fun t q => by rcases List.mem_append.mp q with q | q; exact h.rr t q; simp at q; exact Or.inr (q ▸ hr)
  cl := fun y hy hr z' n' hl => by
    have h1 : y ≠ z := fun e => hr (by simp [e])
    have h2 : y = b ∨ y ∈ found := hy.imp id fun q => by rcases List.mem_append.mp q with q | q; exact q; simp at q; exact absurd q h1
    by_cases e : (z', n') = (z, n)
    · cases e; exact Or.inl (by simp)
    · rcases h.cl y h2 (fun w => hr (by simp [w])) z' n' hl with q | q
      · exact Or.inl (by simp [q])
      · exact Or.inr ⟨q.1, fun w => by rcases List.mem_append.mp w with w | w; exact q.2 w; exact e (by simpa using w)⟩
theorem BIn.fin (h : BIn things links b found row fun y z n => y = x ∧ (z, n) ∉ outs links x) : BIn things links b found row fun _ _ _ => False where
  nd := h.nd
  fs := h.fs
  rs := h.rs
  fr := h.fr
  rr := h.rr
  cl := fun y hy hr z n hl => (h.cl y hy hr z n hl).elim Or.inl fun q => absurd (outs_mem.mpr (q.1 ▸ hl)) q.2
theorem BIn.all (h : BIn things links b found [] fun _ _ _ => False) (t : Thing) : memB t found = reachB links b t := by
  rw [Bool.eq_iff_iff, reachB_iff, memB_iff]
  refine ⟨h.fr t, fun q => ?_⟩
  have step : ∀ y z, (y = b ∨ y ∈ found) → Step links y z → z ∈ found := fun y z hy ⟨n, hn⟩ => (h.cl y hy (by simp) z n hn).resolve_right id
  unfold Reach at q
  induction q with
  | single s => exact step _ _ (Or.inl rfl) s
  | tail _ s ih => exact step _ _ (Or.inr ih) s
end
abbrev trD (xs : List Thing) : List (Thing × Bool) := xs.map fun t => (t, true)
theorem trD_keys (xs : List Thing) : keysA (trD xs) = xs := by
  simp only [keysA, trD, List.map_map]
  exact List.map_id xs
theorem len_Net_beyond (K : PySem.W.Frag) (a : Ad) : ∀ vs H Q E, sp_Net_beyond K a vs H Q E → vs.length = 2 := fun _ _ _ _ ⟨_, _, _, _, _, e, _⟩ => by rw [e]; rfl
theorem p_Net_beyond (T : ClT K a) (h : sp_Net_beyond K a vs H Q E) : t_Net_beyond K a (FinQ Q) (start ["self", "begin", "found", "row", "later", "number"] vs) H := by
  obtain ⟨p, things, links, b, v, rfl, ⟨dx, dn, ls, h1, h2, h3, h4, h5⟩, db, hb, nd, hlb, hz, k⟩ := h
  refine q_set e_dnewT fun vd H1 e1 ⟨d, rd, hd0, hd⟩ => ?_
  subst rd
  refine q_set (e_l1 (e_var (db.ex e1))) fun vr H2 e2 pr => ?_
  obtain ⟨r, ur, rfl, hr0, hr1, hur⟩ := pr
  have hdr : d ≠ r := by intro z; subst z; rw [hd] at hr0; cases hr0
  have hr00 : H r = none := e1.free hr0
  refine q_while (fun m σ' H' => ∃ (n4 n5 : Option V) (found row : List Thing), σ' = [some (.ref p), some v, some (.ref d), some (.ref r), n4, n5] ∧ m = 2 * (things.length - found.length) + row.length ∧ 2 * (things.length - found.length) + row.length ≤ 2 * things.length + 1 ∧ Ex H H' ∧ DtAt H' d (trD found) ∧ Ls row (.ref r) H' ∧ BIn things links b found row fun _ _ _ => False) _
    ⟨none, none, [], [b], rfl, rfl, by simp, e1.trans e2, ⟨[], e2 _ _ hd, .nil⟩, ⟨r, ur, rfl, hr1, hur⟩, ⟨List.nodup_nil, by simp, by simpa using hb, by simp, by simp, fun y hy hr => by simp at hy hr; exact absurd hy hr⟩⟩ ?_
  rintro m σ' H' ⟨n4, n5, found, row, rfl, rfl, hB, e3, hf, hrow, bi⟩
  refine ⟨_, b_neL (α := Thing) (e_var (P := Ls row) hrow) e_nil.ls, fun c H3 e4 => ?_, fun c H3 e4 => ?_⟩
  · have hne : row ≠ [] := by simpa using c
    obtain ⟨row', x, rfl⟩ : ∃ row' x, row = row' ++ [x] := ⟨_, _, (List.dropLast_concat_getLast hne).symm⟩
    have hx : x ∈ things := bi.rs x (by simp)
    obtain ⟨i, hi⟩ := List.getElem?_of_mem hx
    have hil : i < ls.length := by rw [h3]; exact (List.getElem?_eq_some_iff.mp hi).1
    have hli : ls[i]? = some ls[i] := List.getElem?_eq_getElem hil
    have e34 := e3.trans e4
    rw [List.length_append] at hB
    simp only [List.length_cons, List.length_nil] at hB
    have hLs := (h5 i x _ hi hli)
    refine q_forX (α := Thing × Option Int) (xs := outs links x) (P := fun v2 H4 => v2 = .ref ls[i] ∧ Ex H H4 ∧ DtAt H4 d (trD found) ∧ Ls row' (.ref r) H4) (fun Q q => e_popget (e_fld e_is (e34 _ _ h1) T.net T.onward lk_hit fun _ _ => rfl) rfl (hrow.ex e4) (e34 _ _ h2) (netD_val nd hi hli) Q fun H4 H5 e5 cg sm hl => q _ H5 ⟨rfl, cg.exB (e34.trans e5) (by simp [hr00]), (hf.ex (e4.trans e5)).chg cg (by simpa using hdr), hl⟩)
      (fun v2 H4 q => by rw [q.1]; exact hLs.ex q.2.1)
      (fun H4 v2 pre σ' H5 => ∃ (n4 n5 : Option V) (found2 row2 : List Thing), σ' = [some (.ref p), some v, some (.ref d), some (.ref r), n4, n5] ∧ 2 * (things.length - found2.length) + row2.length ≤ 2 * (things.length - found.length) + row'.length ∧ Ex H H5 ∧ DtAt H5 d (trD found2) ∧ Ls row2 (.ref r) H5 ∧ (x = b ∨ Reach links b x) ∧ BIn things links b found2 row2 fun y z n => y = x ∧ (z, n) ∉ pre) ?_ ?_ ?_ ?_
    · rintro v2 H4 ⟨rfl, e5, q1, q2⟩
      exact ⟨n4, n5, found, row', rfl, Nat.le_refl _, e5, q1, q2, bi.rr x (by simp), bi.pop⟩
    · rintro v2 H4 pre σ' H5 ⟨rfl, _⟩ ⟨m4, m5, found2, row2, rfl, hm, e5, q1, q2, hx2, bi2⟩
      exact hLs.ex e5
    · rintro v2 H4 pre ⟨z, n⟩ post y σ' H5 ⟨rfl, _⟩ hsp ⟨m4, m5, found2, row2, rfl, hm, e5, q1, q2, hx2, bi2⟩ dy
      have hlk : T3.mk x z n ∈ links := outs_mem.mp (by rw [hsp]; simp)
      have hz' : z ∈ things := hlb _ hlk
      have hrz : Reach links b z := by
        rcases hx2 with e | e
        · subst e; exact .single ⟨n, hlk⟩
        · exact .tail e ⟨n, hlk⟩
      refine g_pair dy fun y1 y2 d1 d2 => ?_
      refine s_if (b_Tnotin (α := Bool) (e_var d1) e_is q1) (fun c H6 e6 => ?_) fun c H6 e6 => ?_
      · have hzf : z ∉ found2 := by
          rw [trD_keys] at c
          intro w
          rw [memB_iff.mpr w] at c
          cases c
        have hfl : found2.length ≤ things.length := bi2.le
        have bi3 := bi2.new (n := n) hzf hz' hrz
        have hfl3 := bi3.le
        rw [List.length_append] at hfl3
        simp only [List.length_cons, List.length_nil] at hfl3
        refine q_Tput (α := Bool) (x := z) (z := true) (fun H7 e7 Q q => q _ H7 (Ex.refl _) (Td.bl true)) e_is (e_var (d1.ex e6)) (q1.ex e6) (by rw [List.length_map]; omega) fun H7 H8 e7 cg sm hd8 => ?_
        rw [putA_new _ (by rw [trD_keys]; exact hzf)] at hd8
        have q2' : Ls row2 (.ref r) H8 := (q2.ex (e6.trans e7)).chg cg (by simpa using Ne.symm hdr)
        refine s_App (α := Thing) (x := z) e_is (e_var (d1.ex (e6.trans e7) |>.t cg.tup)) q2' (by omega) fun H9 H10 e9 cg2 sm2 hr10 => ?_
        refine ⟨_, _, found2 ++ [z], row2 ++ [z], rfl, by simp only [List.length_append, List.length_cons, List.length_nil]; omega, ?_, ?_, hr10, hx2, bi3⟩
        · exact cg2.exB ((cg.exB (e5.trans (e6.trans e7)) (by simp [hd0])).trans e9) (by simp [hr00])
        · have : trD (found2 ++ [z]) = trD found2 ++ [(z, true)] := by simp [trD]
          rw [this]
          exact (hd8.ex e9).chg cg2 (by simpa using hdr)
      · have hzf : z ∈ found2 := by
          rw [trD_keys] at c
          simpa [memB_iff] using c
        exact ⟨_, _, found2, row2, rfl, hm, e5.trans e6, q1.ex e6, q2.ex e6, hx2, bi2.old hzf⟩
    · rintro v2 H4 σ' H5 ⟨rfl, _⟩ ⟨m4, m5, found2, row2, rfl, hm, e5, q1, q2, hx2, bi2⟩
      exact ⟨_, by rw [List.length_append]; simp only [List.length_cons, List.length_nil]; omega, m4, m5, found2, row2, rfl, rfl, by omega, e5, q1, q2, bi2.fin⟩
  · have hr0 : row = [] := by simpa using c
    subst hr0
    refine s_ret e_is fun x H4 e5 px => ?_
    cases px
    obtain ⟨us, hu1, hu2⟩ := hf.ex (e4.trans e5)
    refine k _ H4 (e3.trans (e4.trans e5)) ⟨d, us, rfl, hd0, hu1, fun t => ?_⟩
    rw [← bi.all t]
    have e6 : memB t found = memB t (keysA (trD found)) := by rw [trD_keys]
    rw [e6, ← getA_isSome]
    rcases prD_val (fun _ _ => keyT_inj) hu2 t with ⟨z1, z2⟩ | ⟨x', v', z1, z2, _⟩
    · rw [z1, z2] <;> rfl
    · rw [z1, z2] <;> rfl
theorem len_known_pairs (K : PySem.W.Frag) (a : Ad) : ∀ vs H Q E, sp_known_pairs K a vs H Q E → vs.length = 2 := fun _ _ _ _ ⟨_, _, _, _, e, _⟩ => by rw [e]; rfl
theorem pairsOf_len (things pre : List Thing) (links : List LinkT) : (pre.flatMap fun x => (things.filter fun y => reachB links x y).map fun y => (x, y)).length ≤ pre.length * things.length := by
  induction pre with
  | nil => simp
  | cons x xs ih =>
    rw [List.flatMap_cons, List.length_append, List.length_map, List.length_cons, Nat.add_mul]
    have := List.length_filter_le (fun y => reachB links x y) things
    omega
theorem p_known_pairs (T : ClT K a) (h : sp_known_pairs K a vs H Q E) : t_known_pairs K a (FinQ Q) (start ["net", "things", "found", "one", "later", "other"] vs) H := by
  obtain ⟨p, things, links, v, rfl, hn, hv, nd, hlb, hz, k⟩ := h
  refine q_set (e_nil (α := PairT)) fun v2 H1 e1 p2 => ?_
  refine q_for (α := Thing) (e_var (P := Ls things) (hv.ex e1)) (fun _ _ p => p) (fun H2 v3 pre σ' H' => ∃ (x : V) (n3 n4 n5 : Option V), σ' = [some (.ref p), some v, some x, n3, n4, n5] ∧ Ex H2 H' ∧ NL H (pre.flatMap fun x => (things.filter fun y => reachB links x y).map fun y => (x, y)) x H')
    ?_ ?_ ?_ ?_
  · exact fun v3 H2 e2 p3 => ⟨v2, none, none, none, rfl, Ex.refl _, p2.ex e2⟩
  · rintro v3 H2 pre σ' H' e2 p3 ⟨x, n3, n4, n5, rfl, e3, q⟩
    exact p3.ex e3
  · rintro v3 H2 pre t post y σ' H' e2 p3 hsp ⟨x, n3, n4, n5, rfl, e3, q⟩ dy
    have e := e1.trans (e2.trans e3)
    have ht : t ∈ things := by rw [hsp]; simp
    have hpl : pre.length + 1 ≤ things.length := by rw [hsp]; simp
    have hn' := hn.mono e
    obtain ⟨dx, dd, ls, h1, _⟩ := hn'.ex
    refine q_set (P := BeyR links t H') (e_meth1 (P1 := D t) e_is h1 ((lk_miss (by decide +kernel)).trans rfl) (e_var dy) fun y2 H5 e5 p5 Q q => ⟨p, things, links, t, y2, rfl, hn'.mono e5, p5, ht, nd, hlb, by omega, fun x H6 e6 ⟨d, kvs, b1, b2, b3⟩ => q x H6 e6 ⟨d, kvs, b1, e5.free b2, b3⟩⟩) fun x4 H4 e4 q4 => ?_
    obtain ⟨d, kvs, rfl, hd0, hd, hval⟩ := q4
    have hlen := pairsOf_len things pre links
    have hm : pre.length * things.length ≤ 100 * 100 := Nat.mul_le_mul (by omega) hz
    have hf := List.length_filter_le (fun y => reachB links t y) things
    refine s_set (e_cat (α := PairT) (e_var ((q.ex e4).ls)) (e_lc (α := Thing) (β := PairT) (fun y => (t, y)) (fun y => reachB links t y) (e_var (P := Ls things) (hv.ex (e.trans e4))) (by omega) (fun _ => rfl) (fun y w H5 hy e5 d5 => b_to (b_tin (e_var d5) e_is (e5 _ _ hd)) (hval y)) fun y w H5 hy _ e5 d5 => e_pair (e_var (dy.ex (e4.trans e5))) (e_var d5)).ls (by rw [List.length_map]; omega)) fun x5 H5 e5 q5 => ?_
    refine ⟨x5, _, _, _, rfl, e3.trans (e4.trans e5), ?_⟩
    rw [List.flatMap_append, List.flatMap_singleton]
    exact q5.back (e.trans e4)
  · rintro v3 H2 σ' H' e2 p3 ⟨x, n3, n4, n5, rfl, e3, q⟩
    exact s_ret (e_var (P := NL H (pairsOf things links)) q) fun x2 H3 e4 d4 => k _ _ (e1.trans (e2.trans (e3.trans e4))) d4
end
end TK

namespace TK
open PySem L2 PySem.Spec PyProof.Rows
open Enc (enc)
section
variable {K : PySem.W.Frag} {a : Ad} {vs : List V} {H : Hp} {Q : VK} {E : XK}
section
variable {α β : Type} [DecidableEq α] [DecidableEq β] [Enc α] [Enc β] {σ : L2.St} {ta tb te : TE} {P : VP}
theorem e_disp1T {t : Thing} {x : α} (ha : EV ta σ H (D t)) (hb : EV tb σ H (D x)) : EV (tDisp1T ta tb) σ H (fun v H1 => ∃ d, v = .ref d ∧ H d = none ∧ DtAt H1 d [(t, x)]) := fun H1 e Q q p hp =>
  ha (upd H1 p (.dT [])) (e.trans (Ex.new hp)) _ fun y H2 e2 dy => hb H2 ((e.trans (Ex.new hp)).trans e2) _ fun w H3 e3 dw => by
    obtain ⟨b, rfl, hb⟩ := dy.key
    have hp3 : H3 p = some (.dT []) := (e2.trans e3) _ _ upd_same
    have tx : TEx H3 (upd H3 p (.dT [(keyT t, w)])) := TEx.upd hp3 True.intro
    exact ⟨hp3, b, keyT t, rfl, e3 _ _ hb, q _ _ (Ex.mut ((Ex.new hp).trans (e2.trans e3)) hp) ⟨p, rfl, e.free hp, [(keyT t, w)], upd_same, .cons ⟨rfl, dw.t tx⟩ .nil⟩⟩
theorem e_listRev {xs : List α} (h : EV te σ H (Ls xs)) : EV (tListRev K te) σ H (NL H xs.reverse) := fun H1 e Q q =>
  h H1 e _ fun v H2 e2 p => by
    obtain ⟨l, us, rfl, hl, hu⟩ := p
    refine ⟨l, us, rfl, sq_of hl, fun m hm => q _ _ (e2.trans (Ex.new hm)) ⟨m, _, rfl, e.free (e2.free hm), upd_same, ?_⟩⟩
    have := tda_rev hu
    rw [← List.map_reverse] at this
    exact tda_t (TEx.new hm) _ this
theorem b_notNP {b : Bool} (h : EV te σ H P) (hb : ∀ v H1, Ex H H1 → P v H1 → decide (v = .non) = !b) : EB (tB (tNotN te)) σ H b := fun H1 e Q q =>
  h H1 e _ fun v H2 e2 p => ⟨_, rfl, by rw [hb v H2 (e.trans e2) p, Bool.not_not]; exact q H2 e2⟩
theorem b_isNP {b : Bool} (h : EV te σ H P) (hb : ∀ v H1, Ex H H1 → P v H1 → decide (v = .non) = b) : EB (tB (tIsN te)) σ H b := fun H1 e Q q =>
  h H1 e _ fun v H2 e2 p => ⟨_, rfl, by rw [hb v H2 (e.trans e2) p]; exact q H2 e2⟩
theorem optP_non {r : Option (α × β)} {v : V} {H : Hp} (h : D r v H) : decide (v = .non) = !r.isSome := by
  cases r with
  | none =>
    have h : Td H v .none := h
    cases h
    rfl
  | some p =>
    have h : Td H v (.tuple [enc p.1, enc p.2]) := h
    cases h
    rfl
theorem getA_mem {κ ω : Type} [DecidableEq κ] {kvs : List (κ × ω)} {k : κ} {x : ω} (h : getA kvs k = some x) : (k, x) ∈ kvs := by
  unfold getA at h
  obtain ⟨⟨k', x'⟩, h1, h2⟩ := Option.map_eq_some_iff.mp h
  have := List.mem_of_find?_eq_some h1
  have h3 := List.find?_some h1
  simp only [decide_eq_true_eq] at h3
  simp only at h2
  subst h2
  subst h3
  exact this
theorem getA_some {κ ω : Type} [DecidableEq κ] {kvs : List (κ × ω)} {k : κ} (h : k ∈ keysA kvs) : ∃ x, getA kvs k = some x := by
  have := getA_isSome kvs k
  rw [memB_iff.mpr h] at this
  exact Option.isSome_iff_exists.mp this
end
/-! ### breadth first -/
abbrev RootsT := List (Thing × Option (Thing × Option Int))
structure WB (things : List Thing) (links : List LinkT) (b : Thing) (roots : RootsT) (dep : Thing → Nat) (row : List Thing) : Prop where
  keys : keysA roots = row
  nd : row.Nodup
  sub : ∀ t ∈ row, t ∈ things
  bin : b ∈ row
  b0 : dep b = 0
  par : ∀ t r, (t, r) ∈ roots → (r = none ∧ t = b) ∨ ∃ s n, r = some (s, n) ∧ s ∈ row ∧ T3.mk s t n ∈ links ∧ dep t = dep s + 1
  mono : row.Pairwise fun s t => dep s ≤ dep t
structure WO (things : List Thing) (links : List LinkT) (b : Thing) (roots : RootsT) (dep : Thing → Nat) (A R : List Thing) : Prop where
  wb : WB things links b roots dep (A ++ R)
  near : ∀ s ∈ R, ∀ t ∈ A ++ R, dep t ≤ dep s + 1
  done : ∀ s ∈ A, ∀ y n, T3.mk s y n ∈ links → y ∈ A ++ R ∧ dep y ≤ dep s + 1
structure WI (things : List Thing) (links : List LinkT) (b : Thing) (roots : RootsT) (dep : Thing → Nat) (A : List Thing) (x : Thing) (R : List Thing) (pre : List (Thing × Option Int)) : Prop where
  wb : WB things links b roots dep (A ++ x :: R)
  near : ∀ t ∈ A ++ x :: R, dep t ≤ dep x + 1
  done : ∀ s ∈ A, ∀ y n, T3.mk s y n ∈ links → y ∈ A ++ x :: R ∧ dep y ≤ dep s + 1
  pre : ∀ y n, (y, n) ∈ pre → y ∈ A ++ x :: R
section
variable {things : List Thing} {links : List LinkT} {b x : Thing} {roots : RootsT} {dep : Thing → Nat} {A R : List Thing} {pre : List (Thing × Option Int)}
theorem WO.start (h : b ∈ things) : WO things links b [(b, none)] (fun _ => 0) [] [b] where
  wb := ⟨rfl, by simp, by simpa using h, by simp, rfl, fun t r q => by simp at q; exact Or.inl ⟨q.2, q.1⟩, by simp⟩
  near := by simp
  done := by simp
theorem WO.go (h : WO things links b roots dep A (x :: R)) : WI things links b roots dep A x R [] := ⟨h.wb, h.near x (by simp), h.done, by simp⟩
theorem WI.fin (h : WI things links b roots dep A x R (outs links x)) : WO things links b roots dep (A ++ [x]) R where
  wb := by rw [List.append_assoc]; exact h.wb
  near := fun s hs t ht => by
    rw [List.append_assoc] at ht
    have h1 := h.near t ht
    have h2 := (List.pairwise_cons.mp (List.pairwise_append.mp h.wb.mono).2.1).1 s hs
    omega
  done := fun s hs y n hl => by
    rw [List.append_assoc]
    rcases List.mem_append.mp hs with q | q
    · exact h.done s q y n hl
    · simp at q
      subst q
      have := h.pre y n (outs_mem.mpr hl)
      exact ⟨this, h.near y this⟩
theorem WI.old {z : Thing} {n : Option Int} (h : WI things links b roots dep A x R pre) (hz : z ∈ A ++ x :: R) : WI things links b roots dep A x R (pre ++ [(z, n)]) := ⟨h.wb, h.near, h.done, fun y m q => by
  rcases List.mem_append.mp q with q | q
  · exact h.pre y m q
  · simp at q; exact q.1 ▸ hz⟩
theorem WI.new {z : Thing} {n : Option Int} (h : WI things links b roots dep A x R pre) (hz : z ∉ A ++ x :: R) (ht : z ∈ things) (hl : T3.mk x z n ∈ links) :
    WI things links b (roots ++ [(z, some (x, n))]) (fun t => if t = z then dep x + 1 else dep t) A x (R ++ [z]) (pre ++ [(z, n)]) := by
  have hne : ∀ t ∈ A ++ x :: R, t ≠ z := fun t q e => hz (e ▸ q)
  have hd : ∀ t ∈ A ++ x :: R, (if t = z then dep x + 1 else dep t) = dep t := fun t q => if_neg (hne t q)
  have er : A ++ x :: (R ++ [z]) = (A ++ x :: R) ++ [z] := by simp
  have hx : x ∈ A ++ x :: R := by simp
  refine ⟨⟨?_, ?_, ?_, ?_, ?_, ?_, ?_⟩, ?_, ?_, ?_⟩
  · rw [er, ← h.wb.keys]; simp [keysA]
  · rw [er]; exact List.nodup_append.mpr ⟨h.wb.nd, by simp, fun t q u hu e => by simp at hu; exact hne t q (e.trans hu)⟩
  · rw [er]; intro t q; rcases List.mem_append.mp q with q | q; exact h.wb.sub t q; simp at q; exact q ▸ ht
  · rw [er]; exact List.mem_append_left _ h.wb.bin
  · show (if b = z then _ else _) = 0; rw [hd b h.wb.bin]; exact h.wb.b0
  · rw [er]
    intro t r q
    rcases List.mem_append.mp q with q | q
    · have htr : t ∈ A ++ x :: R := by rw [← h.wb.keys]; exact List.mem_map.mpr ⟨_, q, rfl⟩
      rcases h.wb.par t r q with e | ⟨s, m, e1, e2, e3, e4⟩
      · exact Or.inl e
      · refine Or.inr ⟨s, m, e1, List.mem_append_left _ e2, e3, ?_⟩
        show (if t = z then _ else _) = (if s = z then _ else _) + 1
        rw [hd t htr, hd s e2]; exact e4
    · simp at q
      obtain ⟨rfl, rfl⟩ := q
      refine Or.inr ⟨x, n, rfl, List.mem_append_left _ hx, hl, ?_⟩
      show (if t = t then _ else _) = (if x = t then _ else _) + 1
      rw [hd x hx, if_pos rfl]
  · rw [er]
    refine List.pairwise_append.mpr ⟨?_, by simp, fun t q u hu => ?_⟩
    · refine h.wb.mono.imp_of_mem fun {s t} hs ht q => ?_
      show (if s = z then _ else _) ≤ (if t = z then _ else _)
      rw [hd s hs, hd t ht]; exact q
    · simp at hu
      subst hu
      show (if t = u then _ else _) ≤ (if u = u then _ else _)
      rw [hd t q, if_pos rfl]
      exact h.near t q
  · rw [er]
    intro t q
    show (if t = z then _ else _) ≤ (if x = z then _ else _) + 1
    rw [hd x hx]
    rcases List.mem_append.mp q with q | q
    · rw [hd t q]; exact h.near t q
    · simp at q; rw [if_pos q]; exact Nat.le_refl _
  · rw [er]
    intro s hs y m q
    obtain ⟨h1, h2⟩ := h.done s hs y m q
    refine ⟨List.mem_append_left _ h1, ?_⟩
    show (if y = z then _ else _) ≤ (if s = z then _ else _) + 1
    rw [hd y h1, hd s (List.mem_append_left _ hs)]; exact h2
  · rw [er]
    intro y m q
    rcases List.mem_append.mp q with q | q
    · exact List.mem_append_left _ (h.pre y m q)
    · simp at q; rw [q.1]; simp
theorem WO.short (h : WO things links b roots dep A R) {s y : Thing} {u : List LinkT} (w : IsWay links s y u) : s ∈ A ++ R → y ∈ A ++ R → dep y ≤ dep s + u.length := by
  induction w with
  | @one k hk =>
    intro hs hy
    rcases List.mem_append.mp hs with q | q
    · exact (h.done _ q k.b k.c hk).2
    · exact h.near _ q _ hy
  | @cons k y w hk _ ih =>
    intro hs hy
    rcases List.mem_append.mp hs with q | q
    · have h1 := h.done _ q k.b k.c hk
      have h2 := ih h1.1 hy
      rw [List.length_cons]
      omega
    · have := h.near _ q _ hy
      rw [List.length_cons]
      omega
theorem WO.closed (h : WO things links b roots dep A []) {y : Thing} (q : Reach links b y) : y ∈ A := by
  have hb : b ∈ A := by have := h.wb.bin; simpa using this
  have st : ∀ s z, s ∈ A → Step links s z → z ∈ A := fun s z hs ⟨n, hn⟩ => by have := (h.done s hs z n hn).1; simpa using this
  unfold Reach at q
  induction q with
  | single s => exact st _ _ hb s
  | tail _ s ih => exact st _ _ ih s
theorem IsWay.reach {s y : Thing} {u : List LinkT} (w : IsWay links s y u) : Reach links s y := by
  induction w with
  | one hk => exact .single ⟨_, hk⟩
  | cons hk _ ih => exact .trans (.single ⟨_, hk⟩) ih
theorem WO.chain (h : WO things links b roots dep A R) : ∀ (m : Nat) (t : Thing), dep t = m → t ∈ A ++ R → ∃ xs : List Thing, xs.Nodup ∧ (∀ x ∈ xs, x ∈ A ++ R ∧ dep x ≤ m) ∧ xs.length = m + 1 := by
  intro m
  induction m with
  | zero => exact fun t hm ht => ⟨[t], by simp, by simpa using ⟨List.mem_append.mp ht, hm⟩, rfl⟩
  | succ m ih =>
    intro t hm ht
    have ht' := ht
    rw [← h.wb.keys] at ht
    obtain ⟨⟨t', r⟩, hr, rfl⟩ := List.mem_map.mp ht
    simp only at hm ht'
    rcases h.wb.par _ r hr with q | ⟨s, n, _, hs, hl, e⟩
    · have := h.wb.b0
      rw [q.2] at hm
      omega
    · obtain ⟨xs, h1, h2, h3⟩ := ih s (by omega) hs
      refine ⟨t' :: xs, List.nodup_cons.mpr ⟨fun z => by have := (h2 _ z).2; omega, h1⟩, fun x hx => ?_, by simp [h3]⟩
      rcases List.mem_cons.mp hx with q | q
      · rw [q]; exact ⟨ht', by omega⟩
      · have := h2 x q; exact ⟨this.1, by omega⟩
theorem WO.depth (h : WO things links b roots dep A R) {t : Thing} (ht : t ∈ A ++ R) : dep t < (A ++ R).length := by
  obtain ⟨xs, h1, h2, h3⟩ := h.chain _ t rfl ht
  have := nodup_sub_len h1 fun x hx => (h2 x hx).1
  omega
theorem WO.reach (h : WO things links b roots dep A R) : ∀ (m : Nat) (t : Thing), dep t = m → t ∈ A ++ R → t = b ∨ Reach links b t := by
  intro m
  induction m with
  | zero =>
    intro t hm ht
    rw [← h.wb.keys] at ht
    obtain ⟨⟨t', r⟩, hr, rfl⟩ := List.mem_map.mp ht
    rcases h.wb.par _ r hr with q | ⟨s, n, _, _, _, e⟩
    · exact Or.inl q.2
    · simp only at hm; omega
  | succ m ih =>
    intro t hm ht
    rw [← h.wb.keys] at ht
    obtain ⟨⟨t', r⟩, hr, rfl⟩ := List.mem_map.mp ht
    rcases h.wb.par _ r hr with q | ⟨s, n, _, hs, hl, e⟩
    · exact Or.inl q.2
    · simp only at hm
      rcases ih s (by omega) hs with q | q
      · subst q; exact Or.inr (.single ⟨n, hl⟩)
      · exact Or.inr (.tail q ⟨n, hl⟩)
end
/-- for .. in the links of x -/
theorem len_Net_way (K : PySem.W.Frag) (a : Ad) : ∀ vs H Q E, sp_Net_way K a vs H Q E → vs.length = 3 := fun _ _ _ _ ⟨_, _, _, _, _, _, _, e, _⟩ => by rw [e]; rfl
theorem p_Net_way (T : ClT K a) (h : sp_Net_way K a vs H Q E) : t_Net_way K a (FinQ Q) (start ["self", "begin", "goal", "roots", "row", "at", "thing", "later", "number", "found", "earlier"] vs) H := by
  obtain ⟨p, things, links, b, t, v, w, rfl, hnet, db, dt, hb, nd, hlb, hz, k⟩ := h
  obtain ⟨dx, dn, ls, h1, h2, h3, h4, h5⟩ := hnet.ex
  refine q_set (e_disp1T (α := Option (Thing × Option Int)) (t := b) (x := none) (e_var db) (fun H1 e Q q => q _ H1 (Ex.refl H1) Td.non)) fun vd H1 e1 ⟨d, rd, hd0, hd⟩ => ?_
  subst rd
  refine q_set (e_l1 (e_var (db.ex e1))) fun vr H2 e2 pr => ?_
  obtain ⟨r, ur, rfl, hr0, hr1, hur⟩ := pr
  have hdr : d ≠ r := by intro z; subst z; obtain ⟨_, q, _⟩ := hd; rw [q] at hr0; cases hr0
  have hr00 : H r = none := e1.free hr0
  refine q_set (e_int (i := 0)) fun v0 H3 e3 p0 => ?_
  cases p0.is_int
  refine q_while (fun m σ' H' => ∃ (n6 n7 n8 : Option V) (roots : RootsT) (dep : Thing → Nat) (A R : List Thing), σ' = [some (.ref p), some v, some w, some (.ref d), some (.ref r), some (.int (A.length : Int)), n6, n7, n8, none, none] ∧ m = things.length - A.length ∧ Ex H H' ∧ DtAt H' d roots ∧ Ls (A ++ R) (.ref r) H' ∧ WO things links b roots dep A R) _
    ⟨none, none, none, [(b, none)], fun _ => 0, [], [b], rfl, rfl, e1.trans (e2.trans e3), hd.ex (e2.trans e3), ⟨r, ur, rfl, e3 _ _ hr1, tda_t e3.t _ hur⟩, WO.start hb⟩ ?_
  rintro m σ' H' ⟨n6, n7, n8, roots, dep, A, R, rfl, rfl, e4, hro, hrow, wo⟩
  have hlen : (A ++ R).length ≤ things.length := nodup_sub_len wo.wb.nd wo.wb.sub
  have hkr : keysA roots = A ++ R := wo.wb.keys
  refine ⟨_, b_and (b_I0 (g := fun i j => decide (i < j)) (e_var (D.of_int _ _)) (e_len (e_var (P := Ls (A ++ R)) hrow))) fun _ => b_Tnotin (e_var (dt.ex e4)) e_is hro, fun c H4 e5 => ?_, fun c H4 e5 => ?_⟩
  · rw [Bool.and_eq_true] at c
    have hlt : A.length < (A ++ R).length := by have := of_decide_eq_true c.1; omega
    obtain ⟨x, R', rfl⟩ : ∃ x R', R = x :: R' := by
      cases R with
      | nil => simp at hlt
      | cons x R' => exact ⟨x, R', rfl⟩
    have hx : x ∈ things := wo.wb.sub x (by simp)
    refine q_set (e_ixL (α := Thing) (j := A.length) (x := x) (e_var (P := Ls (A ++ x :: R')) (hrow.ex e5)) (e_var (D.of_int _ _)) ?_) fun vx H5 e6 dx' => ?_
    · exact atI_nat (by rw [List.getElem?_append_right (Nat.le_refl _)]; simp)
    refine q_set (e_I0 (g := fun i j => i + j) (e_var (D.of_int (A.length : Int) _)) (e_int (i := 1))) fun va H6 e7 pa => ?_
    cases pa.is_int
    have e47 := e4.trans (e5.trans (e6.trans e7))
    obtain ⟨i, hi⟩ := List.getElem?_of_mem hx
    have hil : i < ls.length := by rw [h3]; exact (List.getElem?_eq_some_iff.mp hi).1
    have hli : ls[i]? = some ls[i] := List.getElem?_eq_getElem hil
    have hLs := (h5 i x _ hi hli)
    refine s_for (α := Thing × Option Int) (xs := outs links x) (P := fun v2 H4 => v2 = .ref ls[i] ∧ Ex H H4)
      ((e_tget (x := x) (e_fld e_is (e47 _ _ h1) T.net T.onward lk_hit fun _ _ => rfl) (e_var (dx'.ex e7)) (e47 _ _ h2) (netD_val nd hi hli)).imp fun v2 H4 e p => ⟨p, e47.trans e⟩)
      (fun v2 H4 q => by rw [q.1]; exact hLs.ex q.2)
      (fun H4 v2 pre σ' H5 => ∃ (n6 n7 n8 : Option V) (roots2 : RootsT) (dep2 : Thing → Nat) (R2 : List Thing) (vx2 : V), σ' = [some (.ref p), some v, some w, some (.ref d), some (.ref r), some (.int ((A.length : Int) + 1)), some vx2, n7, n8, none, none] ∧ D x vx2 H5 ∧ Ex H H5 ∧ DtAt H5 d roots2 ∧ Ls (A ++ x :: R2) (.ref r) H5 ∧ WI things links b roots2 dep2 A x R2 pre) ?_ ?_ ?_ ?_
    · rintro v2 H7 e8 ⟨rfl, _⟩
      exact ⟨n6, n7, n8, roots, dep, R', vx, rfl, dx'.ex (e7.trans e8), e47.trans e8, hro.ex (e5.trans (e6.trans (e7.trans e8))), hrow.ex (e5.trans (e6.trans (e7.trans e8))), wo.go⟩
    · rintro v2 H7 pre σ' H8 e8 ⟨rfl, _⟩ ⟨m6, m7, m8, roots2, dep2, R2, vx2, rfl, d2, e9, q1, q2, wi⟩
      exact hLs.ex e9
    · rintro v2 H7 pre ⟨z, n⟩ post y σ' H8 e8 ⟨rfl, _⟩ hsp ⟨m6, m7, m8, roots2, dep2, R2, vx2, rfl, d2, e9, q1, q2, wi⟩ dy
      have hlk : T3.mk x z n ∈ links := outs_mem.mp (by rw [hsp]; simp)
      have hz' : z ∈ things := hlb _ hlk
      have hk2 : keysA roots2 = A ++ x :: R2 := wi.wb.keys
      have hl2 : (A ++ x :: R2).length ≤ things.length := nodup_sub_len wi.wb.nd wi.wb.sub
      refine g_pair dy fun y1 y2 d3 d4 => ?_
      refine s_if (b_Tnotin (e_var d3) e_is q1) (fun c2 H9 e10 => ?_) fun c2 H9 e10 => ?_
      · have hzf : z ∉ A ++ x :: R2 := by
          rw [hk2] at c2
          intro w
          rw [memB_iff.mpr w] at c2
          cases c2
        have hrl : roots2.length = (A ++ x :: R2).length := by rw [← hk2]; simp [keysA]
        refine q_Tput (x := z) (z := some (x, n)) (e_pair (e_var (d2.ex e10)) (e_var (d4.ex e10))) e_is (e_var (d3.ex e10)) (q1.ex e10) (by omega) fun HA HB eA cg sm hdB => ?_
        rw [putA_new _ (by rw [hk2]; exact hzf)] at hdB
        have q2' : Ls (A ++ x :: R2) (.ref r) HB := (q2.ex (e10.trans eA)).chg cg (by simpa using Ne.symm hdr)
        refine s_App (α := Thing) (x := z) e_is (e_var (d3.ex (e10.trans eA) |>.t cg.tup)) q2' (by omega) fun HC HD eC cg2 sm2 hrD => ?_
        refine ⟨m6, _, _, _, _, R2 ++ [z], vx2, rfl, ((d2.ex (e10.trans eA)).t cg.tup |>.ex eC).t cg2.tup, ?_, ?_, ?_, wi.new hzf hz' hlk⟩
        · exact cg2.exB ((cg.exB (e9.trans (e10.trans eA)) (by simp [hd0])).trans eC) (by simp [hr00])
        · exact (hdB.ex eC).chg cg2 (by simpa using hdr)
        · have : A ++ x :: (R2 ++ [z]) = (A ++ x :: R2) ++ [z] := by simp
          rw [this]; exact hrD
      · have hzf : z ∈ A ++ x :: R2 := by
          rw [hk2] at c2
          simpa [memB_iff] using c2
        exact ⟨m6, _, _, roots2, dep2, R2, vx2, rfl, d2.ex e10, e9.trans e10, q1.ex e10, q2.ex e10, wi.old hzf⟩
    · rintro v2 H7 σ' H8 e8 ⟨rfl, _⟩ ⟨m6, m7, m8, roots2, dep2, R2, vx2, rfl, d2, e9, q1, q2, wi⟩
      refine ⟨_, ?_, some vx2, m7, m8, roots2, dep2, A ++ [x], R2, ?_, rfl, e9, q1, ?_, wi.fin⟩
      · simp only [List.length_append, List.length_cons, List.length_nil] at hlen ⊢
        omega
      · simp
      · rw [List.append_assoc]; exact q2
  · have e45 := e4.trans e5
    refine q_if (b_or (b_Tnotin (e_var (dt.ex e45)) e_is (hro.ex e5)) fun _ => b_eq (α := Thing) (e_var (dt.ex e45)) (e_var (db.ex e45))) (fun c2 H5 e6 => ?_) fun c2 H5 e6 => ?_
    · refine s_ret e_c fun x H6 e7 px => ?_
      cases px
      refine k _ H6 (e45.trans (e6.trans e7)) (Or.inl ⟨rfl, ?_⟩)
      by_cases hbt : b = t
      · exact Or.inl hbt
      · refine Or.inr fun hre => ?_
        rw [hkr] at c2
        have hnt : memB t (A ++ R) = false := by
          rcases Bool.or_eq_true .. ▸ c2 with q | q
          · simpa using q
          · exact absurd (of_decide_eq_true q).symm hbt
        rw [hkr, hnt] at c
        have hR : R = [] := by
          have : ¬ ((A.length : Int) < ((A ++ R).length : Int)) := by simpa using c
          rw [List.length_append] at this
          exact List.length_eq_zero_iff.mp (by omega)
        subst hR
        have hm : t ∈ A ++ [] := by rw [List.append_nil]; exact wo.closed hre
        rw [memB_iff.mpr hm] at hnt
        cases hnt
    · rw [hkr, Bool.or_eq_false_iff] at c2
      have htm : t ∈ A ++ R := by simpa [memB_iff] using c2.1
      have hbt : b ≠ t := fun e => (of_decide_eq_false c2.2) e.symm
      refine q_set (e_nil (α := LinkT)) fun vf H6 e7 pf => ?_
      obtain ⟨f, uf, rfl, hf0, hf1, huf⟩ := pf
      have e47 := e45.trans (e6.trans e7)
      have hf00 : H f = none := (e45.trans e6).free hf0
      have hroD := hro.ex (e5.trans (e6.trans e7))
      have hdf : d ≠ f := by intro z; subst z; obtain ⟨_, q, _⟩ := hro.ex (e5.trans e6); rw [q] at hf0; cases hf0
      refine q_while (fun m σ' H' => ∃ (n6 n7 n8 n10 : Option V) (vg : V) (g : Thing) (fnd : List LinkT), σ' = [some (.ref p), some v, some vg, some (.ref d), some (.ref r), some (.int (A.length : Int)), n6, n7, n8, some (.ref f), n10] ∧ m = dep g ∧ Ex H H' ∧ DtAt H' d roots ∧ Ls fnd (.ref f) H' ∧ D g vg H' ∧ g ∈ A ++ R ∧ fnd.length + dep g = dep t ∧ ((fnd = [] ∧ g = t) ∨ IsWay links g t fnd.reverse)) _
        ⟨n6, n7, n8, none, w, t, [], rfl, rfl, e47, hroD, ⟨f, uf, rfl, hf1, huf⟩, dt.ex e47, htm, by simp, Or.inl ⟨rfl, rfl⟩⟩ ?_
      rintro m σ' H7 ⟨m6, m7, m8, m10, vg, g, fnd, rfl, rfl, e8, qd, qf, dg, hg, hlenf, hway⟩
      obtain ⟨rg, hrg⟩ := getA_some (kvs := roots) (k := g) (by rw [hkr]; exact hg)
      refine ⟨_, b_notNP (e_Tget e_is (e_var dg) qd hrg) fun v2 H8 _ p => optP_non p, fun c3 H8 e9 => ?_, fun c3 H8 e9 => ?_⟩
      · rcases wo.wb.par _ _ (getA_mem hrg) with q | ⟨s, n, rfl, hs, hl, hdep⟩
        · rw [q.1] at c3; cases c3
        refine q_pair (x := s) (y := n) ?_ fun y1 y2 H9 eA d1 d2 => ?_
        · exact (e_Tget (z := some (s, n)) e_is (e_var (dg.ex e9)) (qd.ex e9) hrg)
        have hfl : fnd.length ≤ 1000 := by
          have := wo.depth htm
          omega
        refine q_App (α := LinkT) (x := T3.mk s g n) e_is (e_t3 (e_var d1) (e_var (dg.ex (e9.trans eA))) (e_var d2)) (qf.ex (e9.trans eA)) (by omega) fun HA HB eB cg sm hfB => ?_
        refine s_set (e_var (P := D s) ((d1.ex eB).t cg.tup)) fun vs2 HC eC ps => ?_
        refine ⟨_, by omega, m6, m7, _, _, vs2, s, fnd ++ [⟨s, g, n⟩], rfl, rfl, (cg.exB (e8.trans (e9.trans (eA.trans eB))) (by simp [hf00])).trans eC, ((qd.ex (e9.trans (eA.trans eB))).chg cg (by simpa using hdf)).ex eC, hfB.ex eC, ps, hs, ?_, Or.inr ?_⟩
        · rw [List.length_append]; simp only [List.length_cons, List.length_nil]; omega
        · rw [List.reverse_append]
          rcases hway with ⟨rfl, rfl⟩ | hw
          · exact IsWay.one (k := ⟨s, g, n⟩) hl
          · exact IsWay.cons (k := ⟨s, g, n⟩) hl hw
      · rcases wo.wb.par _ _ (getA_mem hrg) with ⟨_, hgb⟩ | ⟨s, n, rfl, hs, hl, hdep⟩
        · subst hgb
          refine s_ret (e_listRev (α := LinkT) (e_var (P := Ls fnd) (qf.ex e9))) fun x H9 eA px => ?_
          rcases hway with ⟨_, rfl⟩ | hw
          · exact absurd rfl hbt
          refine k x H9 (e8.trans (e9.trans eA)) (Or.inr ⟨fnd.reverse, hbt, ⟨hw, fun u hu => ?_⟩, by rw [List.length_reverse]; have := wo.depth htm; omega, px.back (e8.trans e9)⟩)
          have := wo.short hu wo.wb.bin htm
          rw [List.length_reverse]
          have := wo.wb.b0
          omega
        · cases c3
end
end TK

namespace TK
open PySem L2 PySem.Spec PyProof.Rows
open Enc (enc)
section
variable {K : PySem.W.Frag} {a : Ad} {vs : List V} {H : Hp} {Q : VK} {E : XK}
theorem len_Ring_init (K : PySem.W.Frag) (a : Ad) : ∀ vs H Q E, sp_Ring_init K a vs H Q E → vs.length = 2 := fun _ _ _ _ ⟨_, _, _, e, _⟩ => by rw [e]; rfl
theorem p_Ring_init (T : ClT K a) (h : sp_Ring_init K a vs H Q E) : t_Ring_init K a (FinQ Q) (start ["self", "row"] vs) H := by
  obtain ⟨e, v, ns, rfl, he, hv, k⟩ := h
  obtain ⟨p, us, rfl, hp, hu⟩ := hv
  refine ⟨.ref e, rfl, .ref p, rfl, p, us, rfl, Or.inl (sq_of hp), e, a.cRing, [.int us.length], rfl, by simp, T.ring, he, ?_⟩
  exact ⟨_, rfl, .ref e, rfl, e, a.cRing, rfl, T.ring, T.row, Or.inl ⟨he, k⟩⟩
theorem len_Ground_things (K : PySem.W.Frag) (a : Ad) : ∀ vs H Q E, sp_Ground_things K a vs H Q E → vs.length = 1 := fun _ _ _ _ ⟨_, _, e, _⟩ => by rw [e]; rfl
theorem e_gf {C : Addr} {σ : L2.St} {te : TE} {g : GS} {A : GA} {f : Str} {v : V} (h : EV te σ H (Is (.ref A.p))) (G : GrAt C g A H) (hc : Cls K C) (hn : NoAttr K C f) (hl : (gf A g.given).lookup f = some v) : EV (tFld K te f) σ H (Is v) :=
  e_fld h G.ins hc hn hl fun _ _ => rfl
theorem p_Ground_things (T : ClT K a) (h : sp_Ground_things K a vs H Q E) : t_Ground_things K a (FinQ Q) (start ["self"] vs) H := by
  obtain ⟨g, A, rfl, G, z1, z2, k⟩ := h
  refine s_ret (P := NL H g.things) (e_call2 (P1 := Ls g.walkers) (P2 := Ls g.weathers) ((e_gf e_is G T.gr T.walkers (gf_walkers _ _)).imp fun v H1 e p => by cases p; exact G.ws.ex e) ((e_gf e_is G T.gr T.weathers (gf_weathers _ _)).imp fun v H1 e p => by cases p; exact G.ts.ex e)
    fun x y H1 e p1 p2 Q q => ⟨_, _, x, y, rfl, p1, p2, z1, z2, fun r H2 e2 n => q r H2 e2 (n.back e)⟩) fun x H1 e p => k x H1 e p
theorem len_Ground_new_number (K : PySem.W.Frag) (a : Ad) : ∀ vs H Q E, sp_Ground_new_number K a vs H Q E → vs.length = 1 := fun _ _ _ _ ⟨_, _, e, _⟩ => by rw [e]; rfl
theorem p_Ground_new_number (T : ClT K a) (h : sp_Ground_new_number K a vs H Q E) : t_Ground_new_number K a (FinQ Q) (start ["self"] vs) H := by
  obtain ⟨g, A, rfl, G, k⟩ := h
  refine q_sfld (p := A.p) (C := a.cGround) (e_I0 (g := fun i j => i + j) ((e_gf e_is G T.gr T.given (gf_given _ _)).imp fun v H1 e p => by cases p; exact D.of_int _ _) (e_int (i := 1))) (fun H1 e => e_is) fun v H1 e1 p => ⟨A.dx, gf A g.given, e1 _ _ G.ins, T.gr, T.given, by simp [gf], fun H2 e2 => ?_⟩
  cases p.is_int
  rw [gf_put]
  have e12 := e1.trans e2
  have c : Chg [A.p] H2 (upd H2 A.p (.ins a.cGround A.dx (gf A (g.given + 1)))) := ⟨fun b o hb h => by rw [upd_ne (by simpa using hb)]; exact h, TEx.upd (e12 _ _ G.ins) True.intro⟩
  have G2 : GrAt a.cGround { g with given := g.given + 1 } A (upd H2 A.p (.ins a.cGround A.dx (gf A (g.given + 1)))) := by
    have G1 := G.ex e12
    obtain ⟨l1, u1, q1, w1, _⟩ := G1.ws
    obtain ⟨l2, u2, q2, w2, _⟩ := G1.ts
    obtain ⟨u3, w3, _⟩ := G1.fa
    obtain ⟨u4, w4, _⟩ := G1.cr
    cases q1
    cases q2
    refine ⟨upd_same, G1.ws.chg c ?_, G1.ts.chg c ?_, G1.fa.chg c ?_, G1.cr.chg c ?_, G1.ne⟩
    · simp; intro z; rw [z, G1.ins] at w1; cases w1
    · simp; intro z; rw [z, G1.ins] at w2; cases w2
    · simp; intro z; rw [z, G1.ins] at w3; cases w3
    · simp; intro z; rw [z, G1.ins] at w4; cases w4
  refine s_ret (P := D g.given) ?_ fun x H3 e3 p3 => ?_
  · have : EV (tOp (rI0 fun i j => V.int (i - j)) (tFld K (tVar 0) "given") (tC (.int 1))) [some (.ref A.p)] (upd H2 A.p (.ins a.cGround A.dx (gf A (g.given + 1)))) (D (g.given + 1 - 1)) :=
      e_I0 (g := fun i j => i - j) ((e_gf e_is G2 T.gr T.given (gf_given _ _)).imp fun v H1 e p => by cases p; exact D.of_int _ _) (e_int (i := 1))
    rwa [Int.add_sub_cancel] at this
  · cases p3.is_int
    exact k H3 (((Chg.of_ex e12).trans c).trans (Chg.of_ex e3)) (G2.ex e3)
theorem names_cnt {ns : List Nm} {n : Nm} (nd : ns.Nodup) (h : n ∈ ns) : (ns.map fun w => V.str w.s).countP (fun z => eqV z (.str n.s)) = 1 := by
  rw [List.countP_map]
  have e : (fun z => eqV z (V.str n.s)) ∘ (fun w : Nm => V.str w.s) = fun w => w == n := by
    funext w
    show (w.s == n.s) = (w == n)
    rw [beq_str, Bool.eq_iff_iff, decide_eq_true_iff, beq_iff_eq]
    exact ⟨fun z => Nm.ext' z, fun z => by rw [z]⟩
  rw [e]
  show ns.count n = 1
  exact List.Nodup.count nd |>.trans (if_pos h)
theorem e_cnt {σ : L2.St} {ta tb : TE} {ns : List Nm} {n : Nm} (h1 : EV ta σ H (Ls ns)) (h2 : EV tb σ H (D n)) (nd : ns.Nodup) (hn : n ∈ ns) : EV (tBM K "list" (rCntF K) ta (tCons tb tNil)) σ H (D (1 : Int)) := fun H1 e Q q =>
  h1 H1 e _ fun v H2 e2 p => by
    obtain ⟨l, rfl, hl⟩ := ls_strs p
    refine ⟨Or.inl ⟨rfl, _, sq_of hl⟩, h2 H2 (e.trans e2) _ fun y H3 e3 d => ?_⟩
    cases d.is_nm
    refine ⟨l, _, _, rfl, rfl, sq_of (e3 _ _ hl), rfl, flat_strs ns, ?_⟩
    rw [names_cnt nd hn]
    exact q _ H3 (e2.trans e3) (D.of_int _ _)
theorem upd_chg {Hb H2 : Hp} {p : Addr} {o o' : HO} (h : H2 p = some o) (nt : NoTup o) : Chg [p] H2 (upd H2 p o') := ⟨fun b u hb q => by rw [upd_ne (by simpa using hb)]; exact q, TEx.upd h nt⟩
abbrev fl1 (lw : Addr) : List (Str × V) := [("walkers", .ref lw)]
abbrev fl2 (lw lt : Addr) : List (Str × V) := [("walkers", .ref lw), ("weathers", .ref lt)]
abbrev fl3 (lw lt df : Addr) : List (Str × V) := [("walkers", .ref lw), ("weathers", .ref lt), ("facts", .ref df)]
abbrev fl4 (lw lt df dc : Addr) : List (Str × V) := [("walkers", .ref lw), ("weathers", .ref lt), ("facts", .ref df), ("crossings", .ref dc)]
theorem len_Ground_init (K : PySem.W.Frag) (a : Ad) : ∀ vs H Q E, sp_Ground_init K a vs H Q E → vs.length = 3 := fun _ _ _ _ ⟨_, _, _, _, _, _, _, e, _⟩ => by rw [e]; rfl
theorem p_Ground_init (T : ClT K a) (h : sp_Ground_init K a vs H Q E) : t_Ground_init K a E (FinQ Q) (start ["self", "walkers", "weathers", "names", "name"] vs) H := by
  obtain ⟨Hb, p, dx, ws, ths, v, w, rfl, eb, hp0, hp, hv, hw, nk, k⟩ := h
  have hne : ∀ {H : Hp} {l : Addr} {xs : List Nm} {o}, H p = some (.ins a.cGround dx o) → Ls xs (.ref l) H → l ∉ [p] := fun {H l xs o} h ⟨q, us, e1, e2, _⟩ z => by
    cases e1
    simp at z
    rw [z, h] at e2
    cases e2
  refine q_sfld (p := p) (C := a.cGround) (P1 := NL H ws) (e_list (e_var (hv.ex eb))) (fun H1 e => e_is) fun v1 H1 e1 p1 => ⟨dx, [], e1 _ _ hp, T.gr, T.walkers, by decide, fun H2 e2 => ?_⟩
  obtain ⟨lw, uw, rfl, hl0, hl1, hu1⟩ := p1
  have hlw0 : Hb lw = none := eb.free hl0
  have b1 := (eb.trans (e1.trans e2)).mut hp0 (o := .ins a.cGround dx (putF "walkers" (.ref lw) []))
  have x1 : (upd H2 p (.ins a.cGround dx (putF "walkers" (.ref lw) []))) p = some (.ins a.cGround dx (fl1 lw)) := upd_same
  have s1 : Ls ws (.ref lw) (upd H2 p (.ins a.cGround dx (putF "walkers" (.ref lw) []))) := by
    have q : Ls ws (.ref lw) H2 := Ls.ex ⟨lw, uw, rfl, hl1, hu1⟩ e2
    exact q.chg (upd_chg (Hb := Hb) ((e1.trans e2) _ _ hp) True.intro) (hne ((e1.trans e2) _ _ hp) q)
  generalize upd H2 p (.ins a.cGround dx (putF "walkers" (.ref lw) [])) = Hc at b1 x1 s1
  clear e1 e2 hl0 hl1 hu1 H1 H2
  refine q_sfld (p := p) (C := a.cGround) (P1 := NL Hc ths) (e_list (e_var (hw.ex b1))) (fun H1 e => e_is) fun v1 H1 e1 p1 => ⟨dx, _, e1 _ _ x1, T.gr, T.weathers, by simp, fun H2 e2 => ?_⟩
  obtain ⟨lt, uw, rfl, hl0, hl1, hu1⟩ := p1
  have hlt0 : Hb lt = none := b1.free hl0
  have hpf : putF "weathers" (.ref lt) (fl1 lw) = (fl2 lw lt) := by rw [pf_miss (by decide +kernel)]; rfl
  rw [hpf]
  have b2 := (b1.trans (e1.trans e2)).mut hp0 (o := .ins a.cGround dx (fl2 lw lt))
  have x2 : (upd H2 p (.ins a.cGround dx (fl2 lw lt))) p = some (.ins a.cGround dx (fl2 lw lt)) := upd_same
  have c2 := upd_chg (Hb := Hb) (o' := .ins a.cGround dx (fl2 lw lt)) ((e1.trans e2) _ _ x1) True.intro
  have s2 : Ls ws (.ref lw) (upd H2 p (.ins a.cGround dx (fl2 lw lt))) := (s1.ex (e1.trans e2)).chg c2 (hne ((e1.trans e2) _ _ x1) (s1.ex (e1.trans e2)))
  have t2 : Ls ths (.ref lt) (upd H2 p (.ins a.cGround dx (fl2 lw lt))) := by
    have q : Ls ths (.ref lt) H2 := Ls.ex ⟨lt, uw, rfl, hl1, hu1⟩ e2
    exact q.chg c2 (hne ((e1.trans e2) _ _ x1) q)
  generalize upd H2 p (.ins a.cGround dx (fl2 lw lt)) = Hd at b2 x2 s2 t2
  clear e1 e2 hl0 hl1 hu1 c2 H1 H2 x1 s1 b1
  have fw : ∀ {H3 : Hp} {σ : L2.St}, σ[0]? = some (some (.ref p)) → Ex Hd H3 → EV (tFld K (tVar 0) "walkers") σ H3 (Ls ws) := fun hs e => e_fld (e_is hs) (e _ _ x2) T.gr T.walkers lk_hit fun H1 e1 => s2.ex (e.trans e1)
  have ft : ∀ {H3 : Hp} {σ : L2.St}, σ[0]? = some (some (.ref p)) → Ex Hd H3 → EV (tFld K (tVar 0) "weathers") σ H3 (Ls ths) := fun hs e => e_fld (e_is hs) (e _ _ x2) T.gr T.weathers ((lk_miss (by decide +kernel)).trans lk_hit) fun H1 e1 => t2.ex (e.trans e1)
  have zw := nk.lw
  have zt := nk.lt
  refine q_set (e_cat (fw rfl (Ex.refl _)) (ft rfl (Ex.refl _)) (by omega)) fun v3 H3 e3 p3 => ?_
  refine q_if (b_or (b_I0 (g := fun i j => decide (j < i)) (e_len (fw rfl e3)) (e_int (i := 8))) fun _ => b_I0 (g := fun i j => decide (j < i)) (e_len (ft rfl e3)) (e_int (i := 3))) (fun c H4 e4 => ?_) fun c H4 e4 => ?_
  · exfalso
    simp only [Bool.or_eq_true, decide_eq_true_eq] at c
    omega
  have e34 := e3.trans e4
  refine q_for (α := Nm) (xs := ws ++ ths) (P := Ls (ws ++ ths)) (e_var (p3.ls.ex e4)) (fun _ _ p => p) (fun H2 v2 pre σ' H' => ∃ (n : Option V), σ' = [some (.ref p), some v, some w, some v3, n] ∧ Ex H2 H') ?_ ?_ ?_ ?_
  · exact fun v2 H2 e2 p2 => ⟨_, rfl, Ex.refl _⟩
  · rintro v2 H2 pre σ' H' e2 p2 ⟨n, rfl, e5⟩
    exact p2.ex e5
  · rintro v2 H2 pre n post y σ' H' e2 p2 hsp ⟨nn, rfl, e5⟩ dy
    have hn : n ∈ ws ++ ths := by rw [hsp]; simp
    have hnm := nk.nm n hn
    have hlen : n.s.length ≤ 10000 := by
      unfold isNameS at hnm
      simp only [Bool.and_eq_true, decide_eq_true_eq] at hnm
      omega
    have tn : EV (tCall (sp_is_name K a) [] E0 (tCons (tVar 4) tNil)) [some (.ref p), some v, some w, some v3, some y] H' (Is (.bl (isNameS n.s))) :=
      e_call1 (P1 := D n) (e_var dy) fun x H1 e p Q q => ⟨n, by rw [p.is_nm], hlen, fun H' e' => q _ H' e' rfl⟩
    have tc : EV (tBM K "list" (rCntF K) (tVar 3) (tCons (tVar 4) tNil)) [some (.ref p), some v, some w, some v3, some y] H' (D (1 : Int)) :=
      e_cnt (ns := ws ++ ths) (e_var (p3.ls.ex (e4.trans (e2.trans e5)))) (e_var dy) nk.nd hn
    unfold gName
    refine s_if (b_or (b_not (b_val tn)) fun _ => b_ne (α := Int) (K := K) tc (e_int (i := 1))) (fun c5 H5 e6 => ?_) fun c5 H5 e6 => ?_
    · exfalso
      rw [hnm] at c5
      simp at c5
    · exact ⟨_, rfl, e5.trans e6⟩
  · rintro v2 H2 σ' H' e2 p2 ⟨n, rfl, e5⟩
    have e25 := e34.trans (e2.trans e5)
    refine q_sfld (p := p) (C := a.cGround) e_dnewK (fun H1 e => e_is) fun v1 H1 e1 ⟨df, rd, hf0, hf1⟩ => ⟨dx, _, (e25.trans e1) _ _ x2, T.gr, T.facts, by simp, fun H2 e2 => ?_⟩
    subst rd
    have hpf : putF "facts" (.ref df) (fl2 lw lt) = (fl3 lw lt df) := by rw [pf_miss (by decide +kernel), pf_miss (by decide +kernel)]; rfl
    rw [hpf]
    have e7 := e25.trans (e1.trans e2)
    have b3 := (b2.trans e7).mut hp0 (o := .ins a.cGround dx (fl3 lw lt df))
    have c3 := upd_chg (Hb := Hb) (o' := .ins a.cGround dx (fl3 lw lt df)) (e7 _ _ x2) True.intro
    have x3 : (upd H2 p (.ins a.cGround dx (fl3 lw lt df))) p = some _ := upd_same
    have s3 := (s2.ex e7).chg c3 (hne (e7 _ _ x2) (s2.ex e7))
    have t3 := (t2.ex e7).chg c3 (hne (e7 _ _ x2) (t2.ex e7))
    have f3 : (upd H2 p (.ins a.cGround dx (fl3 lw lt df))) df = some (.dK []) := by
      rw [upd_ne (fun z => by rw [z, (e25 _ _ x2)] at hf0; cases hf0)]; exact e2 _ _ hf1
    have hf00 : Hb df = none := (b2.trans e25).free hf0
    generalize upd H2 p (.ins a.cGround dx (fl3 lw lt df)) = He at b3 x3 s3 t3 f3
    refine q_sfld (p := p) (C := a.cGround) e_dnewK (fun H1 e => e_is) fun v1 H1 e1 ⟨dc, rd, hf0, hf1⟩ => ⟨dx, _, e1 _ _ x3, T.gr, T.crossings, by simp, fun H2 e2 => ?_⟩
    subst rd
    have hpf : putF "crossings" (.ref dc) (fl3 lw lt df) = (fl4 lw lt df dc) := by rw [pf_miss (by decide +kernel), pf_miss (by decide +kernel), pf_miss (by decide +kernel)]; rfl
    rw [hpf]
    have e7 := e1.trans e2
    have b4 := (b3.trans e7).mut hp0 (o := .ins a.cGround dx (fl4 lw lt df dc))
    have c3 := upd_chg (Hb := Hb) (o' := .ins a.cGround dx (fl4 lw lt df dc)) (e7 _ _ x3) True.intro
    have x4 : (upd H2 p (.ins a.cGround dx (fl4 lw lt df dc))) p = some _ := upd_same
    have s4 := (s3.ex e7).chg c3 (hne (e7 _ _ x3) (s3.ex e7))
    have t4 := (t3.ex e7).chg c3 (hne (e7 _ _ x3) (t3.ex e7))
    have f4 : (upd H2 p (.ins a.cGround dx (fl4 lw lt df dc))) df = some (.dK []) := by
      rw [upd_ne (fun z => by rw [z, x3] at f3; cases f3)]; exact e7 _ _ f3
    have g4 : (upd H2 p (.ins a.cGround dx (fl4 lw lt df dc))) dc = some (.dK []) := by
      rw [upd_ne (fun z => by rw [z, x3] at hf0; cases hf0)]; exact e2 _ _ hf1
    have hc00 : Hb dc = none := b3.free hf0
    have hfc : df ≠ dc := fun z => by rw [← z, f3] at hf0; cases hf0
    generalize upd H2 p (.ins a.cGround dx (fl4 lw lt df dc)) = Hf at b4 x4 s4 t4 f4 g4
    refine s_sfld (p := p) (C := a.cGround) (e_int (i := 0)) (fun H1 e => e_is) fun v1 H1 e1 p1 => ⟨dx, _, e1 _ _ x4, T.gr, T.given, by simp, fun H2 e2 => ?_⟩
    cases p1.is_int
    have hpf : putF "given" (.int 0) (fl4 lw lt df dc) = gf ⟨p, dx, lw, lt, df, dc⟩ 0 := by rw [pf_miss (by decide +kernel), pf_miss (by decide +kernel), pf_miss (by decide +kernel), pf_miss (by decide +kernel)]; rfl
    rw [hpf]
    have e7 := e1.trans e2
    have c3 := upd_chg (Hb := Hb) (o' := .ins a.cGround dx (gf ⟨p, dx, lw, lt, df, dc⟩ 0)) (e7 _ _ x4) True.intro
    refine k ⟨p, dx, lw, lt, df, dc⟩ _ ((b4.trans e7).mut hp0) rfl hf00 hc00 hlw0 hlt0 ⟨upd_same, (s4.ex e7).chg c3 (hne (e7 _ _ x4) (s4.ex e7)), (t4.ex e7).chg c3 (hne (e7 _ _ x4) (t4.ex e7)), ⟨[], ?_, .nil⟩, ⟨[], ?_, .nil⟩, hfc⟩
    · rw [upd_ne (fun z => by have z : df = p := z; rw [z, x4] at f4; cases f4)]; exact e7 _ _ f4
    · rw [upd_ne (fun z => by have z : dc = p := z; rw [z, x4] at g4; cases g4)]; exact e7 _ _ g4
end
end TK

namespace TK
open PySem L2 PySem.Spec PyProof.Rows
open Enc (enc)
/-! ### things and links: plain facts -/
theorem nWB : nWalker ≠ nBegin := by decide +kernel
theorem nWE : nWalker ≠ nEnd := by decide +kernel
theorem nBE : nBegin ≠ nEnd := by decide +kernel
theorem mem_all {ws ths : List Nm} {t : Thing} : t ∈ allThings ws ths ↔ (t.1 = nWalker ∧ t.2 ∈ ws) ∨ (t.1 = nBegin ∧ t.2 ∈ ths) ∨ (t.1 = nEnd ∧ t.2 ∈ ths) := by
  unfold allThings
  simp only [List.mem_append, List.mem_map, List.mem_flatMap, List.mem_cons, List.not_mem_nil, or_false]
  constructor
  · rintro (⟨n, hn, rfl⟩ | ⟨n, hn, rfl | rfl⟩)
    · exact Or.inl ⟨rfl, (sortN_perm ws).mem_iff.mp hn⟩
    · exact Or.inr (Or.inl ⟨rfl, hn⟩)
    · exact Or.inr (Or.inr ⟨rfl, hn⟩)
  · obtain ⟨t1, t2⟩ := t
    rintro (⟨h1, h2⟩ | ⟨h1, h2⟩ | ⟨h1, h2⟩) <;> simp only at h1 h2 <;> subst h1
    · exact Or.inl ⟨t2, (sortN_perm ws).mem_iff.mpr h2, rfl⟩
    · exact Or.inr ⟨t2, h2, Or.inl rfl⟩
    · exact Or.inr ⟨t2, h2, Or.inr rfl⟩
theorem nd_all {ws ths : List Nm} (h1 : ws.Nodup) (h2 : ths.Nodup) : (allThings ws ths).Nodup := by
  unfold allThings
  refine List.nodup_append.mpr ⟨?_, ?_, ?_⟩
  · have : (sortN ws).Nodup := (sortN_perm ws).nodup_iff.mpr h1
    exact List.Pairwise.map _ (fun a b h e => h (Prod.ext_iff.mp e).2) this
  · clear h1
    induction ths with
    | nil => simp
    | cons n ns ih =>
      obtain ⟨h3, h4⟩ := List.nodup_cons.mp h2
      rw [List.flatMap_cons]
      refine List.nodup_append.mpr ⟨by simp; exact nBE, ih h4, fun x hx y hy e => ?_⟩
      subst e
      simp only [List.mem_flatMap, List.mem_cons, List.not_mem_nil, or_false] at hx hy
      obtain ⟨m, hm, hy⟩ := hy
      rcases hx with rfl | rfl <;> rcases hy with hy | hy <;> · exact h3 (by have e2 : n = m := (Prod.ext_iff.mp hy).2; rw [e2]; exact hm)
  · intro x hx y hy e
    subst e
    simp only [List.mem_map, List.mem_flatMap, List.mem_cons, List.not_mem_nil, or_false] at hx hy
    obtain ⟨n, _, rfl⟩ := hx
    obtain ⟨m, _, hy⟩ := hy
    rcases hy with hy | hy
    · exact nWB (Prod.ext_iff.mp hy).1
    · exact nWE (Prod.ext_iff.mp hy).1
theorem all_len (ws ths : List Nm) : (allThings ws ths).length = ws.length + 2 * ths.length := by
  unfold allThings
  rw [List.length_append, List.length_map, (sortN_perm ws).length_eq]
  congr 1
  induction ths with
  | nil => rfl
  | cons a as ih => rw [List.flatMap_cons, List.length_append, ih]; simp; omega
theorem wl_mem {ws ths : List Nm} {p : PairT} (h : p ∈ weatherLinks ths) : p.1 ∈ allThings ws ths ∧ p.2 ∈ allThings ws ths := by
  unfold weatherLinks at h
  obtain ⟨k, hk, rfl⟩ := List.mem_map.mp h
  rw [List.mem_range] at hk
  have aux : ∀ i, i < (allThings [] ths).length → (allThings [] ths).getD i (nWalker, nWalker) ∈ allThings ws ths := fun i hi => by
    rw [List.getD_eq_getElem?_getD, List.getElem?_eq_getElem hi]
    have := List.getElem_mem hi
    rw [mem_all] at this ⊢
    simp only [Option.getD_some]
    rcases this with ⟨_, q⟩ | q
    · cases q
    · exact Or.inr q
  exact ⟨aux _ (by omega), aux _ (by omega)⟩
theorem wl_len (ths : List Nm) : (weatherLinks ths).length = 2 * ths.length - 1 := by
  unfold weatherLinks
  rw [List.length_map, List.length_range, all_len]
  simp
theorem lo_mem {ws ths : List Nm} {f : Fact} (hf : isFact3 f ws ths = true) {p : PairT} (h : p ∈ linksOf f) : p.1 ∈ allThings ws ths ∧ p.2 ∈ allThings ws ths := by
  unfold isFact3 at hf
  simp only [Bool.and_eq_true, decide_eq_true_eq] at hf
  obtain ⟨⟨_, hb⟩, hc⟩ := hf
  unfold linksOf at h
  by_cases e : f.a = nOver
  · rw [if_pos e] at h hc
    simp only [Bool.and_eq_true, decide_eq_true_eq] at hc
    simp only [List.mem_cons, List.not_mem_nil, or_false] at h
    subst h
    exact ⟨mem_all.mpr (Or.inl ⟨rfl, hc.1⟩), mem_all.mpr (Or.inl ⟨rfl, hb⟩)⟩
  · rw [if_neg e] at h hc
    have hc : f.c ∈ ths := of_decide_eq_true hc
    split at h
    · simp only [List.mem_cons, List.not_mem_nil, or_false] at h
      subst h
      exact ⟨mem_all.mpr (Or.inl ⟨rfl, hb⟩), mem_all.mpr (Or.inr (Or.inl ⟨rfl, hc⟩))⟩
    · split at h
      · simp only [List.mem_cons, List.not_mem_nil, or_false] at h
        rcases h with rfl | rfl
        · exact ⟨mem_all.mpr (Or.inr (Or.inl ⟨rfl, hc⟩)), mem_all.mpr (Or.inl ⟨rfl, hb⟩)⟩
        · exact ⟨mem_all.mpr (Or.inl ⟨rfl, hb⟩), mem_all.mpr (Or.inr (Or.inr ⟨rfl, hc⟩))⟩
      · simp only [List.mem_cons, List.not_mem_nil, or_false] at h
        subst h
        exact ⟨mem_all.mpr (Or.inr (Or.inr ⟨rfl, hc⟩)), mem_all.mpr (Or.inl ⟨rfl, hb⟩)⟩
theorem lo_len (f : Fact) : (linksOf f).length ≤ 2 := by
  unfold linksOf
  split
  · simp
  · split
    · simp
    · split <;> simp
theorem la_len (fs : List (Int × Fact)) (n : Int) : (linksAt fs n).length ≤ 2 := by
  unfold linksAt
  split
  · simp
  · rw [List.length_map]; exact lo_len _
theorem fm_len {α β : Type} (f : α → List β) (m : Nat) : ∀ xs : List α, (∀ x ∈ xs, (f x).length ≤ m) → (xs.flatMap f).length ≤ m * xs.length
  | [], _ => by simp
  | x :: xs, h => by
    rw [List.flatMap_cons, List.length_append, List.length_cons, Nat.mul_add]
    have := fm_len f m xs fun y hy => h y (List.mem_cons_of_mem _ hy)
    have := h x (by simp)
    omega
section
variable {g : GS}
theorem GOk.ndT (h : GOk g) : g.things.Nodup := nd_all (List.nodup_append.mp h.nd).1 (List.nodup_append.mp h.nd).2.1
theorem GOk.lenT (h : GOk g) : g.things.length ≤ 14 := by
  unfold GS.things
  rw [all_len]
  have := h.lw
  have := h.lt
  omega
theorem GOk.factAt (h : GOk g) {n : Int} {f : Fact} (e : getA g.facts n = some f) : isFact3 f g.walkers g.weathers = true := h.facts n f (getA_mem e)
theorem GOk.links (h : GOk g) {wo : List Int} {k : LinkT} (hk : k ∈ allLinks g wo) : k.a ∈ g.things ∧ k.b ∈ g.things := by
  unfold allLinks at hk
  rcases List.mem_append.mp hk with q | q
  · obtain ⟨p, hp, rfl⟩ := List.mem_map.mp q
    exact wl_mem hp
  · obtain ⟨n, _, q⟩ := List.mem_flatMap.mp q
    split at q
    · cases q
    · unfold linksAt at q
      split at q
      · cases q
      · rename_i f hf
        obtain ⟨p, hp, rfl⟩ := List.mem_map.mp q
        exact lo_mem (h.factAt hf) hp
theorem GOk.lenF (h : GOk g) : g.facts.length ≤ 60 := by have := h.many; omega
theorem GOk.lenL (h : GOk g) (ns : List Int) (wo : List Int) (hn : ns.length ≤ 60) : (((weatherLinks g.weathers).map fun p : PairT => (⟨p.1, p.2, none⟩ : LinkT)) ++ ns.flatMap fun n => if n ∈ wo then [] else linksAt g.facts n).length ≤ 125 := by
  rw [List.length_append, List.length_map, wl_len]
  have := fm_len (fun n => if n ∈ wo then [] else linksAt g.facts n) 2 ns fun n _ => by split; simp; exact la_len _ _
  have := h.lt
  omega
end

section
variable {K : PySem.W.Frag} {a : Ad} {vs : List V} {H : Hp} {Q : VK} {E : XK}
/-! ### a new object -/
theorem e_make1 {σ : L2.St} {P1 P : VP} {ta : TE} {C : Addr} {sp : Sp} {E : XK} (h1 : EV ta σ H P1)
    (hs : ∀ x p dx H1, Ex H H1 → P1 x H1 → H1 p = none → H1 dx = none → dx ≠ p → ∀ Q : VK, (∀ H2, Ex H1 H2 → P (.ref p) H2 → Q .non H2) → sp [.ref p, x] (upd (upd H1 dx (.own p)) p (.ins C dx [])) Q E) : EV (tMake C sp [] E (tCons ta tNil)) σ H P := fun H1 e Q q =>
  h1 H1 e _ fun x H2 e2 p1 p dx hp hdx hne => hs x p dx H2 (e.trans e2) p1 hp hdx hne _ fun H3 e3 pp => ⟨rfl, q _ H3 (e2.trans e3) pp⟩
theorem ex_new2 {p dx : Addr} {o1 o2 : HO} (hp : H p = none) (hd : H dx = none) : Ex H (upd (upd H dx o1) p o2) := fun b o q => by
  rw [upd_ne (ne_of_none q hp), upd_ne (ne_of_none q hd)]; exact q
/-! ### another base -/
theorem NetN.rebase {C : Addr} {things : List Thing} {links : List LinkT} {Hb H2 : Hp} {p : Addr} (h : NetN C things links Hb H p) (eb : Ex Hb H) (e : Ex H H2) :
    ∃ Hb2, Ex Hb Hb2 ∧ Ex Hb2 H2 ∧ NetN C things links Hb2 H2 p ∧ TEx H2 Hb2 ∧ ∀ b, H b = none → Hb2 b = H2 b := by
  obtain ⟨dx, d, ls, h1, h2, h3, h4, h5, h6, h7, h8⟩ := h.ex
  have hl : ∀ l ∈ ls, ∃ us, H l = some (.lst us) := fun l hl => by
    obtain ⟨i, hi⟩ := List.getElem?_of_mem hl
    have hil : i < things.length := by rw [← h3]; exact (List.getElem?_eq_some_iff.mp hi).1
    obtain ⟨q, us, e1, e2, _⟩ := h5 i _ l (List.getElem?_eq_getElem hil) hi
    cases e1
    exact ⟨us, e2⟩
  let S := p :: d :: ls
  have hS : ∀ b ∈ S, Hb b = none ∧ ∃ o, H b = some o ∧ NoTup o := fun b hb => by
    rcases List.mem_cons.mp hb with q | q
    · subst q; exact ⟨h6, _, h1, True.intro⟩
    · rcases List.mem_cons.mp q with q | q
      · subst q; exact ⟨h7, _, h2, True.intro⟩
      · obtain ⟨us, hu⟩ := hl b q; exact ⟨h8 b q, _, hu, True.intro⟩
  refine ⟨fun b => if b ∈ S then none else H2 b, fun b o q => ?_, fun b o q => ?_, ⟨⟨dx, d, ls, e _ _ h1, e _ _ h2, h3, h4, fun i t l x y => (h5 i t l x y).ex e, if_pos (by simp [S]), if_pos (by simp [S]), fun l hl => if_pos (by simp [S, hl])⟩⟩, fun b xs q => ?_, fun b q => ?_⟩
  · have : b ∉ S := fun z => by rw [(hS b z).1] at q; cases q
    show (if b ∈ S then none else H2 b) = _
    rw [if_neg this]; exact e _ _ (eb _ _ q)
  · by_cases z : b ∈ S
    · simp only [if_pos z] at q; cases q
    · simp only [if_neg z] at q; exact q
  · have : b ∉ S := fun z => by
      obtain ⟨o, ho, nt⟩ := (hS b z).2
      rw [e _ _ ho] at q
      cases q
      exact nt
    show (if b ∈ S then none else H2 b) = _
    rw [if_neg this]; exact q
  · have : b ∉ S := fun z => by
      obtain ⟨o, ho, _⟩ := (hS b z).2
      rw [q] at ho; cases ho
    show (if b ∈ S then none else H2 b) = _
    rw [if_neg this]
theorem NetN.fresh {C : Addr} {things : List Thing} {links : List LinkT} {Hb H : Hp} {p : Addr} (h : NetN C things links Hb H p) : Hb p = none := let ⟨_, _, _, _, _, _, _, _, h6, _⟩ := h.ex; h6
theorem NetN.back {C : Addr} {things : List Thing} {links : List LinkT} {Hb Hb2 : Hp} {p : Addr} (h : NetN C things links Hb2 H p) (e : Ex Hb Hb2) : NetN C things links Hb H p :=
  let ⟨dx, d, ls, h1, h2, h3, h4, h5, h6, h7, h8⟩ := h.ex
  ⟨dx, d, ls, h1, h2, h3, h4, h5, e.free h6, e.free h7, fun l hl => e.free (h8 l hl)⟩
theorem NL.base {α : Type} [DecidableEq α] [Enc α] {xs : List α} {v : V} {H0 H1 Hb2 : Hp} (h : NL H0 xs v H1) (t : TEx H1 Hb2) (k : ∀ b, H0 b = none → Hb2 b = H1 b) : Ls xs v Hb2 := by
  obtain ⟨l, us, rfl, h0, h1, h2⟩ := h
  exact ⟨l, us, rfl, by rw [k l h0]; exact h1, tda_t t _ h2⟩
/-- what a loop that adds to a net keeps -/
structure Grow (C : Addr) (things : List Thing) (links : List LinkT) (Hb H : Hp) (p : Addr) (Hb2 : Hp) : Prop where
  e1 : Ex Hb Hb2
  e2 : Ex Hb2 H
  nt : NetN C things links Hb2 H p
/-- net.add(earlier, later, number), the values known -/
theorem e_netadd {σ : L2.St} {te t1 t2 t3 : TE} {things : List Thing} {links : List LinkT} {Hb : Hp} {p : Addr} {e l : Thing} {n : Option Int} (ho : EV te σ H (Is (.ref p))) (h1 : EV t1 σ H (D e)) (h2 : EV t2 σ H (D l)) (h3 : EV t3 σ H (D n)) (eb : Ex Hb H)
    (N : NetN a.cNet things links Hb H p) (he : e ∈ things) (nd : things.Nodup) (hz : links.length ≤ 1000) (Q : VK) (k : ∀ H', Ex Hb H' → TEx H H' → NetN a.cNet things (links ++ [⟨e, l, n⟩]) Hb H' p → Q .non H') :
    tMeth a.cNet "add" (sp_Net_add K a) [] E0 te (tCons t1 (tCons t2 (tCons t3 tNil))) σ H Q := by
  obtain ⟨dx, d, ls, q1, q2, _⟩ := N.ex
  refine ho.run fun x H1 e1 px => ?_
  cases px
  refine ⟨p, dx, _, rfl, e1 _ _ q1, (lk_miss (by decide +kernel)).trans rfl, h1 H1 e1 _ fun y1 H2 e2 d1 => h2 H2 (e1.trans e2) _ fun y2 H3 e3 d2 => h3 H3 ((e1.trans e2).trans e3) _ fun y3 H4 e4 d3 => ?_⟩
  have e14 := ((e1.trans e2).trans e3).trans e4
  exact ⟨Hb, p, things, links, e, l, n, y1, y2, y3, rfl, eb.trans e14, N.mono e14, d1.ex (e3.trans e4), d2.ex e4, d3, he, nd, hz, fun H' x1 x2 x3 => k H' x1 (e14.t.trans x2) x3⟩
end
end TK

namespace TK
open PySem L2 PySem.Spec PyProof.Rows
open Enc (enc)
section
variable {K : PySem.W.Frag} {a : Ad} {vs : List V} {H : Hp} {Q : VK} {E : XK}
abbrev tagL (n : Option Int) (ps : List PairT) : List LinkT := ps.map fun q => ⟨q.1, q.2, n⟩
theorem s_addLoop (T : ClT K a) {Z : Ends} {tl t3 : TE} {s0 s1 n5 x3 x4 : Option V} {p : Addr} {pairs : List PairT} {n : Option Int} {things : List Thing} {links : List LinkT} {Hb : Hp}
    (hl : EV tl [s0, s1, some (V.ref p), x3, x4, n5] H (NL H pairs)) (N : NetN a.cNet things links Hb H p) (eb : Ex Hb H) (h3 : ∀ x3 x4 H1, Ex Hb H1 → EV t3 [s0, s1, some (V.ref p), x3, x4, n5] H1 (D n)) (hm : ∀ q ∈ pairs, q.1 ∈ things) (nd : things.Nodup) (hz : links.length + pairs.length ≤ 1000)
    (k : ∀ x3 x4 H', Ex Hb H' → NetN a.cNet things (links ++ tagL n pairs) Hb H' p → Z.nx [s0, s1, some (V.ref p), x3, x4, n5] H') :
    tFor (iList K tl) (gTup K 2 (gCons (gName 3) (gCons (gName 4) gNil))) (tDrop (tMeth a.cNet "add" (sp_Net_add K a) [] E0 (tVar 2) (tCons (tVar 3) (tCons (tVar 4) (tCons t3 tNil))))) Z [s0, s1, some (V.ref p), x3, x4, n5] H := by
  refine s_for (α := PairT) hl (fun _ _ p => p.ls) (fun H2 v2 pre σ' H' => ∃ (Hb2 : Hp) (y3 y4 : Option V), σ' = [s0, s1, some (V.ref p), y3, y4, n5] ∧ Ex Hb Hb2 ∧ Ex Hb2 H' ∧ Ls pairs v2 Hb2 ∧ NetN a.cNet things (links ++ tagL n pre) Hb2 H' p) ?_ ?_ ?_ ?_
  · intro v2 H2 e2 p2
    obtain ⟨Hb2, b1, b2, b3, b4, b5⟩ := N.rebase eb e2
    exact ⟨Hb2, x3, x4, rfl, b1, b2, p2.base b4 b5, by rw [tagL, List.map_nil, List.append_nil]; exact b3⟩
  · rintro v2 H2 pre σ' H' e2 p2 ⟨Hb2, y3, y4, rfl, b1, b2, b3, b4⟩
    exact b3.ex b2
  · rintro v2 H2 pre ⟨x, y⟩ post w σ' H' e2 p2 hsp ⟨Hb2, y3, y4, rfl, b1, b2, b3, b4⟩ dw
    refine g_pair dw fun w1 w2 d1 d2 => ?_
    have hx : x ∈ things := hm (x, y) (by rw [hsp]; simp)
    have hlen : pre.length + 1 ≤ pairs.length := by rw [hsp]; simp
    refine e_netadd (K := K) (a := a) (e := x) (l := y) (n := n) (Hb := Hb2) e_is (e_var d1) (e_var d2) (h3 _ _ _ (b1.trans b2)) b2 b4 hx nd (by rw [List.length_append, List.length_map]; omega) _ fun H3 c1 c2 c3 => ?_
    refine ⟨Hb2, _, _, rfl, b1, c1, b3, ?_⟩
    rw [tagL, List.map_append, ← List.append_assoc]
    exact c3
  · rintro v2 H2 σ' H' e2 p2 ⟨Hb2, y3, y4, rfl, b1, b2, b3, b4⟩
    exact k _ _ _ (b1.trans b2) (b4.back b1)
theorem len_Ground_net (K : PySem.W.Frag) (a : Ad) : ∀ vs H Q E, sp_Ground_net K a vs H Q E → vs.length = 2 := fun _ _ _ _ ⟨_, _, _, _, e, _⟩ => by rw [e]; rfl
theorem p_Ground_net (T : ClT K a) (h : sp_Ground_net K a vs H Q E) : t_Ground_net K a (FinQ Q) (start ["self", "without", "found", "earlier", "later", "number"] vs) H := by
  obtain ⟨g, A, wo, v, rfl, G, ok, hwo, k⟩ := h
  have nd := ok.ndT
  have zw := ok.lw
  have zt := ok.lt
  have zl := ok.lenT
  have mk : EV (tMake a.cNet (sp_Net_init K a) [] E0 (tCons (tMeth a.cGround "things" (sp_Ground_things K a) [] E0 (tVar 0) tNil) tNil)) [some (V.ref A.p), some v, none, none, none, none] H (fun w H1 => ∃ p Hb, w = .ref p ∧ Ex H Hb ∧ Ex Hb H1 ∧ Hb p = none ∧ NetN a.cNet g.things [] Hb H1 p) := by
    refine e_make1 (P1 := NL H g.things) (e_meth0 e_is G.ins (gf_no _ _ (by decide +kernel) (by decide +kernel) (by decide +kernel) (by decide +kernel) (by decide +kernel)) fun H1 e Q q => ⟨g, A, rfl, G.ex e, by omega, by omega, fun x H' e' n => q x H' e' (n.back e)⟩) fun x p dx H1 e px hp hdx hne Q q => ?_
    exact ⟨H1, p, dx, g.things, x, rfl, ex_new2 hp hdx, hp, upd_same, px.ls, nd, by omega, fun H' e' N => q H' e' ⟨p, H1, rfl, e, e', hp, N⟩⟩
  refine q_set mk fun vp H1 e1 pp => ?_
  obtain ⟨p, Hb, rfl, eb0, eb1, hpb, N⟩ := pp
  have GH := G.ex eb0
  refine s_addLoop T (pairs := weatherLinks g.weathers) (n := none) (Hb := Hb) (things := g.things) (links := []) ?_ N eb1 (fun x3 x4 H2 e => e_non) (fun q hq => (wl_mem hq).1) nd (by rw [wl_len]; simp only [List.length_nil]; omega) fun x3 x4 H2 e2 N2 => ?_
  · refine e_call1 (P1 := Ls g.weathers) ((e_gf e_is (G.ex e1) T.gr T.weathers (gf_weathers _ _)).imp fun v H1 e p => by cases p; exact (G.ex e1).ts.ex e) fun x H2 e2 p2 Q q => ⟨_, x, rfl, p2, by omega, fun r H3 e3 n => q r H3 e3 (n.back e2)⟩
  rw [List.nil_append] at N2
  have G2 := GH.ex e2
  have hlF := ok.lenF
  have hks : (sortI (keysA g.facts)).length ≤ 60 := by rw [(sortI_perm _).length_eq, keysA, List.length_map]; exact hlF
  refine q_for (α := Int) (xs := sortI (keysA g.facts)) (P := NL H2 (sortI (keysA g.facts))) (e_sortedI (e_listD (e_gf e_is G2 T.gr T.facts (gf_facts _ _)) G2.fa).ls (by rw [keysA, List.length_map]; omega)) (fun _ _ p => p.ls)
    (fun H3 v3 pre σ' H' => ∃ (Hb2 : Hp) (y3 y4 y5 : Option V), σ' = [some (V.ref A.p), some v, some (V.ref p), y3, y4, y5] ∧ Ex Hb Hb2 ∧ Ex Hb2 H' ∧ Ls (sortI (keysA g.facts)) v3 Hb2 ∧ NetN a.cNet g.things (tagL none (weatherLinks g.weathers) ++ pre.flatMap fun n => if n ∈ wo then [] else linksAt g.facts n) Hb2 H' p) ?_ ?_ ?_ ?_
  · intro v3 H3 e3 p3
    obtain ⟨Hb2, b1, b2, b3, b4, b5⟩ := N2.rebase e2 e3
    exact ⟨Hb2, x3, x4, none, rfl, b1, b2, p3.base b4 b5, by rw [List.flatMap_nil, List.append_nil]; exact b3⟩
  · rintro v3 H3 pre σ' H' e3 p3 ⟨Hb2, y3, y4, y5, rfl, b1, b2, b3, b4⟩
    exact b3.ex b2
  · rintro v3 H3 pre n post w σ' H' e3 p3 hsp ⟨Hb2, y3, y4, y5, rfl, b1, b2, b3, b4⟩ dw
    cases dw.is_int
    have hn : n ∈ keysA g.facts := (sortI_perm _).mem_iff.mp (by rw [hsp]; simp)
    obtain ⟨f, hf⟩ := getA_some hn
    have hff := ok.factAt hf
    have hpl : pre.length ≤ 60 := by rw [hsp, List.length_append] at hks; omega
    have hll := ok.lenL pre wo hpl
    have G3 := GH.ex (b1.trans b2)
    unfold gName
    refine s_if (b_notin (α := Int) (e_var (D.of_int n _)) (e_var (P := Ls wo) (hwo.ex (eb0.trans (b1.trans b2))))) (fun c H4 e4 => ?_) fun c H4 e4 => ?_
    · have hnw : n ∉ wo := by
        intro z
        rw [memB_iff.mpr z] at c
        cases c
      have G4 := G3.ex e4
      refine s_addLoop T (pairs := linksOf f) (n := some n) (Hb := Hb2) (things := g.things) ?_ (b4.mono e4) (b2.trans e4) (fun x3 x4 H2 e => ?_) (fun q hq => (lo_mem hff hq).1) nd (Nat.le_trans (Nat.add_le_add hll (lo_len f)) (by decide)) fun z3 z4 H5 e5 N5 => ?_
      · refine e_call1 (P1 := D f) (e_dget (k := n) (e_gf e_is G4 T.gr T.facts (gf_facts _ _)) (e_var (D.of_int n _)) G4.fa hf) fun x H6 e6 p6 Q q => ⟨f, x, rfl, p6, fun r H7 e7 n => q r H7 e7 (n.back e6)⟩
      · exact e_v rfl fun H1 _ => Td.int n
      · refine ⟨Hb2, _, _, _, rfl, b1, e5, b3, ?_⟩
        have : (pre ++ [n]).flatMap (fun n => if n ∈ wo then [] else linksAt g.facts n) = pre.flatMap (fun n => if n ∈ wo then [] else linksAt g.facts n) ++ tagL (some n) (linksOf f) := by
          rw [List.flatMap_append, List.flatMap_singleton, if_neg hnw]
          unfold linksAt
          rw [hf]
        rw [this, ← List.append_assoc]
        exact N5
    · have hnw : n ∈ wo := by simpa [memB_iff] using c
      refine ⟨Hb2, _, _, _, rfl, b1, b2.trans e4, b3, ?_⟩
      have : (pre ++ [n]).flatMap (fun n => if n ∈ wo then [] else linksAt g.facts n) = pre.flatMap (fun n => if n ∈ wo then [] else linksAt g.facts n) := by
        rw [List.flatMap_append, List.flatMap_singleton, if_pos hnw, List.append_nil]
      rw [this]
      exact b4.mono e4
  · rintro v3 H3 σ' H' e3 p3 ⟨Hb2, y3, y4, y5, rfl, b1, b2, b3, b4⟩
    refine s_ret e_is fun x H4 e4 px => ?_
    cases px
    exact k p H4 (eb0.trans (b1.trans (b2.trans e4))) ((b4.mono e4).back (eb0.trans b1))
theorem len_Ground_pairs (K : PySem.W.Frag) (a : Ad) : ∀ vs H Q E, sp_Ground_pairs K a vs H Q E → vs.length = 1 := fun _ _ _ _ ⟨_, _, e, _⟩ => by rw [e]; rfl
theorem gm_no (A : GA) (n : Int) {m : Str} (h : (m == ("walkers" : Str)) = false ∧ (m == ("weathers" : Str)) = false ∧ (m == ("facts" : Str)) = false ∧ (m == ("crossings" : Str)) = false ∧ (m == ("given" : Str)) = false := by decide +kernel) : (gf A n).lookup m = none :=
  gf_no A n h.1 h.2.1 h.2.2.1 h.2.2.2.1 h.2.2.2.2
/-- self.net([]) -/
theorem e_gnet (T : ClT K a) {σ : L2.St} {te tw : TE} {g : GS} {A : GA} {wo : List Int} {P1 : VP} (h : EV te σ H (Is (.ref A.p))) (hw : EV tw σ H P1) (hP : ∀ v H1, P1 v H1 → Ls wo v H1) (G : GrAt a.cGround g A H) (ok : GOk g) :
    EV (tMeth a.cGround "net" (sp_Ground_net K a) [] E0 te (tCons tw tNil)) σ H (fun v H1 => ∃ p, v = .ref p ∧ H p = none ∧ NetAt a.cNet g.things (allLinks g wo) H1 p) :=
  e_meth1 (P1 := P1) h G.ins (gm_no _ _) hw fun x H1 e p Q q => ⟨g, A, wo, x, rfl, G.ex e, ok, hP x H1 p, fun r H2 e2 n => q _ H2 e2 ⟨r, rfl, e.free n.fresh, n.at⟩⟩
/-- .. whose objects are new -/
theorem e_gnetN (T : ClT K a) {σ : L2.St} {te tw : TE} {g : GS} {A : GA} {wo : List Int} {P1 : VP} (h : EV te σ H (Is (.ref A.p))) (hw : EV tw σ H P1) (hP : ∀ v H1, P1 v H1 → Ls wo v H1) (G : GrAt a.cGround g A H) (ok : GOk g) :
    EV (tMeth a.cGround "net" (sp_Ground_net K a) [] E0 te (tCons tw tNil)) σ H (fun v H1 => ∃ p, v = .ref p ∧ NetN a.cNet g.things (allLinks g wo) H H1 p) :=
  e_meth1 (P1 := P1) h G.ins (gm_no _ _) hw fun x H1 e p Q q => ⟨g, A, wo, x, rfl, G.ex e, ok, hP x H1 p, fun r H2 e2 n => q _ H2 e2 ⟨r, rfl, n.back e⟩⟩
/-- self.things() -/
theorem e_gthings (T : ClT K a) {σ : L2.St} {te : TE} {g : GS} {A : GA} (h : EV te σ H (Is (.ref A.p))) (G : GrAt a.cGround g A H) (ok : GOk g) :
    EV (tMeth a.cGround "things" (sp_Ground_things K a) [] E0 te tNil) σ H (NL H g.things) :=
  e_meth0 h G.ins (gm_no _ _) fun H1 e Q q => ⟨g, A, rfl, G.ex e, by have := ok.lw; omega, by have := ok.lt; omega, fun x H' e' n => q x H' e' (n.back e)⟩
instance {C : Addr} {things : List Thing} {links : List LinkT} : Mono (fun v H1 => ∃ p, v = .ref p ∧ NetAt C things links H1 p) := ⟨fun e ⟨p, h1, h2⟩ => ⟨p, h1, h2.mono e⟩⟩
instance {C : Addr} {things : List Thing} {links : List LinkT} {H : Hp} : Mono (fun v H1 => ∃ p, v = .ref p ∧ H p = none ∧ NetAt C things links H1 p) := ⟨fun e ⟨p, h1, h0, h2⟩ => ⟨p, h1, h0, h2.mono e⟩⟩
theorem p_Ground_pairs (T : ClT K a) (h : sp_Ground_pairs K a vs H Q E) : t_Ground_pairs K a (FinQ Q) (start ["self"] vs) H := by
  obtain ⟨g, A, rfl, G, ok, k⟩ := h
  refine s_ret (P := NL H g.pairs) (e_call2 (e_gnet T (wo := []) e_is e_nil (fun _ _ p => p.ls) G ok) (e_gthings T e_is G ok) fun x y H1 e p1 p2 Q q => ?_) fun x H1 e p => k x H1 e p
  obtain ⟨p, rfl, _, n⟩ := p1
  exact ⟨p, g.things, allLinks g [], y, rfl, n, p2.ls, ok.ndT, fun k hk => (ok.links hk).2, by have := ok.lenT; omega, fun r H2 e2 nn => q r H2 e2 (nn.back e)⟩
end
end TK

namespace TK
open PySem L2 PySem.Spec PyProof.Rows
open Enc (enc)
section
variable {K : PySem.W.Frag} {a : Ad} {vs : List V} {H : Hp} {Q : VK} {E : XK}
/-! ### ways and rings: plain facts -/
theorem Short.reach {L : List LinkT} {x y : Thing} {u : List LinkT} (h : Short L x y u) : Reach L x y := h.1.reach
theorem Short.len {L : List LinkT} {x y : Thing} {u u' : List LinkT} (h : Short L x y u) (h' : Short L x y u') : u.length = u'.length := Nat.le_antisymm (h.2 _ h'.1) (h'.2 _ h.1)
theorem Best.first {L : List LinkT} {es : List PairT} {e : PairT} {u : List LinkT} (hn : ∀ e' ∈ es, ¬ Reach L e'.2 e'.1) (h : Short L e.2 e.1 u) : Best L (es ++ [e]) e u :=
  ⟨es, [], rfl, h, fun e' he' u' hu' => absurd hu'.reach (hn e' he'), fun e' he' => by cases he'⟩
theorem Best.keep {L : List LinkT} {es : List PairT} {e e2 : PairT} {u : List LinkT} (h : Best L es e u) (hk : ∀ u', Short L e2.2 e2.1 u' → u.length ≤ u'.length) : Best L (es ++ [e2]) e u := by
  obtain ⟨pre, post, rfl, h1, h2, h3⟩ := h
  refine ⟨pre, post ++ [e2], by simp, h1, h2, fun e' he' u' hu' => ?_⟩
  rcases List.mem_append.mp he' with q | q
  · exact h3 e' q u' hu'
  · simp at q; subst q; exact hk u' hu'
theorem Best.less {L : List LinkT} {es : List PairT} {e e2 : PairT} {u u2 : List LinkT} (h : Best L es e u) (h2 : Short L e2.2 e2.1 u2) (hl : u2.length < u.length) : Best L (es ++ [e2]) e2 u2 := by
  obtain ⟨pre, post, rfl, h1, h3, h4⟩ := h
  refine ⟨_, [], rfl, h2, fun e' he' u' hu' => ?_, fun e' he' => by cases he'⟩
  rcases List.mem_append.mp he' with q | q
  · have := h3 e' q u' hu'; omega
  · rcases List.mem_cons.mp q with q | q
    · subst q; have := h1.len hu'; omega
    · have := h4 e' q u' hu'; omega
theorem lo_ne {ws ths : List Nm} {f : Fact} (hf : isFact3 f ws ths = true) {p : PairT} (h : p ∈ linksOf f) : p.1 ≠ p.2 := by
  unfold isFact3 at hf
  simp only [Bool.and_eq_true, decide_eq_true_eq] at hf
  obtain ⟨⟨_, hb⟩, hc⟩ := hf
  unfold linksOf at h
  by_cases e : f.a = nOver
  · rw [if_pos e] at h hc
    simp only [Bool.and_eq_true, decide_eq_true_eq, Bool.not_eq_true', decide_eq_false_iff_not] at hc
    simp only [List.mem_cons, List.not_mem_nil, or_false] at h
    subst h
    exact fun z => hc.2 (Prod.ext_iff.mp z).2
  · rw [if_neg e] at h
    split at h
    · simp only [List.mem_cons, List.not_mem_nil, or_false] at h
      subst h
      exact fun z => nWB (Prod.ext_iff.mp z).1
    · split at h
      · simp only [List.mem_cons, List.not_mem_nil, or_false] at h
        rcases h with rfl | rfl
        · exact fun z => nWB (Prod.ext_iff.mp z).1.symm
        · exact fun z => nWE (Prod.ext_iff.mp z).1
      · simp only [List.mem_cons, List.not_mem_nil, or_false] at h
        subst h
        exact fun z => nWE (Prod.ext_iff.mp z).1.symm
theorem closes_iff {g : GS} {f : Fact} : closes g f = true ↔ ∃ e ∈ linksOf f, Reach (allLinks g []) e.2 e.1 := by
  unfold closes
  rw [List.any_eq_true]
  exact exists_congr fun e => and_congr_right fun _ => reachB_iff
theorem nums_fm (u : List LinkT) : (u.filter fun k => k.c.isSome).map (fun k => k.c.getD 0) = u.filterMap (·.c) := by
  induction u with
  | nil => rfl
  | cons k ks ih =>
    obtain ⟨x, y, c⟩ := k
    cases c with
    | none => rw [List.filter_cons_of_neg (by simp), List.filterMap_cons_none rfl]; exact ih
    | some n => rw [List.filter_cons_of_pos (by simp), List.map_cons, ih]; rfl
theorem optI_non {r : Option Int} {v : V} {H : Hp} (h : D r v H) : decide (v = .non) = !r.isSome := by
  cases r with
  | none =>
    have h : Td H v .none := h
    cases h
    rfl
  | some n =>
    have h : Td H v (.int n) := h
    cases h
    rfl
theorem ref_non (p : Addr) : decide (V.ref p = .non) = false := rfl
/-- the ways out of a net, told -/
def WayR (L : List LinkT) (b t : Thing) (m : Nat) (H0 : Hp) : VP := fun v H1 => (v = .non ∧ (b = t ∨ ¬ Reach L b t)) ∨ ∃ u, b ≠ t ∧ Short L b t u ∧ u.length ≤ m ∧ NL H0 u v H1
instance {L : List LinkT} {b t : Thing} {m : Nat} {H0 : Hp} : Mono (WayR L b t m H0) := ⟨fun e h => h.imp id fun ⟨u, h1, h2, h4, h3⟩ => ⟨u, h1, h2, h4, h3.ex e⟩⟩
theorem e_way {σ : L2.St} {te t1 t2 : TE} {p : Addr} {things : List Thing} {L : List LinkT} {b t : Thing} (ho : EV te σ H (Is (.ref p))) (N : NetAt a.cNet things L H p) (h1 : EV t1 σ H (D b)) (h2 : EV t2 σ H (D t)) (hb : b ∈ things) (nd : things.Nodup) (hl : ∀ k ∈ L, k.b ∈ things) (hz : things.length ≤ 1000) :
    EV (tMeth a.cNet "way" (sp_Net_way K a) [] E0 te (tCons t1 (tCons t2 tNil))) σ H (WayR L b t things.length H) := by
  obtain ⟨dx, d, ls, q1, _⟩ := N.ex
  exact e_meth2 (P1 := D b) (P2 := D t) ho q1 ((lk_miss (by decide +kernel)).trans rfl) h1 h2 fun x y H1 e p1 p2 Q q => ⟨p, things, L, b, t, x, y, rfl, N.mono e, p1, p2, hb, nd, hl, hz, fun r H2 e2 w => q r H2 e2 (w.imp id fun ⟨u, w1, w2, w4, w3⟩ => ⟨u, w1, w2, w4, w3.back e⟩)⟩
theorem len_Ground_ring_of (K : PySem.W.Frag) (a : Ad) : ∀ vs H Q E, sp_Ground_ring_of K a vs H Q E → vs.length = 2 := fun _ _ _ _ ⟨_, _, _, _, e, _⟩ => by rw [e]; rfl
theorem p_Ground_ring_of (T : ClT K a) (h : sp_Ground_ring_of K a vs H Q E) : t_Ground_ring_of K a (FinQ Q) (start ["self", "fact", "net", "best", "earlier", "later", "way", "one", "other", "number"] vs) H := by
  obtain ⟨g, A, f, v, rfl, G, ok, df, hf, k⟩ := h
  have zl := ok.lenT
  refine q_set (e_gnet T (wo := []) e_is e_nil (fun _ _ p => p.ls) G ok) fun vn H1 e1 pn => ?_
  obtain ⟨p, rfl, _, N⟩ := pn
  refine q_set e_c fun vb H2 e2 pb => ?_
  cases pb
  have N2 := N.mono e2
  refine q_for (α := PairT) (xs := linksOf f) (P := NL H2 (linksOf f)) (e_call1 (P1 := D f) (e_var (df.ex (e1.trans e2))) fun x H3 e3 p3 Q q => ⟨f, x, rfl, p3, fun r H4 e4 n => q r H4 e4 (n.back e3)⟩) (fun _ _ p => p.ls)
    (fun H3 v3 pre σ' H' => ∃ (vb : V) (n4 n5 n6 : Option V), σ' = [some (.ref A.p), some v, some (.ref p), some vb, n4, n5, n6, none, none, none] ∧ Ex H3 H' ∧ ((vb = .non ∧ ∀ e ∈ pre, ¬ Reach (allLinks g []) e.2 e.1) ∨ ∃ e u, Best (allLinks g []) pre e u ∧ u.length ≤ 14 ∧ Ls u vb H')) ?_ ?_ ?_ ?_
  · exact fun v3 H3 e3 p3 => ⟨_, _, _, _, rfl, Ex.refl _, Or.inl ⟨rfl, by simp⟩⟩
  · rintro v3 H3 pre σ' H' e3 p3 ⟨vb, n4, n5, n6, rfl, e4, hb⟩
    exact p3.ls.ex e4
  · rintro v3 H3 pre ⟨x, y⟩ post w σ' H' e3 p3 hsp ⟨vb, n4, n5, n6, rfl, e4, hb⟩ dw
    have hm : (x, y) ∈ linksOf f := by rw [hsp]; simp
    have hne : y ≠ x := fun z => lo_ne hf hm z.symm
    refine g_pair dw fun w1 w2 d1 d2 => ?_
    refine q_set (e_way (K := K) (a := a) e_is (N2.mono (e3.trans e4)) (e_var d2) (e_var d1) (lo_mem hf hm).2 ok.ndT (fun k hk => (ok.links hk).2) (by omega)) fun v6 H5 e5 p6 => ?_
    have p6' := p6
    rcases p6 with ⟨rfl, hr⟩ | ⟨u, _, hs, hul, hu⟩
    · have hr : ¬ Reach (allLinks g []) y x := hr.resolve_left hne
      refine s_if (b_and (b := false) (b_notNP (b := false) e_is fun _ _ _ p => by cases p; rfl) fun h => by cases h) (fun h => by cases h) fun _ H6 e6 => ?_
      refine ⟨vb, _, _, _, rfl, e4.trans (e5.trans e6), ?_⟩
      rcases hb with ⟨rfl, hb⟩ | ⟨e, u, hb, hub, hu⟩
      · refine Or.inl ⟨rfl, fun e he => ?_⟩
        rcases List.mem_append.mp he with q | q
        · exact hb e q
        · simp at q; subst q; exact hr
      · exact Or.inr ⟨e, u, hb.keep fun u' hu' => absurd hu'.reach hr, hub, hu.ex (e5.trans e6)⟩
    · have hu6 := hu.ls
      obtain ⟨l6, us6, rfl, _, _⟩ := hu6
      have t1 : EB (tB (tNotN (tVar 6))) [some (.ref A.p), some v, some (.ref p), some vb, some w1, some w2, some (.ref l6), none, none, none] H5 true := b_notNP e_is fun _ _ _ p => by cases p; rfl
      rcases hb with ⟨rfl, hb⟩ | ⟨e, u0, hb, hub, hu0⟩
      · refine s_if (b_and (b := true) t1 fun _ => b_or (b := false) (b_isNP (b := true) e_is fun _ _ _ p => by cases p; rfl) fun h => by cases h) (fun _ H6 e6 => ?_) fun h => by cases h
        refine s_set (e_var (P := Ls u) (hu.ls.ex e6)) fun v7 H7 e7 p7 => ?_
        exact ⟨v7, _, _, _, rfl, e4.trans (e5.trans (e6.trans e7)), Or.inr ⟨(x, y), u, Best.first hb hs, by omega, p7⟩⟩
      · have hu0' := hu0
        obtain ⟨l3, us3, rfl, _, _⟩ := hu0'
        refine s_if (b_and (b := decide ((u.length : Int) < (u0.length : Int))) t1 fun _ => b_to (b_or (b_isNP (b := false) e_is fun _ _ _ p => by cases p; rfl) fun _ => b_I0 (g := fun i j => decide (i < j)) (e_len (α := LinkT) (e_var (P := Ls u) hu.ls)) (e_len (α := LinkT) (e_var (P := Ls u0) (hu0.ex e5)))) (by simp)) (fun c H6 e6 => ?_) fun c H6 e6 => ?_
        · have hlt : u.length < u0.length := by
            have c : decide ((u.length : Int) < (u0.length : Int)) = true := by simpa using c
            have := of_decide_eq_true c
            omega
          refine s_set (e_var (P := Ls u) (hu.ls.ex e6)) fun v7 H7 e7 p7 => ?_
          exact ⟨v7, _, _, _, rfl, e4.trans (e5.trans (e6.trans e7)), Or.inr ⟨(x, y), u, hb.less hs hlt, by omega, p7⟩⟩
        · have hge : ¬ u.length < u0.length := by
            have c : decide ((u.length : Int) < (u0.length : Int)) = false := by simpa using c
            have := of_decide_eq_false c
            omega
          exact ⟨_, _, _, _, rfl, e4.trans (e5.trans e6), Or.inr ⟨e, u0, hb.keep fun u' hu' => by have := hs.len hu'; omega, hub, hu0.ex (e5.trans e6)⟩⟩
  · rintro v3 H3 σ' H' e3 p3 ⟨vb, n4, n5, n6, rfl, e4, hb⟩
    rcases hb with ⟨rfl, hb⟩ | ⟨e, u, hb, hub, hu⟩
    · refine q_if (b_isNP (b := true) e_is fun _ _ _ p => by cases p; rfl) (fun _ H6 e6 => ?_) fun h => by cases h
      refine s_ret e_c fun x H7 e7 px => ?_
      cases px
      refine k _ H7 (e1.trans (e2.trans (e3.trans (e4.trans (e6.trans e7))))) (Or.inl ⟨rfl, ?_⟩)
      rw [← Bool.not_eq_true, closes_iff]
      rintro ⟨e, he, hr⟩
      exact hb e he hr
    · have hu' := hu
      obtain ⟨l3, us3, rfl, _, _⟩ := hu'
      refine q_if (b_isNP (b := false) e_is fun _ _ _ p => by cases p; rfl) (fun h => by cases h) fun _ H6 e6 => ?_
      refine s_ret (P := NL H6 (u.filterMap (·.c))) ?_ fun x H7 e7 px => ?_
      · rw [← nums_fm]
        refine e_lcG (α := LinkT) (β := Int) (fun k => k.c.getD 0) (fun k => k.c.isSome) (e_var (P := Ls u) (hu.ex e6)) ?_ fun ⟨k1, k2, k3⟩ w H7 hk e7 dk => ?_
        · omega
        · obtain ⟨x, y, z, _, _, dz, hg⟩ := g_t3X (K := K) (i := 7) (j := 8) (l := 9) dk
          refine ⟨_, fun H2 Q e q => hg _ H2 Q e q, rfl, b_notNP (b := k3.isSome) (P := D k3) (e_var dz) fun _ _ _ p => optI_non p, fun hs => ?_⟩
          cases k3 with
          | none => cases hs
          | some n => exact e_var (P := D n) dz
      · have he := e1.trans (e2.trans (e3.trans (e4.trans e6)))
        refine k x H7 (he.trans e7) (Or.inr ⟨_, ?_, ⟨e, u, hb, rfl⟩, px.back he⟩)
        obtain ⟨pre, post, hq, hs, _⟩ := hb
        exact closes_iff.mpr ⟨e, by rw [hq]; simp, hs.reach⟩
end
end TK

namespace TK
open PySem L2 PySem.Spec PyProof.Rows
open Enc (enc)
section
variable {K : PySem.W.Frag} {a : Ad} {vs : List V} {H H' : Hp} {Q : VK} {E : XK}
/-! ### dicts by numbers that change -/
section
variable {α : Type} [DecidableEq α] [Enc α] {σ : L2.St} {Z : Ends} {tr : TS} {ta tb te : TE} {d : Addr} {kvs : List (Int × α)} {x : Int} {z : α}
theorem q_Kput (h : EV te σ H (D z)) (hd : EV ta σ H (Is (.ref d))) (hx : EV tb σ H (D x)) (ha : DkAt H d kvs) (hz : kvs.length < 100000)
    (k : ∀ H1 H2, Ex H H1 → Chg [d] H1 H2 → DkAt H2 d (putA kvs x z) → tr Z σ H2) : tSeq (sDPut ta tb te) tr Z σ H :=
  h.run fun v H1 e p1 => hd H1 e _ fun y H2 e2 py => hx H2 (e.trans e2) _ fun w H3 e3 pz => by
    cases py
    cases pz.is_int
    obtain ⟨vs, h1, h2⟩ := ha.ex ((e.trans e2).trans e3)
    exact ⟨d, _, rfl, DPut.k (k := Sum.inl x) h1 (sz_lt (by rw [← prD_len h2]; exact hz)), k H3 _ ((e.trans e2).trans e3) (upd_chg (Hb := H3) h1 True.intro) (DkAt.put h1 h2 (p1.ex (e2.trans e3)))⟩
theorem s_Kput (h : EV te σ H (D z)) (hd : EV ta σ H (Is (.ref d))) (hx : EV tb σ H (D x)) (ha : DkAt H d kvs) (hz : kvs.length < 100000)
    (k : ∀ H1 H2, Ex H H1 → Chg [d] H1 H2 → DkAt H2 d (putA kvs x z) → Z.nx σ H2) : sDPut ta tb te Z σ H := q_Kput (tr := tNext) h hd hx ha hz k
theorem q_Kpop (hd : EV ta σ H (Is (.ref d))) (hx : EV tb σ H (D x)) (ha : DkAt H d kvs) (hk : x ∈ keysA kvs)
    (k : ∀ H1 H2, Ex H H1 → Chg [d] H1 H2 → DkAt H2 d (dropA kvs x) → tr Z σ H2) : tSeq (tDrop (tDPop1 ta tb)) tr Z σ H :=
  hd.run fun y H1 e py => by
    cases py
    obtain ⟨vs0, h0, _⟩ := ha.ex e
    refine ⟨d, rfl, Or.inl ⟨_, Or.inl h0⟩, hx H1 e _ fun w H2 e2 pz => ?_⟩
    cases pz.is_int
    obtain ⟨vs, h1, h2⟩ := ha.ex (e.trans e2)
    obtain ⟨z, hz⟩ := getA_some hk
    rcases prD_val inl_inj' h2 x with ⟨q, _⟩ | ⟨x', v', _, q, _⟩
    · rw [hz] at q; cases q
    · refine ⟨vs, Sum.inl x, v', h1, rfl, q, k H2 _ (e.trans e2) (upd_chg (Hb := H2) h1 True.intro) ⟨_, upd_same, ?_⟩⟩
      exact prD_t (TEx.upd h1 True.intro) (prD_drop inl_inj' h2 x)
theorem s_Kpop (hd : EV ta σ H (Is (.ref d))) (hx : EV tb σ H (D x)) (ha : DkAt H d kvs) (hk : x ∈ keysA kvs)
    (k : ∀ H1 H2, Ex H H1 → Chg [d] H1 H2 → DkAt H2 d (dropA kvs x) → Z.nx σ H2) : tDrop (tDPop1 ta tb) Z σ H := q_Kpop (tr := tNext) hd hx ha hk k
theorem e_dictK (hd : EV te σ H (Is (.ref d))) (ha : DkAt H d kvs) : EV (tCB rDictD (tCons te tNil)) σ H (fun v H1 => ∃ d', v = .ref d' ∧ H d' = none ∧ DkAt H1 d' kvs) := fun H1 e Q q =>
  hd H1 e _ fun v H2 e2 p => by
    cases p
    obtain ⟨vs, h1, h2⟩ := ha.ex (e.trans e2)
    exact ⟨d, vs, rfl, Or.inl h1, fun m hm => q _ _ (e2.trans (Ex.new hm)) ⟨m, rfl, e.free (e2.free hm), vs, upd_same, prD_t (TEx.new hm) h2⟩⟩
theorem dropA_not {κ α : Type} [DecidableEq κ] {kvs : List (κ × α)} {k : κ} (h : k ∉ keysA kvs) : dropA kvs k = kvs :=
  List.filter_eq_self.mpr fun p hp => decide_eq_true fun e => h (e ▸ List.mem_map.mpr ⟨p, hp, rfl⟩)
/-- t[int(c)] of a pair -/
theorem e_ixPB {x y : α} {b : Bool} (h1 : EV ta σ H (D (x, y))) (h2 : EV tb σ H (Is (.bl b))) : EV (tOp (rIxT K) ta (tCB rIntB (tCons tb tNil))) σ H (D (if b = true then y else x)) := by
  have h3 : EV (tCB rIntB (tCons tb tNil)) σ H (D (if b = true then (1 : Int) else 0)) := fun H1 e Q q => h2 H1 e _ fun v H2 e2 p => by
    cases p
    exact Or.inr ⟨b, rfl, q _ H2 e2 (by cases b <;> exact Td.int _)⟩
  refine e_op h1 h3 fun v w H1 e p p' Q q => ?_
  · cases p'.is_int
    have p : Td H1 v (.tuple [enc x, enc y]) := p
    cases p with
    | tup hp ha =>
      rename_i vs
      cases ha with
      | cons g1 g2 =>
        cases g2 with
        | cons g2 g3 =>
          cases b with
          | false => exact ⟨_, _, 0, _, rfl, rfl, st_of hp, atI_nat (j := 0) rfl, q _ H1 (Ex.refl H1) g1⟩
          | true => exact ⟨_, _, 1, _, rfl, rfl, st_of hp, atI_nat (j := 1) rfl, q _ H1 (Ex.refl H1) g2⟩
end
theorem tupN_sq {K : PySem.W.Frag} {ws : List Nm} {v : V} (h : TupN ws v H) : ∃ p, v = .ref p ∧ SqT K H p (ws.map fun w => V.str w.s) := by
  have h : Td H v (.tuple (ws.map enc)) := h
  cases h with
  | @tup p xs ds hp ha =>
    refine ⟨p, rfl, ?_⟩
    have : xs = ws.map fun w => V.str w.s := by
      clear hp h
      induction ws generalizing xs with
      | nil => cases ha; rfl
      | cons w ws ih =>
        rw [List.map_cons] at ha
        cases ha with
        | cons g1 g2 =>
          cases (show Td H _ (.str w.s) from g1)
          rw [ih g2]
          rfl
    rw [← this]
    exact st_of hp
/-! ### a ground changes -/
section
variable {C : Addr} {g : GS} {A : GA}
theorem GrAt.nl (G : GrAt C g A H) : A.lw ∉ [A.p, A.df, A.dc] ∧ A.lt ∉ [A.p, A.df, A.dc] := by
  obtain ⟨l1, u1, q1, w1, _⟩ := G.ws
  obtain ⟨l2, u2, q2, w2, _⟩ := G.ts
  obtain ⟨u3, w3, _⟩ := G.fa
  obtain ⟨u4, w4, _⟩ := G.cr
  cases q1
  cases q2
  have w0 := G.ins
  simp only [List.mem_cons, List.not_mem_nil, or_false, not_or]
  refine ⟨⟨?_, ?_, ?_⟩, ?_, ?_, ?_⟩ <;> intro z <;> simp_all
theorem GrAt.np (G : GrAt C g A H) : A.p ∉ [A.df, A.dc] := by
  obtain ⟨u3, w3, _⟩ := G.fa
  obtain ⟨u4, w4, _⟩ := G.cr
  have w0 := G.ins
  simp only [List.mem_cons, List.not_mem_nil, or_false, not_or]
  refine ⟨?_, ?_⟩ <;> intro z <;> simp_all
theorem GrAt.setFa (G : GrAt C g A H) {fs : List (Int × Fact)} (c : Chg [A.df] H H') (h : DkAt H' A.df fs) : GrAt C { g with facts := fs } A H' := by
  have n1 := G.nl
  have n2 := G.np
  have n3 := G.ne
  simp only [List.mem_cons, List.not_mem_nil, or_false, not_or] at n1 n2
  exact ⟨c.keep _ _ (by simpa using n2.1) G.ins, G.ws.chg c (by simpa using n1.1.2.1), G.ts.chg c (by simpa using n1.2.2.1), h, G.cr.chg c (by simpa using Ne.symm n3), n3⟩
theorem GrAt.setCr (G : GrAt C g A H) {fs : List (Int × (Nm × Nm))} (c : Chg [A.dc] H H') (h : DkAt H' A.dc fs) : GrAt C { g with cross := fs } A H' := by
  have n1 := G.nl
  have n2 := G.np
  have n3 := G.ne
  simp only [List.mem_cons, List.not_mem_nil, or_false, not_or] at n1 n2
  exact ⟨c.keep _ _ (by simpa using n2.2) G.ins, G.ws.chg c (by simpa using n1.1.2.2), G.ts.chg c (by simpa using n1.2.2.2), G.fa.chg c (by simpa using n3), h, n3⟩
theorem q_newnum (T : ClT K a) {σ : L2.St} {te : TE} (h : EV te σ H (Is (.ref A.p))) (G : GrAt a.cGround g A H) (k : ∀ H1 H', Ex H H1 → Chg [A.p] H1 H' → GrAt a.cGround { g with given := g.given + 1 } A H' → Q (.int g.given) H') :
    tMeth a.cGround "new_number" (sp_Ground_new_number K a) [] E0 te tNil σ H Q :=
  h.run fun x H1 e px => by
    cases px
    exact ⟨A.p, A.dx, _, rfl, (G.ex e).ins, gm_no _ _, g, A, rfl, G.ex e, fun H2 c G2 => k H1 H2 e c G2⟩
theorem e_full (T : ClT K a) {σ : L2.St} {te : TE} (h : EV te σ H (Is (.ref A.p))) (G : GrAt a.cGround g A H) :
    EB (tTest (tOp (rI0 fun i j => .bl (decide (j ≤ i))) (tOp (rI0 fun i j => .int (i + j)) (tLenD (tCons (tFld K te "facts") tNil)) (tLenD (tCons (tFld K te "crossings") tNil))) (tC (V.int 60)))) σ H g.full := by
  refine b_to (b_I0 (g := fun i j => decide (j ≤ i)) (e_I0 (g := fun i j => i + j) (e_lenD (e_gf h G T.gr T.facts (gf_facts _ _)) G.fa) (e_lenD (e_gf h G T.gr T.crossings (gf_crossings _ _)) G.cr)) (e_int (i := 60))) ?_
  unfold GS.full
  exact decide_eq_decide.mpr (by omega)
end
/-- raise Ring(row) -/
theorem s_ring (T : ClT K a) {Z : Ends} {σ : L2.St} {te : TE} {v : V} {row : List Int} (h : EV te σ H (Is v)) (hv : Ls row v H) (k : ∀ d H', Ex H H' → H d = none → H' d = some (.xd [("row", v)]) → E (.ref a.cRing) (some d) H') :
    tRaiseO a.cRing (sp_Ring_init K a) E (tCons te tNil) Z σ H :=
  h.run fun x H1 e px => by
    cases px
    refine ⟨by simp, fun e1 he1 => ⟨e1, v, row, rfl, upd_same, (hv.ex e).ex (Ex.new he1), fun dx hdx hne => ⟨rfl, dx, [("row", v)], upd_same, ?_, ?_, ?_⟩⟩⟩
    · rw [upd_ne hne, upd_same]
    · rw [upd_ne hne] at hdx; exact hdx
    · rw [upd_ne hne] at hdx
      refine k dx _ (fun b o q => ?_) (e.free hdx) upd_same
      have q1 := e _ _ q
      rw [upd_ne (ne_of_none q1 hdx), del_ne (ne_of_none q1 he1), upd_ne (ne_of_none q1 he1), upd_ne (ne_of_none q1 hdx), upd_ne (ne_of_none q1 he1)]
      exact q1
theorem e_ring (T : ClT K a) {σ : L2.St} {te tf : TE} {g : GS} {A : GA} {f : Fact} (h : EV te σ H (Is (.ref A.p))) (hf : EV tf σ H (D f)) (G : GrAt a.cGround g A H) (ok : GOk g) (hff : isFact3 f g.walkers g.weathers = true) :
    EV (tMeth a.cGround "ring_of" (sp_Ground_ring_of K a) [] E0 te (tCons tf tNil)) σ H (fun v H1 => (v = .non ∧ closes g f = false) ∨ ∃ row, closes g f = true ∧ RowOk g f row ∧ NL H row v H1) :=
  e_meth1 (P1 := D f) h G.ins (gm_no _ _) hf fun x H1 e p Q q => ⟨g, A, f, x, rfl, G.ex e, ok, p, hff, fun r H2 e2 w => q r H2 e2 (w.imp id fun ⟨row, w1, w2, w3⟩ => ⟨row, w1, w2, w3.back e⟩)⟩
theorem len_Ground_tell (K : PySem.W.Frag) (a : Ad) : ∀ vs H Q E, sp_Ground_tell K a vs H Q E → vs.length = 2 := fun _ _ _ _ ⟨_, _, _, _, e, _⟩ => by rw [e]; rfl
theorem p_Ground_tell (T : ClT K a) (h : sp_Ground_tell K a vs H Q E) : t_Ground_tell K a E (FinQ Q) (start ["self", "fact", "row", "number"] vs) H := by
  obtain ⟨g, A, xs, v, rfl, G, ok, hv, hz, k⟩ := h
  have hif : EV (tCall (sp_is_fact K a) [] E0 (tCons (tVar 1) (tCons (tFld K (tVar 0) "walkers") (tCons (tFld K (tVar 0) "weathers") tNil)))) [some (.ref A.p), some v, none, none] H (Is (.bl (isFactL xs g.walkers g.weathers))) :=
    e_call3 (P1 := TupN xs) (P2 := Ls g.walkers) (P3 := Ls g.weathers) (e_var hv) ((e_gf e_is G T.gr T.walkers (gf_walkers _ _)).imp fun v H1 e p => by cases p; exact G.ws.ex e) ((e_gf e_is G T.gr T.weathers (gf_weathers _ _)).imp fun v H1 e p => by cases p; exact G.ts.ex e)
      fun x y z H1 e p1 p2 p3 Q q => ⟨xs, _, _, x, y, z, rfl, p1, p2, p3, hz, fun H' e' => q _ H' e' rfl⟩
  refine q_if (b_not (b_val hif)) (fun c H1 e1 => ?_) fun c H1 e1 => ?_
  · have hw : doG g (.tell xs) = (.word wNoFact, g) := by
      unfold isFactL at c
      cases hfl : factL xs with
      | none => simp only [doG, hfl]
      | some f =>
        rw [hfl] at c
        have c : isFact3 f g.walkers g.weathers = false := by simpa using c
        simp only [doG, hfl]
        exact if_pos c
    unfold GAns at k
    rw [hw] at k
    exact k.1 rfl H1 e1
  obtain ⟨f, hfl, hff⟩ : ∃ f, factL xs = some f ∧ isFact3 f g.walkers g.weathers = true := by
    unfold isFactL at c
    cases hfl : factL xs with
    | none => rw [hfl] at c; cases c
    | some f => rw [hfl] at c; exact ⟨f, rfl, by simpa using c⟩
  have df : D f v H := by
    match xs, hfl with
    | [x, y, z], q =>
      cases q
      exact hv
  have G1 := G.ex e1
  have hd0 : doG g (.tell xs) = if g.full = true then (.word wFull, g) else if closes g f = true then (.word wRing, g) else (.num g.given, { g with facts := putA g.facts g.given f, given := g.given + 1 }) := by
    simp only [doG, hfl]
    rw [if_neg (by rw [hff]; decide)]
  refine q_if (e_full T e_is G1) (fun c2 H2 e2 => ?_) fun c2 H2 e2 => ?_
  · have hw : doG g (.tell xs) = (.word wFull, g) := by rw [hd0, if_pos c2]
    unfold GAns at k
    rw [hw] at k
    exact k.2.2.1 rfl H2 (e1.trans e2)
  have G2 := G1.ex e2
  have hnf : ¬ (g.full = true) := by rw [c2]; decide
  rw [if_neg hnf] at hd0
  refine q_set (e_ring T e_is (e_var (df.ex (e1.trans e2))) G2 ok hff) fun v2 H3 e3 p3 => ?_
  rcases p3 with ⟨rfl, hc⟩ | ⟨row, hc, hro, hrow⟩
  · rw [if_neg (by rw [hc]; decide)] at hd0
    unfold GAns at k
    rw [hd0] at k
    refine q_if (b_notNP (b := false) e_is fun _ _ _ p => by cases p; rfl) (fun h => by cases h) fun _ H4 e4 => ?_
    have G4 := G2.ex (e3.trans e4)
    have dfv := df.ex (e1.trans (e2.trans (e3.trans e4)))
    refine q_newnum T e_is G4 fun H5 H6 e5 c6 G6 => ?_
    have hfl := ok.lenF
    refine q_Kput (α := Fact) (x := g.given) (z := f) (e_var ((dfv.ex e5).t c6.tup)) (e_gf e_is G6 T.gr T.facts (gf_facts _ _)) (e_v rfl fun H1 _ => Td.int _) G6.fa (by show g.facts.length < 100000; omega) fun H7 H8 e7 c8 d8 => ?_
    refine s_ret e_is fun x H9 e9 px => ?_
    cases px
    have eA := e1.trans (e2.trans (e3.trans (e4.trans e5)))
    refine k H9 ((((Chg.of_ex eA).trans (c6.mono (by simp))).trans (Chg.of_ex e7)).trans ((c8.mono (by simp)).trans (Chg.of_ex e9))) ?_
    exact ((G6.ex e7).setFa c8 d8).ex e9
  · rw [if_pos hc] at hd0
    unfold GAns at k
    rw [hd0] at k
    obtain ⟨l, us, rfl, _, _⟩ := hrow.ls
    refine q_if (b_notNP (b := true) e_is fun _ _ _ p => by cases p; rfl) (fun _ H4 e4 => ?_) fun h => by cases h
    have e34 := e1.trans (e2.trans (e3.trans e4))
    exact s_ring T e_is (hrow.ls.ex e4) fun d H5 e5 hd hd5 => k.2.2.2 rfl f row d _ H5 hfl hro (e34.trans e5) (e34.free hd) hd5 ((hrow.ex (e4.trans e5)).back (e1.trans e2))
theorem len_Ground_cross (K : PySem.W.Frag) (a : Ad) : ∀ vs H Q E, sp_Ground_cross K a vs H Q E → vs.length = 3 := fun _ _ _ _ ⟨_, _, _, _, e, _⟩ => by rw [e]; rfl
theorem p_Ground_cross (T : ClT K a) (h : sp_Ground_cross K a vs H Q E) : t_Ground_cross K a E (FinQ Q) (start ["self", "one", "other", "number"] vs) H := by
  obtain ⟨g, A, x, y, rfl, G, ok, k⟩ := h
  have fw : EV (tFld K (tVar 0) "walkers") [some (.ref A.p), some (.str x.s), some (.str y.s), none] H (Ls g.walkers) := (e_gf e_is G T.gr T.walkers (gf_walkers _ _)).imp fun v H1 e p => by cases p; exact G.ws.ex e
  refine q_if (b_or (b_notin (α := Nm) (e_var (D.of_nm x H)) fw) fun _ => b_or (b_notin (α := Nm) (e_var (D.of_nm y H)) fw) fun _ => b_eq (α := Nm) (K := K) (e_var (D.of_nm x H)) (e_var (D.of_nm y H))) (fun c H1 e1 => ?_) fun c H1 e1 => ?_
  · have hc : x ∉ g.walkers ∨ y ∉ g.walkers ∨ x = y := by
      simp only [Bool.or_eq_true, Bool.not_eq_true', decide_eq_true_eq] at c
      exact c.imp (fun q z => by rw [memB_iff.mpr z] at q; cases q) fun c => c.imp (fun q z => by rw [memB_iff.mpr z] at q; cases q) id
    have hw : doG g (.cross x y) = (.word wNoFact, g) := if_pos hc
    unfold GAns at k
    rw [hw] at k
    exact k.1 rfl H1 e1
  have hc : ¬ (x ∉ g.walkers ∨ y ∉ g.walkers ∨ x = y) := by
    simp only [Bool.or_eq_false_iff, Bool.not_eq_false', decide_eq_false_iff_not, memB_iff] at c
    rintro (q | q | q)
    · exact q c.1
    · exact q c.2.1
    · exact c.2.2 q
  have hd0 : doG g (.cross x y) = if g.full = true then (.word wFull, g) else (.num g.given, { g with cross := putA g.cross g.given (x, y), given := g.given + 1 }) := if_neg hc
  have G1 := G.ex e1
  refine q_if (e_full T e_is G1) (fun c2 H2 e2 => ?_) fun c2 H2 e2 => ?_
  · have hw : doG g (.cross x y) = (.word wFull, g) := by rw [hd0, if_pos c2]
    unfold GAns at k
    rw [hw] at k
    exact k.2.2.1 rfl H2 (e1.trans e2)
  rw [if_neg (by rw [c2]; decide)] at hd0
  unfold GAns at k
  rw [hd0] at k
  have G2 := G1.ex e2
  refine q_newnum T e_is G2 fun H5 H6 e5 c6 G6 => ?_
  have hcl : g.cross.length ≤ 60 := by have := ok.many; omega
  refine q_Kput (α := Nm × Nm) (x := g.given) (z := (x, y)) (e_pair (e_var (D.of_nm x _)) (e_var (D.of_nm y _))) (e_gf e_is G6 T.gr T.crossings (gf_crossings _ _)) (e_v rfl fun H1 _ => Td.int _) G6.cr (by show g.cross.length < 100000; omega) fun H7 H8 e7 c8 d8 => ?_
  refine s_ret e_is fun x H9 e9 px => ?_
  cases px
  refine k H9 ((((Chg.of_ex (e1.trans (e2.trans e5))).trans (c6.mono (by simp))).trans (Chg.of_ex e7)).trans ((c8.mono (by simp)).trans (Chg.of_ex e9))) ?_
  exact ((G6.ex e7).setCr c8 d8).ex e9
theorem len_Ground_take (K : PySem.W.Frag) (a : Ad) : ∀ vs H Q E, sp_Ground_take K a vs H Q E → vs.length = 2 := fun _ _ _ _ ⟨_, _, _, e, _⟩ => by rw [e]; rfl
theorem p_Ground_take (T : ClT K a) (h : sp_Ground_take K a vs H Q E) : t_Ground_take K a E (FinQ Q) (start ["self", "number"] vs) H := by
  obtain ⟨g, A, n, rfl, G, ok, k⟩ := h
  have hn : ∀ {H1 : Hp}, EV (tVar 1) [some (.ref A.p), some (.int n)] H1 (D n) := fun {H1} => e_var (D.of_int n H1)
  have nd := List.nodup_append.mp ok.keys
  refine s_if (b_din hn (e_gf e_is G T.gr T.facts (gf_facts _ _)) G.fa) (fun c H1 e1 => ?_) fun c H1 e1 => ?_
  · have hm := memB_iff.mp c
    have hnc : n ∉ keysA g.cross := fun z => nd.2.2 n hm n z rfl
    have hw : doG g (.take n) = (.non, { g with facts := dropA g.facts n, cross := dropA g.cross n }) := if_neg fun z => z.1 hm
    rw [dropA_not hnc] at hw
    unfold GAns at k
    rw [hw] at k
    have G1 := G.ex e1
    refine s_Kpop (e_gf e_is G1 T.gr T.facts (gf_facts _ _)) hn G1.fa hm fun H2 H3 e2 c3 d3 => ?_
    exact k H3 ((Chg.of_ex (e1.trans e2)).trans (c3.mono (by simp))) ((G1.ex e2).setFa c3 d3)
  have hnf : n ∉ keysA g.facts := fun z => by rw [memB_iff.mpr z] at c; cases c
  have G1 := G.ex e1
  refine s_if (b_din hn (e_gf e_is G1 T.gr T.crossings (gf_crossings _ _)) G1.cr) (fun c H2 e2 => ?_) fun c H2 e2 => ?_
  · have hm := memB_iff.mp c
    have hw : doG g (.take n) = (.non, { g with facts := dropA g.facts n, cross := dropA g.cross n }) := if_neg fun z => z.2 hm
    rw [dropA_not hnf] at hw
    unfold GAns at k
    rw [hw] at k
    have G2 := G1.ex e2
    refine s_Kpop (e_gf e_is G2 T.gr T.crossings (gf_crossings _ _)) hn G2.cr hm fun H3 H4 e3 c4 d4 => ?_
    exact k H4 ((Chg.of_ex (e1.trans (e2.trans e3))).trans (c4.mono (by simp))) ((G2.ex e3).setCr c4 d4)
  · have hnc : n ∉ keysA g.cross := fun z => by rw [memB_iff.mpr z] at c; cases c
    have hw : doG g (.take n) = (.word wNoSuch, g) := if_pos ⟨hnf, hnc⟩
    unfold GAns at k
    rw [hw] at k
    exact k.2.1 rfl H2 (e1.trans e2)
theorem len_Ground_settle (K : PySem.W.Frag) (a : Ad) : ∀ vs H Q E, sp_Ground_settle K a vs H Q E → vs.length = 3 := fun _ _ _ _ ⟨_, _, _, _, e, _⟩ => by rw [e]; rfl
instance : Mono (TupN ([] : List Nm)) := inferInstance
theorem p_Ground_settle (T : ClT K a) (h : sp_Ground_settle K a vs H Q E) : t_Ground_settle K a E (FinQ Q) (start ["self", "number", "over", "pair", "under", "row"] vs) H := by
  obtain ⟨g, A, n, o, rfl, G, ok, k⟩ := h
  refine q_if (b_dnotin (k := n) (e_var (D.of_int n H)) (e_gf e_is G T.gr T.crossings (gf_crossings _ _)) G.cr) (fun c H1 e1 => ?_) fun c H1 e1 => ?_
  · have hg : getA g.cross n = none := by
      have := getA_isSome g.cross n
      rw [(by simpa using c : memB n (keysA g.cross) = false)] at this
      simpa using this
    have hw : doG g (.settle n o) = (.word wNoSuch, g) := by simp only [doG, hg]
    unfold GAns at k
    rw [hw] at k
    exact k.2.1 rfl H1 e1
  have hm : n ∈ keysA g.cross := by simpa [memB_iff] using c
  obtain ⟨⟨c1, c2⟩, hg⟩ := getA_some hm
  obtain ⟨hc1, hc2, hne⟩ := ok.cross n _ (getA_mem hg)
  simp only at hc1 hc2 hne
  have G1 := G.ex e1
  have hd0 : doG g (.settle n o) = if o ≠ c1 ∧ o ≠ c2 then (.word wNoFact, g) else if closes g ⟨nOver, o, if o = c1 then c2 else c1⟩ = true then (.word wRing, g)
      else (.num n, { g with cross := dropA g.cross n, facts := putA g.facts n ⟨nOver, o, if o = c1 then c2 else c1⟩ }) := by simp only [doG, hg]
  refine q_set (e_dget (k := n) (e_gf e_is G1 T.gr T.crossings (gf_crossings _ _)) (e_var (D.of_int n _)) G1.cr hg) fun vp H2 e2 dp => ?_
  have hpt : ∀ {H3 : Hp} {v : V}, D (c1, c2) v H3 → TupN [c1, c2] v H3 := fun h => h
  refine q_if (b_inTn (K := K) (n := o) (ws := [c1, c2]) (neg := true) (P' := TupN [c1, c2]) (e_var (D.of_nm o _)) (e_var (hpt dp)) fun y H3 e3 p3 => tupN_sq p3) (fun c3 H3 e3 => ?_) fun c3 H3 e3 => ?_
  · have hc3 : o ≠ c1 ∧ o ≠ c2 := by simpa using c3
    rw [if_pos hc3] at hd0
    unfold GAns at k
    rw [hd0] at k
    exact k.1 rfl H3 (e1.trans (e2.trans e3))
  have hc3 : ¬ (o ≠ c1 ∧ o ≠ c2) := fun z => by
    have : decide (o ∈ [c1, c2]) = true := by
      cases hd : decide (o ∈ [c1, c2]) with
      | true => rfl
      | false => rw [hd] at c3; cases c3
    rcases List.mem_cons.mp (of_decide_eq_true this) with q | q
    · exact z.1 q
    · exact z.2 (by simpa using q)
  rw [if_neg hc3] at hd0
  have ho : o = c1 ∨ o = c2 := by
    by_cases q : o = c1
    · exact Or.inl q
    · exact Or.inr (Decidable.not_not.mp fun z => hc3 ⟨q, z⟩)
  have und : EV (tOp (rIxT K) (tVar 3) (tCB (rIntB) (tCons (tOp (rEqD K) (tVar 2) (tOp (rIxT K) (tVar 3) (tC (.int 0)))) tNil))) [some (.ref A.p), some (.int n), some (.str o.s), some vp, none, none] H3 (D (if o = c1 then c2 else c1)) := by
    have h1 : EV (tVar 3) [some (.ref A.p), some (.int n), some (.str o.s), some vp, none, none] H3 (D (c1, c2)) := e_var (dp.ex e3)
    have h0 : EV (tVar 2) [some (.ref A.p), some (.int n), some (.str o.s), some vp, none, none] H3 (D o) := e_var (D.of_nm o _)
    have h2 := e_ixPB (K := K) (x := c1) (y := c2) h1 (e_eqB (K := K) (α := Nm) (a := o) (b := c1) h0 (e_ixP0 (K := K) h1))
    simpa only [decide_eq_true_eq] using h2
  refine q_set und fun vu H4 e4 du => ?_
  generalize hu : (if o = c1 then c2 else c1) = u at *
  have hou : o ∈ g.walkers ∧ u ∈ g.walkers ∧ u ≠ o := by
    rcases ho with rfl | rfl
    · rw [if_pos rfl] at hu; subst hu; exact ⟨hc1, hc2, fun z => hne z.symm⟩
    · rw [if_neg (fun z => hne z.symm)] at hu; subst hu; exact ⟨hc2, hc1, hne⟩
  have hff : isFact3 ⟨nOver, o, u⟩ g.walkers g.weathers = true := by
    unfold isFact3
    rw [if_pos rfl, decide_eq_true hou.1, decide_eq_true hou.2.1, decide_eq_false hou.2.2]
    rfl
  have e14 := e1.trans (e2.trans (e3.trans e4))
  have G4 := G.ex e14
  have hsf : setF g n o = some ⟨nOver, o, u⟩ := by unfold setF; rw [hg]; simp only [Option.map_some, hu]
  refine q_set (e_ring T e_is (e_t3 (e_str nOver) (e_var (D.of_nm o _)) (e_var du)) G4 ok hff) fun v5 H5 e5 p5 => ?_
  rcases p5 with ⟨rfl, hcl⟩ | ⟨row, hcl, hro, hrow⟩
  · rw [if_neg (by rw [hcl]; decide)] at hd0
    unfold GAns at k
    rw [hd0] at k
    refine q_if (b_notNP (b := false) e_is fun _ _ _ p => by cases p; rfl) (fun h => by cases h) fun _ H6 e6 => ?_
    have G6 := G4.ex (e5.trans e6)
    have hfl := ok.lenF
    refine q_Kpop (x := n) (e_gf e_is G6 T.gr T.crossings (gf_crossings _ _)) (e_var (D.of_int n _)) G6.cr hm fun H7 H8 e7 c8 d8 => ?_
    have G8 := (G6.ex e7).setCr c8 d8
    have du8 := (du.ex (e5.trans (e6.trans e7))).t c8.tup
    refine q_Kput (α := Fact) (x := n) (z := ⟨nOver, o, u⟩) (e_t3 (e_str nOver) (e_var (D.of_nm o _)) (e_var du8)) (e_gf e_is G8 T.gr T.facts (gf_facts _ _)) (e_var (D.of_int n _)) G8.fa (by show g.facts.length < 100000; omega) fun H9 HA e9 cA dA => ?_
    refine s_ret e_is fun x HB eB px => ?_
    cases px
    refine k HB ((((Chg.of_ex (e14.trans (e5.trans (e6.trans e7)))).trans (c8.mono (by simp))).trans (Chg.of_ex e9)).trans ((cA.mono (by simp)).trans (Chg.of_ex eB))) ?_
    exact ((G8.ex e9).setFa cA dA).ex eB
  · rw [if_pos hcl] at hd0
    unfold GAns at k
    rw [hd0] at k
    obtain ⟨l, us, rfl, _, _⟩ := hrow.ls
    refine q_if (b_notNP (b := true) e_is fun _ _ _ p => by cases p; rfl) (fun _ H6 e6 => ?_) fun h => by cases h
    have e16 := e14.trans (e5.trans e6)
    exact s_ring T e_is (hrow.ls.ex e6) fun d H7 e7 hd hd7 => k.2.2.2 rfl _ row d _ H7 hsf hro (e16.trans e7) (e16.free hd) hd7 ((hrow.ex (e6.trans e7)).back e14)
theorem len_Ground_told (K : PySem.W.Frag) (a : Ad) : ∀ vs H Q E, sp_Ground_told K a vs H Q E → vs.length = 1 := fun _ _ _ _ ⟨_, _, e, _⟩ => by rw [e]; rfl
theorem p_Ground_told (T : ClT K a) (h : sp_Ground_told K a vs H Q E) : t_Ground_told K a (FinQ Q) (start ["self"] vs) H := by
  obtain ⟨g, A, rfl, G, k⟩ := h
  have h1 := e_dictK (σ := [some (.ref A.p)]) (e_gf (K := K) (te := tVar 0) e_is G T.gr T.facts (gf_facts _ _)) G.fa
  refine h1 H (Ex.refl _) _ fun v1 H1 e1 ⟨df, r1, f0, f1⟩ => ?_
  have h2 := e_dictK (σ := [some (.ref A.p)]) (e_gf (K := K) (te := tVar 0) e_is (G.ex e1) T.gr T.crossings (gf_crossings _ _)) (G.ex e1).cr
  refine h2 H1 (Ex.refl _) _ fun v2 H2 e2 ⟨dc, r2, c0, c1⟩ => ?_
  subst r1
  subst r2
  refine ⟨sz_of (by simp), fun t ht => k t df dc _ ((e1.trans e2).trans (Ex.new ht)) ((e1.trans e2).free ht) f0 (e1.free c0) ?_ upd_same ((f1.ex e2).ex (Ex.new ht)) (c1.ex (Ex.new ht))⟩
  intro z
  subst z
  obtain ⟨_, q, _⟩ := f1
  rw [q] at c0
  cases c0
end
end TK

namespace TK
open PySem L2 PySem.Spec PyProof.Rows
open Enc (enc)
/-! ### no ring ever stands -/
def Req (L : List LinkT) (x y : Thing) : Prop := x = y ∨ Reach L x y
theorem Req.step {L : List LinkT} {x y z : Thing} (h : Req L x y) (s : Step L y z) : Req L x z := by
  rcases h with rfl | h
  · exact Or.inr (.single s)
  · exact Or.inr (.tail h s)
theorem Req.trans {L : List LinkT} {x y z : Thing} (h : Req L x y) (k : Req L y z) : Req L x z := by
  rcases h with rfl | h
  · exact k
  · rcases k with rfl | k
    · exact Or.inr h
    · exact Or.inr (.trans h k)
theorem reach_add {L L' : List LinkT} {e : PairT} (hs : ∀ x y, Step L' x y → Step L x y ∨ (x, y) = e) (he : ¬ Req L e.2 e.1) {x y : Thing} (h : Reach L' x y) : Reach L x y ∨ (Req L x e.1 ∧ Req L e.2 y) := by
  unfold Reach at h
  induction h with
  | single s =>
    rcases hs _ _ s with q | q
    · exact Or.inl (.single q)
    · subst q; exact Or.inr ⟨Or.inl rfl, Or.inl rfl⟩
  | tail _ s ih =>
    rcases hs _ _ s with q | q
    · rcases ih with ih | ih
      · exact Or.inl (.tail ih q)
      · exact Or.inr ⟨ih.1, ih.2.step q⟩
    · subst q
      rcases ih with ih | ih
      · exact Or.inr ⟨Or.inr ih, Or.inl rfl⟩
      · exact absurd ih.2 he
theorem acyc_add {L L' : List LinkT} {e : PairT} (hs : ∀ x y, Step L' x y → Step L x y ∨ (x, y) = e) (he : ¬ Req L e.2 e.1) (ha : ∀ x, ¬ Reach L x x) (x : Thing) : ¬ Reach L' x x := fun h => by
  rcases reach_add hs he h with q | q
  · exact ha x q
  · exact he (q.2.trans q.1)
theorem reach_mono {L L' : List LinkT} (hs : ∀ x y, Step L' x y → Step L x y) {x y : Thing} (h : Reach L' x y) : Reach L x y := by
  unfold Reach at h
  induction h with
  | single s => exact .single (hs _ _ s)
  | tail _ s ih => exact .tail ih (hs _ _ s)
theorem step_iff {g : GS} {x y : Thing} : Step (allLinks g []) x y ↔ (x, y) ∈ weatherLinks g.weathers ∨ ∃ n f, getA g.facts n = some f ∧ (x, y) ∈ linksOf f := by
  unfold Step allLinks
  simp only [List.mem_append, List.mem_flatMap, List.not_mem_nil, if_false]
  constructor
  · rintro ⟨n, h | ⟨m, _, h⟩⟩
    · obtain ⟨p, hp, e⟩ := List.mem_map.mp h
      cases e
      exact Or.inl hp
    · unfold linksAt at h
      split at h
      · cases h
      · rename_i f hf
        obtain ⟨p, hp, e⟩ := List.mem_map.mp h
        cases e
        exact Or.inr ⟨m, f, hf, hp⟩
  · rintro (h | ⟨n, f, hf, h⟩)
    · exact ⟨none, Or.inl (List.mem_map.mpr ⟨_, h, rfl⟩)⟩
    · refine ⟨some n, Or.inr ⟨n, (sortI_perm _).mem_iff.mpr (List.mem_map.mpr ⟨_, getA_mem hf, rfl⟩), ?_⟩⟩
      unfold linksAt
      rw [hf]
      exact List.mem_map.mpr ⟨_, h, rfl⟩
/-- the links of one weather: its begin comes ahead of its end -/
theorem wl_be {ths : List Nm} {n : Nm} (h : n ∈ ths) : ((nBegin, n), (nEnd, n)) ∈ weatherLinks ths := by
  obtain ⟨i, hi⟩ := List.getElem?_of_mem h
  have aux : ∀ (ths : List Nm) (i : Nat) (n : Nm), ths[i]? = some n → (allThings [] ths)[2 * i]? = some (nBegin, n) ∧ (allThings [] ths)[2 * i + 1]? = some (nEnd, n) := by
    intro ths
    have e0 : sortN [] = [] := List.Perm.eq_nil (sortN_perm [])
    unfold allThings
    rw [e0, List.map_nil, List.nil_append]
    induction ths with
    | nil => intro i n h; simp at h
    | cons a as ih =>
      intro i n h
      cases i with
      | zero => simp at h; subst h; simp
      | succ i =>
        obtain ⟨h1, h2⟩ := ih i n (by simpa using h)
        rw [List.flatMap_cons]
        exact ⟨by rw [List.getElem?_append_right (by simp; omega)]; simpa [Nat.mul_add] using h1, by rw [List.getElem?_append_right (by simp; omega)]; simpa [Nat.mul_add] using h2⟩
  obtain ⟨h1, h2⟩ := aux ths i n hi
  have hl : i < ths.length := (List.getElem?_eq_some_iff.mp hi).1
  unfold weatherLinks
  refine List.mem_map.mpr ⟨2 * i, List.mem_range.mpr (by rw [all_len]; simp; omega), ?_⟩
  rw [List.getD_eq_getElem?_getD, List.getD_eq_getElem?_getD, h1, h2]
  rfl
theorem acyc_weather (ths : List Nm) (nd : ths.Nodup) (L : List LinkT) (hs : ∀ x y, Step L x y → (x, y) ∈ weatherLinks ths) (x : Thing) : ¬ Reach L x x := by
  have ndA : (allThings [] ths).Nodup := nd_all List.nodup_nil nd
  have st : ∀ x y, Step L x y → (allThings [] ths).idxOf x < (allThings [] ths).idxOf y := fun x y s => by
    have := hs x y s
    unfold weatherLinks at this
    obtain ⟨k, hk, e⟩ := List.mem_map.mp this
    rw [List.mem_range] at hk
    have h1 : k < (allThings [] ths).length := by omega
    have h2 : k + 1 < (allThings [] ths).length := by omega
    rw [List.getD_eq_getElem?_getD, List.getD_eq_getElem?_getD, List.getElem?_eq_getElem h1, List.getElem?_eq_getElem h2] at e
    simp only [Option.getD_some] at e
    cases e
    rw [ndA.idxOf_getElem k h1, ndA.idxOf_getElem (k + 1) h2]
    omega
  have all : ∀ x y, Reach L x y → (allThings [] ths).idxOf x < (allThings [] ths).idxOf y := fun x y h => by
    unfold Reach at h
    induction h with
    | single s => exact st _ _ s
    | tail _ s ih => have := st _ _ s; omega
  intro h
  have := all x x h
  omega
theorem acyc_fact {g : GS} {L : List LinkT} {f : Fact} (ok : GOk g) (hf : isFact3 f g.walkers g.weathers = true) (hc : closes g f = false) (hs : ∀ x y, Step L x y → Step (allLinks g []) x y ∨ (x, y) ∈ linksOf f) (x : Thing) : ¬ Reach L x x := by
  have hno : ∀ e ∈ linksOf f, ¬ Req (allLinks g []) e.2 e.1 := fun e he q => by
    rcases q with q | q
    · exact lo_ne hf he q.symm
    · have : closes g f = true := closes_iff.mpr ⟨e, he, q⟩
      rw [hc] at this
      cases this
  by_cases h1 : f.a = nOver ∨ f.a = nAhead ∨ f.a ≠ nAmid
  · obtain ⟨e, he⟩ : ∃ e, linksOf f = [e] := by
      unfold linksOf
      split
      · exact ⟨_, rfl⟩
      · split
        · exact ⟨_, rfl⟩
        · split
          · rcases h1 with q | q | q <;> contradiction
          · exact ⟨_, rfl⟩
    rw [he] at hs hno
    exact acyc_add (e := e) (fun x y s => (hs x y s).imp id fun q => by simpa using q) (hno e (by simp)) ok.acyc x
  · simp only [not_or, Decidable.not_not] at h1
    obtain ⟨h1, h2, h3⟩ := h1
    have he : linksOf f = [((nBegin, f.c), (nWalker, f.b)), ((nWalker, f.b), (nEnd, f.c))] := by
      unfold linksOf
      rw [if_neg h1, if_neg h2, if_pos h3]
    have hc : f.c ∈ g.weathers := by
      unfold isFact3 at hf
      rw [if_neg h1] at hf
      simp only [Bool.and_eq_true, decide_eq_true_eq] at hf
      exact hf.2
    have hbe : Reach (allLinks g []) (nBegin, f.c) (nEnd, f.c) := .single (step_iff.mpr (Or.inl (wl_be hc)))
    rw [he] at hs hno
    have n1 := hno _ (List.mem_cons_self)
    have n2 := hno _ (List.mem_cons_of_mem _ List.mem_cons_self)
    simp only at n1 n2
    have s1 : ∀ x y, Step (allLinks g [] ++ [⟨(nBegin, f.c), (nWalker, f.b), none⟩]) x y → Step (allLinks g []) x y ∨ (x, y) = ((nBegin, f.c), (nWalker, f.b)) := fun x y ⟨n, h⟩ => by
      rcases List.mem_append.mp h with q | q
      · exact Or.inl ⟨n, q⟩
      · simp only [List.mem_cons, List.not_mem_nil, or_false] at q; cases q; exact Or.inr rfl
    have a1 := acyc_add s1 n1 ok.acyc
    refine acyc_add (L := allLinks g [] ++ [⟨(nBegin, f.c), (nWalker, f.b), none⟩]) (e := ((nWalker, f.b), (nEnd, f.c))) (fun x y s => ?_) (fun q => ?_) a1 x
    · rcases hs x y s with q | q
      · obtain ⟨n, q⟩ := q
        exact Or.inl ⟨n, List.mem_append_left _ q⟩
      · simp only [List.mem_cons, List.not_mem_nil, or_false] at q
        rcases q with q | q
        · cases q; exact Or.inl ⟨none, List.mem_append_right _ (by simp)⟩
        · exact Or.inr q
    · rcases q with q | q
      · exact nWE (Prod.ext_iff.mp q).1.symm
      · rcases reach_add s1 n1 q with q | q
        · exact n2 (Or.inr q)
        · have := q.1
          rcases this with q | q
          · exact nBE (Prod.ext_iff.mp q).1.symm
          · exact ok.acyc _ (.trans hbe q)
/-! ### a ground stays good -/
theorem GOk.new {ws ths : List Nm} (h : NamesOk ws ths) : GOk (newG ws ths) where
  lw := h.lw
  lt := h.lt
  nd := h.nd
  keys := by simp [newG, keysA]
  low := by simp [newG, keysA]
  many := by simp [newG]
  facts := by simp [newG]
  cross := by simp [newG]
  acyc := acyc_weather ths (List.nodup_append.mp h.nd).2.1 _ fun x y s => by
    rcases step_iff.mp s with q | ⟨n, f, q, _⟩
    · exact q
    · simp [newG, getA] at q
  zero := Int.le_refl 0
theorem keysA_app {α : Type} (a b : List (Int × α)) : keysA (a ++ b) = keysA a ++ keysA b := List.map_append
theorem getA_one {α : Type} (n m : Int) (x : α) : getA [(n, x)] m = if n = m then some x else none := by
  unfold getA
  by_cases h : n = m
  · simp [h]
  · simp [h]
theorem dropA_sub {α : Type} {kvs : List (Int × α)} {k : Int} {p : Int × α} (h : p ∈ dropA kvs k) : p ∈ kvs := (List.mem_filter.mp h).1
theorem dropA_keys {α : Type} (kvs : List (Int × α)) (k : Int) : keysA (dropA kvs k) = (keysA kvs).filter fun m => decide (m ≠ k) := by
  unfold keysA dropA
  rw [List.filter_map]
  rfl
theorem getA_of_mem {α : Type} : ∀ {kvs : List (Int × α)} {k : Int} {x : α}, (keysA kvs).Nodup → (k, x) ∈ kvs → getA kvs k = some x
  | p :: kvs, k, x, nd, h => by
    simp only [keysA, List.map_cons, List.nodup_cons] at nd
    by_cases e : p.1 = k
    · rcases List.mem_cons.mp h with q | q
      · subst q; simp [getA]
      · exact absurd (List.mem_map.mpr ⟨_, q, e.symm⟩) nd.1
    · rcases List.mem_cons.mp h with q | q
      · subst q; exact absurd rfl e
      · have : getA (p :: kvs) k = getA kvs k := by simp [getA, e]
        rw [this]
        exact getA_of_mem nd.2 q
theorem GOk.add {g : GS} (ok : GOk g) {n : Int} {f : Fact} (hn : n ∉ keysA g.facts) (hf : isFact3 f g.walkers g.weathers = true) (hc : closes g f = false) (x : Thing) (cr : List (Int × (Nm × Nm))) (gv : Int) : ¬ Reach (allLinks { g with facts := putA g.facts n f, cross := cr, given := gv } []) x x := by
  refine acyc_fact ok hf hc (fun x y s => ?_) x
  rcases step_iff.mp s with q | ⟨m, f', q, r⟩
  · exact Or.inl (step_iff.mpr (Or.inl q))
  · have q : getA (putA g.facts n f) m = some f' := q
    rw [putA_new _ hn, getA_app] at q
    cases hg : getA g.facts m with
    | some f2 => rw [hg] at q; cases q; exact Or.inl (step_iff.mpr (Or.inr ⟨m, _, hg, r⟩))
    | none =>
      rw [hg, getA_one] at q
      split at q
      · cases q; exact Or.inr r
      · cases q
theorem GOk.new_n {g : GS} (ok : GOk g) : g.given ∉ keysA g.facts ∧ g.given ∉ keysA g.cross := by
  have hng : g.given ∉ keysA g.facts ++ keysA g.cross := fun z => by have := (ok.low _ z).2; omega
  rwa [List.mem_append, not_or] at hng
theorem GOk.free {g : GS} (h : ¬ g.full = true) : g.facts.length + g.cross.length < 60 := by
  have : ¬ 60 ≤ g.facts.length + g.cross.length := fun z => h (decide_eq_true z)
  omega
theorem GOk.tellP {g : GS} (ok : GOk g) {f : Fact} (hff : isFact3 f g.walkers g.weathers = true) (hm : g.facts.length + g.cross.length < 60) (hcl : closes g f = false) : GOk { g with facts := putA g.facts g.given f, given := g.given + 1 } := by
  have hng := ok.new_n
  have hz := ok.zero
  refine ⟨ok.lw, ok.lt, ok.nd, ?_, ?_, ?_, ?_, ok.cross, fun x => ok.add hng.1 hff hcl x _ _, by show (0 : Int) ≤ g.given + 1; omega⟩
  · show (keysA (putA g.facts g.given f) ++ keysA g.cross).Nodup
    rw [putA_new _ hng.1, keysA_app]
    obtain ⟨n1, n2, n3⟩ := List.nodup_append.mp ok.keys
    refine List.nodup_append.mpr ⟨List.nodup_append.mpr ⟨n1, by simp [keysA], fun a ha b hb e => ?_⟩, n2, fun a ha b hb e => ?_⟩
    · simp [keysA] at hb; subst hb; exact hng.1 (e ▸ ha)
    · rcases List.mem_append.mp ha with q | q
      · exact n3 a q b hb e
      · simp [keysA] at q; subst q; exact hng.2 (e ▸ hb)
  · intro k hk
    show 0 ≤ k ∧ k < g.given + 1
    have hk : k ∈ keysA (putA g.facts g.given f) ++ keysA g.cross := hk
    rw [putA_new _ hng.1, keysA_app] at hk
    rcases List.mem_append.mp hk with q | q
    · rcases List.mem_append.mp q with q | q
      · have := ok.low k (List.mem_append_left _ q); omega
      · simp [keysA] at q; omega
    · have := ok.low k (List.mem_append_right _ q); omega
  · show (putA g.facts g.given f).length + g.cross.length ≤ 60
    rw [putA_new _ hng.1, List.length_append]
    simp only [List.length_cons, List.length_nil]
    omega
  · intro k f' h
    have h : (k, f') ∈ putA g.facts g.given f := h
    rw [putA_new _ hng.1] at h
    rcases List.mem_append.mp h with q | q
    · exact ok.facts k f' q
    · simp at q; rw [q.2]; exact hff
theorem GOk.crossP {g : GS} (ok : GOk g) {x y : Nm} (hc : x ∈ g.walkers ∧ y ∈ g.walkers ∧ x ≠ y) (hm : g.facts.length + g.cross.length < 60) : GOk { g with cross := putA g.cross g.given (x, y), given := g.given + 1 } := by
  have hng := ok.new_n
  have hz := ok.zero
  refine ⟨ok.lw, ok.lt, ok.nd, ?_, ?_, ?_, ok.facts, ?_, ok.acyc, by show (0 : Int) ≤ g.given + 1; omega⟩
  · show (keysA g.facts ++ keysA (putA g.cross g.given (x, y))).Nodup
    rw [putA_new _ hng.2, keysA_app]
    obtain ⟨n1, n2, n3⟩ := List.nodup_append.mp ok.keys
    refine List.nodup_append.mpr ⟨n1, List.nodup_append.mpr ⟨n2, by simp [keysA], fun a ha b hb e => ?_⟩, fun a ha b hb e => ?_⟩
    · simp [keysA] at hb; subst hb; exact hng.2 (e ▸ ha)
    · rcases List.mem_append.mp hb with q | q
      · exact n3 a ha b q e
      · simp [keysA] at q; subst q; exact hng.1 (e ▸ ha)
  · intro k hk
    show 0 ≤ k ∧ k < g.given + 1
    have hk : k ∈ keysA g.facts ++ keysA (putA g.cross g.given (x, y)) := hk
    rw [putA_new _ hng.2, keysA_app] at hk
    rcases List.mem_append.mp hk with q | q
    · have := ok.low k (List.mem_append_left _ q); omega
    · rcases List.mem_append.mp q with q | q
      · have := ok.low k (List.mem_append_right _ q); omega
      · simp [keysA] at q; omega
  · show g.facts.length + (putA g.cross g.given (x, y)).length ≤ 60
    rw [putA_new _ hng.2, List.length_append]
    simp only [List.length_cons, List.length_nil]
    omega
  · intro k c h
    have h : (k, c) ∈ putA g.cross g.given (x, y) := h
    rw [putA_new _ hng.2] at h
    rcases List.mem_append.mp h with q | q
    · exact ok.cross k c q
    · simp at q; rw [q.2]; exact ⟨hc.1, hc.2.1, hc.2.2⟩
theorem GOk.takeP {g : GS} (ok : GOk g) (n : Int) : GOk { g with facts := dropA g.facts n, cross := dropA g.cross n } := by
  have e1 := dropA_keys g.facts n
  have e2 := dropA_keys g.cross n
  have n12 : keysA (dropA g.facts n) ++ keysA (dropA g.cross n) = (keysA g.facts ++ keysA g.cross).filter fun m => decide (m ≠ n) := by rw [e1, e2, List.filter_append]
  refine ⟨ok.lw, ok.lt, ok.nd, ?_, ?_, ?_, fun k f h => ok.facts k f (dropA_sub h), fun k c h => ok.cross k c (dropA_sub h), fun x h => ok.acyc x (reach_mono (fun x y s => ?_) h), ok.zero⟩
  · show (keysA (dropA g.facts n) ++ keysA (dropA g.cross n)).Nodup
    rw [n12]; exact ok.keys.filter _
  · intro k hk
    have hk : k ∈ keysA (dropA g.facts n) ++ keysA (dropA g.cross n) := hk
    rw [n12] at hk
    exact ok.low k (List.mem_filter.mp hk).1
  · have h1 : (dropA g.facts n).length ≤ g.facts.length := List.length_filter_le _ _
    have h2 : (dropA g.cross n).length ≤ g.cross.length := List.length_filter_le _ _
    have h3 := ok.many
    show (dropA g.facts n).length + (dropA g.cross n).length ≤ 60
    omega
  · rcases step_iff.mp s with q | ⟨m, f, q, r⟩
    · exact step_iff.mpr (Or.inl q)
    · exact step_iff.mpr (Or.inr ⟨m, f, getA_of_mem (List.nodup_append.mp ok.keys).1 (dropA_sub (getA_mem q)), r⟩)
theorem settle_fact {g : GS} (ok : GOk g) {n : Int} {c1 c2 o : Nm} (hg : getA g.cross n = some (c1, c2)) (ho : ¬ (o ≠ c1 ∧ o ≠ c2)) : isFact3 ⟨nOver, o, if o = c1 then c2 else c1⟩ g.walkers g.weathers = true := by
  obtain ⟨hc1, hc2, hne⟩ := ok.cross n _ (getA_mem hg)
  simp only at hc1 hc2 hne
  have ho : o = c1 ∨ o = c2 := by
    by_cases q : o = c1
    · exact Or.inl q
    · exact Or.inr (Decidable.not_not.mp fun z => ho ⟨q, z⟩)
  unfold isFact3
  rw [if_pos rfl]
  rcases ho with rfl | rfl
  · rw [if_pos rfl, decide_eq_true hc1, decide_eq_true hc2, decide_eq_false (fun z => hne z.symm)]; rfl
  · rw [if_neg (fun z => hne z.symm), decide_eq_true hc1, decide_eq_true hc2, decide_eq_false hne]; rfl
theorem GOk.settleP {g : GS} (ok : GOk g) {n : Int} {c : Nm × Nm} {f : Fact} (hg : getA g.cross n = some c) (hff : isFact3 f g.walkers g.weathers = true) (hcl : closes g f = false) : GOk { g with cross := dropA g.cross n, facts := putA g.facts n f } := by
  have hkc : n ∈ keysA g.cross := List.mem_map.mpr ⟨_, getA_mem hg, rfl⟩
  obtain ⟨n1, n2, n3⟩ := List.nodup_append.mp ok.keys
  have hkf : n ∉ keysA g.facts := fun z => n3 n z n hkc rfl
  have e2 := dropA_keys g.cross n
  refine ⟨ok.lw, ok.lt, ok.nd, ?_, ?_, ?_, ?_, fun k c h => ok.cross k c (dropA_sub h), fun x => ok.add hkf hff hcl x _ _, ok.zero⟩
  · show (keysA (putA g.facts n f) ++ keysA (dropA g.cross n)).Nodup
    rw [putA_new _ hkf, keysA_app, e2]
    refine List.nodup_append.mpr ⟨List.nodup_append.mpr ⟨n1, by simp [keysA], fun a ha b hb e => ?_⟩, n2.filter _, fun a ha b hb e => ?_⟩
    · simp [keysA] at hb; subst hb; exact hkf (e ▸ ha)
    · obtain ⟨hb1, hb2⟩ := List.mem_filter.mp hb
      rcases List.mem_append.mp ha with q | q
      · exact n3 a q b hb1 e
      · simp [keysA] at q; subst q; exact (of_decide_eq_true hb2) e.symm
  · intro k hk
    have hk : k ∈ keysA (putA g.facts n f) ++ keysA (dropA g.cross n) := hk
    show 0 ≤ k ∧ k < g.given
    rw [putA_new _ hkf, keysA_app, e2] at hk
    rcases List.mem_append.mp hk with q | q
    · rcases List.mem_append.mp q with q | q
      · exact ok.low k (List.mem_append_left _ q)
      · simp [keysA] at q; rw [q]; exact ok.low n (List.mem_append_right _ hkc)
    · exact ok.low k (List.mem_append_right _ (List.mem_filter.mp q).1)
  · show (putA g.facts n f).length + (dropA g.cross n).length ≤ 60
    rw [putA_new _ hkf, List.length_append]
    have h1 : (keysA (dropA g.cross n)).length < (keysA g.cross).length := by
      rw [e2]
      exact List.length_filter_lt_length_iff_exists.mpr ⟨n, hkc, by simp⟩
    unfold keysA at h1
    rw [List.length_map, List.length_map] at h1
    have h3 := ok.many
    simp only [List.length_cons, List.length_nil]
    omega
  · intro k f' h
    have h : (k, f') ∈ putA g.facts n f := h
    rw [putA_new _ hkf] at h
    rcases List.mem_append.mp h with q | q
    · exact ok.facts k f' q
    · simp only [List.mem_cons, List.not_mem_nil, or_false] at q; cases q; exact hff
theorem GOk.doG {g : GS} (ok : GOk g) (dd : Deed) : GOk (TK.doG g dd).2 := by
  cases dd with
  | tell xs =>
    cases hfl : factL xs with
    | none => simp only [TK.doG, hfl]; exact ok
    | some f =>
      simp only [TK.doG, hfl]
      by_cases h1 : isFact3 f g.walkers g.weathers = false
      · rw [if_pos h1]; exact ok
      · rw [if_neg h1]
        by_cases h2 : g.full = true
        · rw [if_pos h2]; exact ok
        · rw [if_neg h2]
          by_cases h3 : closes g f = true
          · rw [if_pos h3]; exact ok
          · rw [if_neg h3]
            exact ok.tellP (Bool.not_eq_false _ ▸ h1) (GOk.free h2) (Bool.not_eq_true _ ▸ h3)
  | cross x y =>
    simp only [TK.doG]
    by_cases h1 : x ∉ g.walkers ∨ y ∉ g.walkers ∨ x = y
    · rw [if_pos h1]; exact ok
    · rw [if_neg h1]
      by_cases h2 : g.full = true
      · rw [if_pos h2]; exact ok
      · rw [if_neg h2]
        simp only [not_or, Decidable.not_not] at h1
        exact ok.crossP h1 (GOk.free h2)
  | take n =>
    simp only [TK.doG]
    by_cases h1 : n ∉ keysA g.facts ∧ n ∉ keysA g.cross
    · rw [if_pos h1]; exact ok
    · rw [if_neg h1]; exact ok.takeP n
  | settle n o =>
    cases hg : getA g.cross n with
    | none => simp only [TK.doG, hg]; exact ok
    | some c =>
      obtain ⟨c1, c2⟩ := c
      have e : TK.doG g (.settle n o) = if o ≠ c1 ∧ o ≠ c2 then (.word wNoFact, g) else if closes g ⟨nOver, o, if o = c1 then c2 else c1⟩ = true then (.word wRing, g)
        else (.num n, { g with cross := dropA g.cross n, facts := putA g.facts n ⟨nOver, o, if o = c1 then c2 else c1⟩ }) := by simp only [TK.doG, hg]
      rw [e]
      by_cases h1 : o ≠ c1 ∧ o ≠ c2
      · rw [if_pos h1]; exact ok
      · rw [if_neg h1]
        by_cases h2 : closes g ⟨nOver, o, if o = c1 then c2 else c1⟩ = true
        · rw [if_pos h2]; exact ok
        · rw [if_neg h2]; exact ok.settleP hg (settle_fact ok hg h1) (Bool.not_eq_true _ ▸ h2)
end TK

namespace TK
open PySem L2
open Enc (enc)
/-! ### the law's row of choices, its own account -/
def RowAt (K : PySem.W.Frag) (p0 r : Addr) (H : Hp) : Prop := ∃ (ns : List Int) (i x : Int), H r = some (.lst [.ref p0, .int i, .int x]) ∧ SqL K H p0 (ns.map V.int) ∧ 0 ≤ i ∧ 0 ≤ x ∧ x < 2147483647
structure MA where
  d : Addr
  df : Addr
  dc : Addr
  lw : Addr
  lt : Addr
def mf (M : MA) (n : Int) : List (Key × V) := [(Sum.inr "walkers", .ref M.lw), (Sum.inr "weathers", .ref M.lt), (Sum.inr "facts", .ref M.df), (Sum.inr "cross", .ref M.dc), (Sum.inr "given", .int n)]
structure MAt (g : GS) (M : MA) (H : Hp) : Prop where
  dd : H M.d = some (.dK (mf M g.given))
  ws : Ls g.walkers (.ref M.lw) H
  ts : Ls g.weathers (.ref M.lt) H
  fa : DkAt H M.df g.facts
  cr : DkAt H M.dc g.cross
  nd : [M.d, M.df, M.dc].Nodup
def DeedV : Deed → V → V → V → Hp → Prop
  | .tell xs, w, x, y, H => w = .str "tell" ∧ TupN xs x H ∧ y = .non ∧ xs.length ≤ 1000
  | .cross p q, w, x, y, _ => w = .str "cross" ∧ x = .str p.s ∧ y = .str q.s
  | .take n, w, x, y, _ => w = .str "take" ∧ x = .int n ∧ y = .non
  | .settle n o, w, x, y, _ => w = .str "settle" ∧ x = .int n ∧ y = .str o.s
def DeedAt (dd : Deed) : VP := fun v H => ∃ t w x y, v = .ref t ∧ H t = some (.tup [w, x, y]) ∧ DeedV dd w x y H
def resV : Res → V
  | .num n => .int n
  | .non => .non
  | .word w => .str w.s
def fOf (g : GS) : Deed → Option Fact
  | .tell xs => factL xs
  | .settle n o => setF g n o
  | _ => none
/-- the row, a ground, the account: apart from each other -/
structure LawW (K : PySem.W.Frag) (p0 : Addr) (C : Addr) (r : Addr) (g gm : GS) (A : GA) (M : MA) (H : Hp) : Prop where
  row : RowAt K p0 r H
  gr : GrAt C g A H
  m : MAt gm M H
  nd : [M.d, M.df, M.dc, A.df, A.dc].Nodup
abbrev lawS (r : Addr) (A : GA) (M : MA) : List Addr := [r, A.p, A.df, A.dc, M.d, M.df, M.dc]
/-! ### promises -/
def sp_w_taken (K : PySem.W.Frag) (a : Ad) : Sp := fun vs H Q _ => ∃ (r p0 : Addr) (many : Int), vs = [.ref r, .int many] ∧ RowAt K p0 r H ∧ 0 < many ∧ ∀ i H', 0 ≤ i → i < many → Chg [r] H H' → RowAt K p0 r H' → Q (.int i) H'
def sp_w_names (K : PySem.W.Frag) (a : Ad) : Sp := fun vs H Q _ => ∃ (r p0 : Addr), vs = [.ref r] ∧ RowAt K p0 r H ∧
  ∀ t l1 l2 ws ths H', NamesOk ws ths → Chg [r] H H' → RowAt K p0 r H' → H' t = some (.tup [.ref l1, .ref l2]) → H l1 = none → H l2 = none → Ls ws (.ref l1) H' → Ls ths (.ref l2) H' → Q (.ref t) H'
def sp_w_things (K : PySem.W.Frag) (a : Ad) : Sp := fun vs H Q _ => ∃ (g : GS) (M : MA), vs = [.ref M.d] ∧ MAt g M H ∧ g.walkers.length < 64 ∧ g.weathers.length ≤ 1000 ∧ ∀ x H', Ex H H' → NL H g.things x H' → Q x H'
def sp_w_links (K : PySem.W.Frag) (a : Ad) : Sp := fun vs H Q _ => ∃ (f : Fact) (v : V), vs = [v] ∧ D f v H ∧ ∀ x H', Ex H H' → NL H (linksOf f) x H' → Q x H'
def sp_w_all_links (K : PySem.W.Frag) (a : Ad) : Sp := fun vs H Q _ => ∃ (g : GS) (M : MA) (wo : List Int) (v : V), vs = [.ref M.d, v] ∧ MAt g M H ∧ GOk g ∧ Ls wo v H ∧ ∀ x H', Ex H H' → NL H (allLinks g wo) x H' → Q x H'
def sp_w_pairs (K : PySem.W.Frag) (a : Ad) : Sp := fun vs H Q _ => ∃ (things : List Thing) (links : List LinkT) (v w : V), vs = [v, w] ∧ Ls things v H ∧ Ls links w H ∧ things.Nodup ∧ (∀ k ∈ links, k.a ∈ things ∧ k.b ∈ things) ∧ (∀ x, ¬ Reach links x x) ∧ things.length ≤ 100 ∧ links.length ≤ 1000 ∧
  ∀ x H', Ex H H' → NL H (pairsOf things links) x H' → Q x H'
def sp_w_known (K : PySem.W.Frag) (a : Ad) : Sp := fun vs H Q _ => ∃ (g : GS) (M : MA), vs = [.ref M.d] ∧ MAt g M H ∧ GOk g ∧ ∀ x H', Ex H H' → NL H g.pairs x H' → Q x H'
def sp_w_closes (K : PySem.W.Frag) (a : Ad) : Sp := fun vs H Q _ => ∃ (g : GS) (M : MA) (f : Fact) (v : V), vs = [.ref M.d, v] ∧ MAt g M H ∧ GOk g ∧ D f v H ∧ isFact3 f g.walkers g.weathers = true ∧ ∀ H', Ex H H' → Q (.bl (closes g f)) H'
def sp_w_is_fact (K : PySem.W.Frag) (a : Ad) : Sp := fun vs H Q _ => ∃ (g : GS) (M : MA) (xs : List Nm) (v : V), vs = [.ref M.d, v] ∧ MAt g M H ∧ TupN xs v H ∧ xs.length ≤ 1000 ∧ ∀ H', Ex H H' → Q (.bl (isFactL xs g.walkers g.weathers)) H'
def sp_w_due (K : PySem.W.Frag) (a : Ad) : Sp := fun vs H Q _ => ∃ (g : GS) (M : MA) (dd : Deed) (v : V), vs = [.ref M.d, v] ∧ MAt g M H ∧ GOk g ∧ DeedAt dd v H ∧ ∀ H', Chg [M.d, M.df, M.dc] H H' → MAt (doG g dd).2 M H' → Q (resV (doG g dd).1) H'
def sp_w_do (K : PySem.W.Frag) (a : Ad) : Sp := fun vs H Q E => ∃ (g : GS) (A : GA) (dd : Deed) (v : V), vs = [.ref A.p, v] ∧ GrAt a.cGround g A H ∧ GOk g ∧ DeedAt dd v H ∧ GAns a g A dd (fOf g dd) H Q E
def sp_w_told (K : PySem.W.Frag) (a : Ad) : Sp := fun vs H Q _ => ∃ (g : GS) (A : GA) (dd : Deed) (v : V), vs = [.ref A.p, v] ∧ GrAt a.cGround g A H ∧ GOk g ∧ DeedAt dd v H ∧ ∀ H', Chg [A.p, A.df, A.dc] H H' → GrAt a.cGround (doG g dd).2 A H' → Q (resV (doG g dd).1) H'
def sp_w_deed (K : PySem.W.Frag) (a : Ad) : Sp := fun vs H Q _ => ∃ (r p0 : Addr) (g : GS) (M : MA), vs = [.ref r, .ref M.d] ∧ RowAt K p0 r H ∧ MAt g M H ∧ GOk g ∧ ∀ dd v H', Chg [r] H H' → RowAt K p0 r H' → DeedAt dd v H' → Q v H'
def sp_w_pairs_told (K : PySem.W.Frag) (a : Ad) : Sp := fun vs H Q _ => ∃ (r p0 : Addr) (g : GS) (A : GA) (M : MA), vs = [.ref r, .ref A.p, .ref M.d] ∧ LawW K p0 a.cGround r g g A M H ∧ GOk g ∧ ∀ g' H', GOk g' → Chg (lawS r A M) H H' → LawW K p0 a.cGround r g' g' A M H' → Q .non H'
def sp_w_grown (K : PySem.W.Frag) (a : Ad) : Sp := fun vs H Q _ => ∃ (r p0 : Addr) (most : Int), vs = [.ref r, .int most] ∧ RowAt K p0 r H ∧ 0 ≤ most ∧ most ≤ 1000 ∧
  ∀ t A M g H', GOk g → Chg [r] H H' → LawW K p0 a.cGround r g g A M H' → H' t = some (.tup [.ref A.p, .ref M.d]) → Q (.ref t) H'
def sp_lawK (K : PySem.W.Frag) : Sp := fun vs H Q _ => ∃ (p : Addr) (ns : List Int), vs = [.ref p] ∧ SqL K H p (ns.map V.int) ∧ ns.length ≤ 63 ∧ ∀ H', Q (.bl true) H'
def sp_law (K : PySem.W.Frag) (a : Ad) : Sp := sp_lawK K
/-! ### what keeps them -/
section
variable {K : PySem.W.Frag} {H H' : Hp} {S : List Addr}
theorem sqL_ex {p : Addr} {xs : List V} (h : SqL K H p xs) (e : Ex H H') : SqL K H' p xs := by
  rcases h with (h | ⟨o, h⟩) | h
  · exact Or.inl (Or.inl (e _ _ h))
  · exact Or.inl (Or.inr ⟨o, e _ _ h⟩)
  · exact Or.inr h
def NoLst : HO → Prop
  | .lst _ => False
  | .frz _ _ => False
  | _ => True
theorem sqL_chg {p : Addr} {xs : List V} (h : SqL K H p xs) (c : Chg S H H') (hS : ∀ s ∈ S, ∃ o, H s = some o ∧ NoLst o) : SqL K H' p xs := by
  rcases h with (h | ⟨o, h⟩) | h
  · exact Or.inl (Or.inl (c.keep _ _ (fun z => by obtain ⟨o, q, n⟩ := hS p z; rw [h] at q; cases q; exact n) h))
  · exact Or.inl (Or.inr ⟨o, c.keep _ _ (fun z => by obtain ⟨o, q, n⟩ := hS p z; rw [h] at q; cases q; exact n) h⟩)
  · exact Or.inr h
theorem RowAt.ex {r : Addr} (h : RowAt K p0 r H) (e : Ex H H') : RowAt K p0 r H' :=
  let ⟨ns, i, x, h1, h2, h3, h4, h5⟩ := h
  ⟨ns, i, x, e _ _ h1, sqL_ex h2 e, h3, h4, h5⟩
theorem RowAt.chg {r : Addr} (h : RowAt K p0 r H) (c : Chg S H H') (hS : ∀ s ∈ S, ∃ o, H s = some o ∧ NoLst o) : RowAt K p0 r H' :=
  let ⟨ns, i, x, h1, h2, h3, h4, h5⟩ := h
  ⟨ns, i, x, c.keep _ _ (fun z => by obtain ⟨o, q, n⟩ := hS r z; rw [h1] at q; cases q; exact n) h1, sqL_chg h2 c hS, h3, h4, h5⟩
theorem MAt.ex {g : GS} {M : MA} (h : MAt g M H) (e : Ex H H') : MAt g M H' := ⟨e _ _ h.dd, h.ws.ex e, h.ts.ex e, h.fa.ex e, h.cr.ex e, h.nd⟩
theorem LawW.ex {C r : Addr} {g gm : GS} {A : GA} {M : MA} (h : LawW K p0 C r g gm A M H) (e : Ex H H') : LawW K p0 C r g gm A M H' := ⟨h.row.ex e, h.gr.ex e, h.m.ex e, h.nd⟩
theorem DeedAt.t {dd : Deed} {v : V} (h : DeedAt dd v H) (e : TEx H H') : DeedAt dd v H' := by
  obtain ⟨t, w, x, y, rfl, h1, h2⟩ := h
  refine ⟨t, w, x, y, rfl, e _ _ h1, ?_⟩
  cases dd with
  | tell xs => exact ⟨h2.1, td_t e _ h2.2.1, h2.2.2⟩
  | cross p q => exact h2
  | take n => exact h2
  | settle n o => exact h2
instance {dd : Deed} : Mono (DeedAt dd) := ⟨fun e h => h.t e.t⟩
theorem Ls.ne {α : Type} [DecidableEq α] [Enc α] {xs : List α} {l b : Addr} {o : HO} (h : Ls xs (.ref l) H) (hb : H b = some o) (n : NoLst o) : l ≠ b := fun z => by
  obtain ⟨p, us, e, h1, _⟩ := h
  cases e
  rw [z, hb] at h1
  cases h1
  exact n
theorem DkAt.obj {α : Type} [DecidableEq α] [Enc α] {kvs : List (Int × α)} {d : Addr} (h : DkAt H d kvs) : ∃ o, H d = some o ∧ NoLst o := let ⟨_, h1, _⟩ := h; ⟨_, h1, True.intro⟩
theorem MAt.objs {g : GS} {M : MA} (h : MAt g M H) : ∀ s ∈ [M.d, M.df, M.dc], ∃ o, H s = some o ∧ NoLst o := fun s hs => by
  simp only [List.mem_cons, List.not_mem_nil, or_false] at hs
  rcases hs with rfl | rfl | rfl
  · exact ⟨_, h.dd, True.intro⟩
  · exact h.fa.obj
  · exact h.cr.obj
theorem GrAt.objs {C : Addr} {g : GS} {A : GA} (h : GrAt C g A H) : ∀ s ∈ [A.p, A.df, A.dc], ∃ o, H s = some o ∧ NoLst o := fun s hs => by
  simp only [List.mem_cons, List.not_mem_nil, or_false] at hs
  rcases hs with rfl | rfl | rfl
  · exact ⟨_, h.ins, True.intro⟩
  · exact h.fa.obj
  · exact h.cr.obj
theorem Ls.nin {α : Type} [DecidableEq α] [Enc α] {xs : List α} {l : Addr} (h : Ls xs (.ref l) H) (hS : ∀ s ∈ S, ∃ o, H s = some o ∧ NoLst o) : l ∉ S := fun z => by
  obtain ⟨o, h1, n⟩ := hS l z
  exact h.ne h1 n rfl
/-- the account's objects are kept where others change -/
theorem MAt.chg {g : GS} {M : MA} (h : MAt g M H) (c : Chg S H H') (hd : ∀ s ∈ [M.d, M.df, M.dc, M.lw, M.lt], s ∉ S) : MAt g M H' :=
  ⟨c.keep _ _ (hd _ (by simp)) h.dd, h.ws.chg c (hd _ (by simp)), h.ts.chg c (hd _ (by simp)), h.fa.chg c (hd _ (by simp)), h.cr.chg c (hd _ (by simp)), h.nd⟩
theorem GrAt.chg {C : Addr} {g : GS} {A : GA} (h : GrAt C g A H) (c : Chg S H H') (hd : ∀ s ∈ [A.p, A.df, A.dc, A.lw, A.lt], s ∉ S) : GrAt C g A H' :=
  ⟨c.keep _ _ (hd _ (by simp)) h.ins, h.ws.chg c (hd _ (by simp)), h.ts.chg c (hd _ (by simp)), h.fa.chg c (hd _ (by simp)), h.cr.chg c (hd _ (by simp)), h.ne⟩
end
end TK


namespace TK
open PySem L2 PySem.Spec PyProof.Rows
open Enc (enc)
def t_w_taken (K : PySem.W.Frag) (a : Ad) : TS :=
  (tSeq (tAsg (tOp (rI0 fun i j => .int (i + j)) (tOp (rIxL K) (tVar 0) (tC (.int 1))) (tC (.int 1))) (gSub (tVar 0) (tC (.int 1)) rSetL)) (tSeq (tIfS (tTest (tOp (rI0 fun i j => .bl (decide (j < i))) (tOp (rIxL K) (tVar 0) (tC (.int 1))) (tCB (rLen K) (tCons (tOp (rIxL K) (tVar 0) (tC (.int 0))) tNil)))) (tSeq (tAsg (tOp (rI (fun _ j => 0 < j) fun i j => .int (i % j)) (tOp (rI0 fun i j => .int (i + j)) (tOp (rI CMul fun i j => .int (i * j)) (tOp (rIxL K) (tVar 0) (tC (.int 2))) (tC (.int 48271))) (tC (.int 11))) (tC (.int 2147483647))) (gSub (tVar 0) (tC (.int 2)) rSetL)) (tRet (tOp (rI (fun _ j => 0 < j) fun i j => .int (i % j)) (tOp (rI CDiv fun i j => .int (i / j)) (tOp (rIxL K) (tVar 0) (tC (.int 2))) (tC (.int 7))) (tVar 1)))) tNext) (tSeq (tAsg (tOp (rIxL K) (tOp (rIxL K) (tVar 0) (tC (.int 0))) (tOp (rI0 fun i j => .int (i - j)) (tOp (rIxL K) (tVar 0) (tC (.int 1))) (tC (.int 1)))) (gName 2)) (tSeq (tAsg (tOp (rI (fun _ j => 0 < j) fun i j => .int (i % j)) (tOp (rI0 fun i j => .int (i + j)) (tOp (rI0 fun i j => .int (i + j)) (tOp (rI CMul fun i j => .int (i * j)) (tOp (rIxL K) (tVar 0) (tC (.int 2))) (tC (.int 48271))) (tVar 2)) (tC (.int 11))) (tC (.int 2147483647))) (gSub (tVar 0) (tC (.int 2)) rSetL)) (tRet (tOp (rI (fun _ j => 0 < j) fun i j => .int (i % j)) (tVar 2) (tVar 1)))))))
def t_w_names (K : PySem.W.Frag) (a : Ad) : TS :=
  (tSeq (tAsg (tCall (sp_w_taken K a) [] E0 (tCons (tVar 0) (tCons (tC (.int 26)) tNil))) (gName 1)) (tSeq (tAsg (tCall (sp_w_taken K a) [] E0 (tCons (tVar 0) (tCons (tC (.int 8)) tNil))) (gName 2)) (tSeq (tAsg (tLc (iRng1 (tCons (tC (.int 11)) tNil)) (gName 7) tYes (tOp rIxS (tC (.str ("abcdefghijklmnopqrstuvwxyz" : Str))) (tOp (rI (fun _ j => 0 < j) fun i j => .int (i % j)) (tOp (rI0 fun i j => .int (i + j)) (tVar 1) (tOp (rI CMul fun i j => .int (i * j)) (tC (.int 5)) (tVar 7))) (tC (.int 26)))) [7]) (gName 3)) (tSeq (tAsg (tJoin K (tC (.str ("" : Str))) (tSl (rSlL K) (tVar 3) (tSome (tC (.int 4))) tNo)) (gName 4)) (tSeq (tAsg (tLc (iRng1 (tCons (tC (.int 11)) tNil)) (gName 7) tYes (tOp rAddS (tSl (rSlS) (tVar 4) tNo (tSome (tOp (rI (fun _ j => 0 < j) fun i j => .int (i % j)) (tOp (rI0 fun i j => .int (i + j)) (tVar 2) (tOp (rI CMul fun i j => .int (i * j)) (tC (.int 3)) (tVar 7))) (tC (.int 8))))) (tOp (rIxL K) (tVar 3) (tVar 7))) [7]) (gName 5)) (tSeq (tAsg (tSl (rSlL K) (tVar 5) tNo (tSome (tCall (sp_w_taken K a) [] E0 (tCons (tVar 0) (tCons (tOp (rIxL K) (tLst (tCons (tC (.int 9)) (tCons (tC (.int 6)) tNil))) (tCall (sp_w_taken K a) [] E0 (tCons (tVar 0) (tCons (tC (.int 2)) tNil)))) tNil))))) (gName 6)) (tRet (tTup (tCons (tVar 6) (tCons (tSl (rSlL K) (tVar 5) (tSome (tC (.int 8))) (tSome (tOp (rI0 fun i j => .int (i + j)) (tC (.int 8)) (tCall (sp_w_taken K a) [] E0 (tCons (tVar 0) (tCons (tC (.int 4)) tNil)))))) tNil))))))))))
def t_w_things (K : PySem.W.Frag) (a : Ad) : TS :=
  (tSeq (tAsg (tLc (iList K (tCB (rSortedS K) (tCons (tDGet (tVar 0) (tC (.str ("walkers" : Str)))) tNil))) (gName 1) tYes (tTup (tCons (tC (.str ("walker" : Str))) (tCons (tVar 1) tNil))) [1]) (gName 2)) (tSeq (tFor (iList K (tDGet (tVar 0) (tC (.str ("weathers" : Str))))) (gName 1) (tAsg (tOp rCat (tVar 2) (tLst (tCons (tTup (tCons (tC (.str ("begin" : Str))) (tCons (tVar 1) tNil))) (tCons (tTup (tCons (tC (.str ("end" : Str))) (tCons (tVar 1) tNil))) tNil)))) (gName 2))) (tRet (tVar 2))))
def t_w_links (K : PySem.W.Frag) (a : Ad) : TS :=
  (tSeq (tAsg (tVar 0) (gTup K 3 (gCons (gName 1) (gCons (gName 2) (gCons (gName 3) gNil))))) (tSeq (tIfS (tTest (tOp (rEqD K) (tVar 1) (tC (.str ("over" : Str))))) (tRet (tLst (tCons (tTup (tCons (tTup (tCons (tC (.str ("walker" : Str))) (tCons (tVar 3) tNil))) (tCons (tTup (tCons (tC (.str ("walker" : Str))) (tCons (tVar 2) tNil))) tNil))) tNil))) tNext) (tSeq (tIfS (tTest (tOp (rEqD K) (tVar 1) (tC (.str ("ahead" : Str))))) (tRet (tLst (tCons (tTup (tCons (tTup (tCons (tC (.str ("walker" : Str))) (tCons (tVar 2) tNil))) (tCons (tTup (tCons (tC (.str ("begin" : Str))) (tCons (tVar 3) tNil))) tNil))) tNil))) tNext) (tSeq (tIfS (tTest (tOp (rEqD K) (tVar 1) (tC (.str ("amid" : Str))))) (tRet (tLst (tCons (tTup (tCons (tTup (tCons (tC (.str ("begin" : Str))) (tCons (tVar 3) tNil))) (tCons (tTup (tCons (tC (.str ("walker" : Str))) (tCons (tVar 2) tNil))) tNil))) (tCons (tTup (tCons (tTup (tCons (tC (.str ("walker" : Str))) (tCons (tVar 2) tNil))) (tCons (tTup (tCons (tC (.str ("end" : Str))) (tCons (tVar 3) tNil))) tNil))) tNil)))) tNext) (tRet (tLst (tCons (tTup (tCons (tTup (tCons (tC (.str ("end" : Str))) (tCons (tVar 3) tNil))) (tCons (tTup (tCons (tC (.str ("walker" : Str))) (tCons (tVar 2) tNil))) tNil))) tNil)))))))
def t_w_all_links (K : PySem.W.Frag) (a : Ad) : TS :=
  (tSeq (tAsg (tLc (iList K (tCall (sp_w_things K a) [] E0 (tCons (tVar 0) tNil))) (gName 5) (tTest (tOp (rNeD K) (tOp (rIxT K) (tVar 5) (tC (.int 0))) (tC (.str ("walker" : Str))))) (tVar 5) [5]) (gName 2)) (tSeq (tAsg (tLc (iRng1 (tCons (tOp (rI0 fun i j => .int (i - j)) (tCB (rLen K) (tCons (tVar 2) tNil)) (tC (.int 1))) tNil)) (gName 6) tYes (tTup (tCons (tOp (rIxL K) (tVar 2) (tVar 6)) (tCons (tOp (rIxL K) (tVar 2) (tOp (rI0 fun i j => .int (i + j)) (tVar 6) (tC (.int 1)))) (tCons (tC .non) tNil)))) [6]) (gName 3)) (tSeq (tFor (iList K (tCB (rSortedDI) (tCons (tDGet (tVar 0) (tC (.str ("facts" : Str)))) tNil))) (gName 4) (tIfS (tTest (tOp (rNotInD K) (tVar 4) (tVar 1))) (tAsg (tOp rCat (tVar 3) (tLc (iList K (tCall (sp_w_links K a) [] E0 (tCons (tDGet (tDGet (tVar 0) (tC (.str ("facts" : Str)))) (tVar 4)) tNil))) (gTup K 2 (gCons (gName 7) (gCons (gName 8) gNil))) tYes (tTup (tCons (tVar 7) (tCons (tVar 8) (tCons (tVar 4) tNil)))) [7, 8])) (gName 3)) tNext)) (tRet (tVar 3)))))
def t_w_pairs (K : PySem.W.Frag) (a : Ad) : TS :=
  (tSeq (tAsg tDNewT (gName 2)) (tSeq (tFor (iList K (tVar 0)) (gName 3) (sDPut (tVar 2) (tVar 3) (tLc (iList K (tVar 1)) (gName 8) (tTest (tOp (rEqD K) (tOp (rIxT K) (tVar 8) (tC (.int 0))) (tVar 3))) (tOp (rIxT K) (tVar 8) (tC (.int 1))) [8]))) (tSeq (tAsg (tC (.bl true)) (gName 4)) (tSeq (tWhile (tB (tVar 4)) (tSeq (tAsg (tC (.bl false)) (gName 4)) (tFor (iList K (tVar 0)) (gName 3) (tFor (iList K (tCB (rListS K) (tCons (tDGet (tVar 2) (tVar 3)) tNil))) (gName 5) (tFor (iList K (tDGet (tVar 2) (tVar 5))) (gName 6) (tIfS (tTest (tOp (rNotInD K) (tVar 6) (tDGet (tVar 2) (tVar 3)))) (tSeq (tDrop (tBM K "list" (rAppend) (tDGet (tVar 2) (tVar 3)) (tCons (tVar 6) tNil))) (tAsg (tC (.bl true)) (gName 4))) tNext)))))) (tSeq (tAsg (tLst tNil) (gName 7)) (tSeq (tFor (iList K (tVar 0)) (gName 3) (tAsg (tOp rCat (tVar 7) (tLc (iList K (tVar 0)) (gName 5) (tTest (tOp (rInD K) (tVar 5) (tDGet (tVar 2) (tVar 3)))) (tTup (tCons (tVar 3) (tCons (tVar 5) tNil))) [5])) (gName 7))) (tRet (tVar 7))))))))
def t_w_known (K : PySem.W.Frag) (a : Ad) : TS :=
  (tRet (tCall (sp_w_pairs K a) [] E0 (tCons (tCall (sp_w_things K a) [] E0 (tCons (tVar 0) tNil)) (tCons (tCall (sp_w_all_links K a) [] E0 (tCons (tVar 0) (tCons (tLst tNil) tNil))) tNil))))
def t_w_closes (K : PySem.W.Frag) (a : Ad) : TS :=
  (tSeq (tAsg (tCall (sp_w_known K a) [] E0 (tCons (tVar 0) tNil)) (gName 2)) (tRet (tOp (rNeD K) (tLc (iList K (tCall (sp_w_links K a) [] E0 (tCons (tVar 1) tNil))) (gName 3) (tTest (tOp (rInD K) (tTup (tCons (tOp (rIxT K) (tVar 3) (tC (.int 1))) (tCons (tOp (rIxT K) (tVar 3) (tC (.int 0))) tNil))) (tVar 2))) (tVar 3) [3]) (tLst tNil))))
def t_w_is_fact (K : PySem.W.Frag) (a : Ad) : TS :=
  (tSeq (tIfS (tOr (tTest (tOp (rNeD K) (tCB (rLen K) (tCons (tVar 1) tNil)) (tC (.int 3)))) (tTest (tOp (rNotInD K) (tOp (rIxT K) (tVar 1) (tC (.int 1))) (tDGet (tVar 0) (tC (.str ("walkers" : Str))))))) (tRet (tC (.bl false))) tNext) (tSeq (tIfS (tTest (tOp (rEqD K) (tOp (rIxT K) (tVar 1) (tC (.int 0))) (tC (.str ("over" : Str))))) (tRet (tAndV (tOp (rInD K) (tOp (rIxT K) (tVar 1) (tC (.int 2))) (tDGet (tVar 0) (tC (.str ("walkers" : Str))))) (tOp (rNeD K) (tOp (rIxT K) (tVar 1) (tC (.int 1))) (tOp (rIxT K) (tVar 1) (tC (.int 2)))))) tNext) (tRet (tAndV (tOp (rIn K false) (tOp (rIxT K) (tVar 1) (tC (.int 0))) (tTup (tCons (tC (.str ("ahead" : Str))) (tCons (tC (.str ("amid" : Str))) (tCons (tC (.str ("behind" : Str))) tNil))))) (tOp (rInD K) (tOp (rIxT K) (tVar 1) (tC (.int 2))) (tDGet (tVar 0) (tC (.str ("weathers" : Str)))))))))
def t_w_due (K : PySem.W.Frag) (a : Ad) : TS :=
  (tSeq (tAsg (tVar 1) (gTup K 3 (gCons (gName 2) (gCons (gName 3) (gCons (gName 4) gNil))))) (tSeq (tAsg (tDGet (tVar 0) (tC (.str ("given" : Str)))) (gName 5)) (tSeq (tIfS (tTest (tOp (rEqD K) (tVar 2) (tC (.str ("take" : Str))))) (tSeq (tIfS (tAnd (tB (tDNotIn (tVar 3) (tDGet (tVar 0) (tC (.str ("facts" : Str)))))) (tB (tDNotIn (tVar 3) (tDGet (tVar 0) (tC (.str ("cross" : Str))))))) (tRet (tC (.str ("nosuch" : Str)))) tNext) (tSeq (tDrop (tDPop2 (tDGet (tVar 0) (tC (.str ("facts" : Str)))) (tVar 3) (tC .non))) (tSeq (tDrop (tDPop2 (tDGet (tVar 0) (tC (.str ("cross" : Str)))) (tVar 3) (tC .non))) (tRet (tC .non))))) tNext) (tSeq (tIfS (tTest (tOp (rEqD K) (tVar 2) (tC (.str ("settle" : Str))))) (tSeq (tIfS (tB (tDNotIn (tVar 3) (tDGet (tVar 0) (tC (.str ("cross" : Str)))))) (tRet (tC (.str ("nosuch" : Str)))) tNext) (tSeq (tAsg (tDGet (tDGet (tVar 0) (tC (.str ("cross" : Str)))) (tVar 3)) (gName 6)) (tSeq (tIfS (tTest (tOp (rIn K true) (tVar 4) (tVar 6))) (tRet (tC (.str ("nofact" : Str)))) tNext) (tSeq (tAsg (tTup (tCons (tC (.str ("over" : Str))) (tCons (tVar 4) (tCons (tOp (rIxT K) (tVar 6) (tCB (rIntB) (tCons (tOp (rEqD K) (tVar 4) (tOp (rIxT K) (tVar 6) (tC (.int 0)))) tNil))) tNil)))) (gName 7)) (tSeq (tIfS (tB (tCall (sp_w_closes K a) [] E0 (tCons (tVar 0) (tCons (tVar 7) tNil)))) (tRet (tC (.str ("ring" : Str)))) tNext) (tSeq (tDrop (tDPop1 (tDGet (tVar 0) (tC (.str ("cross" : Str)))) (tVar 3))) (tSeq (sDPut (tDGet (tVar 0) (tC (.str ("facts" : Str)))) (tVar 3) (tVar 7)) (tRet (tVar 3))))))))) tNext) (tSeq (tAsg (tOp (rI0 fun i j => .bl (decide (j ≤ i))) (tOp (rI0 fun i j => .int (i + j)) (tLenD (tCons (tDGet (tVar 0) (tC (.str ("facts" : Str)))) tNil)) (tLenD (tCons (tDGet (tVar 0) (tC (.str ("cross" : Str)))) tNil))) (tC (.int 60))) (gName 8)) (tSeq (tIfS (tTest (tOp (rEqD K) (tVar 2) (tC (.str ("cross" : Str))))) (tSeq (tIfS (tOr (tTest (tOp (rNotInD K) (tVar 3) (tDGet (tVar 0) (tC (.str ("walkers" : Str)))))) (tOr (tTest (tOp (rNotInD K) (tVar 4) (tDGet (tVar 0) (tC (.str ("walkers" : Str)))))) (tTest (tOp (rEqD K) (tVar 3) (tVar 4))))) (tRet (tC (.str ("nofact" : Str)))) tNext) (tIfS (tNot (tB (tVar 8))) (sDPut (tDGet (tVar 0) (tC (.str ("cross" : Str)))) (tVar 5) (tTup (tCons (tVar 3) (tCons (tVar 4) tNil)))) tNext)) (tSeq (tIfS (tNot (tB (tCall (sp_w_is_fact K a) [] E0 (tCons (tVar 0) (tCons (tVar 3) tNil))))) (tRet (tC (.str ("nofact" : Str)))) tNext) (tSeq (tIfS (tAnd (tNot (tB (tVar 8))) (tB (tCall (sp_w_closes K a) [] E0 (tCons (tVar 0) (tCons (tVar 3) tNil))))) (tRet (tC (.str ("ring" : Str)))) tNext) (tIfS (tNot (tB (tVar 8))) (sDPut (tDGet (tVar 0) (tC (.str ("facts" : Str)))) (tVar 5) (tVar 3)) tNext)))) (tSeq (tIfS (tB (tVar 8)) (tRet (tC (.str ("full" : Str)))) tNext) (tSeq (sDPut (tVar 0) (tC (.str ("given" : Str))) (tOp (rI0 fun i j => .int (i + j)) (tVar 5) (tC (.int 1)))) (tRet (tVar 5))))))))))
def t_w_do (K : PySem.W.Frag) (a : Ad) (E : XK) : TS :=
  (tSeq (tIfS (tTest (tOp (rEqD K) (tOp (rIxT K) (tVar 1) (tC (.int 0))) (tC (.str ("tell" : Str))))) (tRet (tMeth a.cGround "tell" (sp_Ground_tell K a) [] E (tVar 0) (tCons (tOp (rIxT K) (tVar 1) (tC (.int 1))) tNil))) tNext) (tSeq (tIfS (tTest (tOp (rEqD K) (tOp (rIxT K) (tVar 1) (tC (.int 0))) (tC (.str ("cross" : Str))))) (tRet (tMeth a.cGround "cross" (sp_Ground_cross K a) [] E (tVar 0) (tCons (tOp (rIxT K) (tVar 1) (tC (.int 1))) (tCons (tOp (rIxT K) (tVar 1) (tC (.int 2))) tNil)))) tNext) (tSeq (tIfS (tTest (tOp (rEqD K) (tOp (rIxT K) (tVar 1) (tC (.int 0))) (tC (.str ("take" : Str))))) (tRet (tMeth a.cGround "take" (sp_Ground_take K a) [] E (tVar 0) (tCons (tOp (rIxT K) (tVar 1) (tC (.int 1))) tNil))) tNext) (tRet (tMeth a.cGround "settle" (sp_Ground_settle K a) [] E (tVar 0) (tCons (tOp (rIxT K) (tVar 1) (tC (.int 1))) (tCons (tOp (rIxT K) (tVar 1) (tC (.int 2))) tNil)))))))
def t_w_told (K : PySem.W.Frag) (a : Ad) : TS :=
  (fun Z σ H => (fun W : WX => (tRet (tCallS (sp_w_do K a) (WE W) (tCons (tVar 0) (tCons (tVar 1) tNil))))) (wManyAs K (fun _ _ _ _ => False) 2 Z [(Value.ref a.cRing, fun _ _ _ => tRet (tC (.str ("ring" : Str)))), (Value.ref a.cNoFact, fun _ _ _ => tRet (tC (.str ("nofact" : Str)))), (Value.ref a.cNoSuch, fun _ _ _ => tRet (tC (.str ("nosuch" : Str)))), (Value.ref a.cFull, fun _ _ _ => tRet (tC (.str ("full" : Str))))]) Z σ H)
def t_w_pairs_told (K : PySem.W.Frag) (a : Ad) : TS :=
  (tFor (iRng1 (tCons (tCB (rLen K) (tCons (tDGet (tVar 2) (tC (.str ("walkers" : Str)))) tNil)) tNil)) (gName 3) (tFor (iRng1 (tCons (tVar 3) tNil)) (gName 4) (tIfS (tTest (tOp (rI0 fun i j => .bl (decide (j < i))) (tCall (sp_w_taken K a) [] E0 (tCons (tVar 0) (tCons (tC (.int 5)) tNil))) (tC (.int 0)))) (tSeq (tAsg (tTup (tCons (tC (.str ("tell" : Str))) (tCons (tTup (tCons (tC (.str ("over" : Str))) (tCons (tOp (rIxL K) (tDGet (tVar 2) (tC (.str ("walkers" : Str)))) (tVar 3)) (tCons (tOp (rIxL K) (tDGet (tVar 2) (tC (.str ("walkers" : Str)))) (tVar 4)) tNil)))) (tCons (tC .non) tNil)))) (gName 5)) (tSeq (tDrop (tCall (sp_w_due K a) [] E0 (tCons (tVar 2) (tCons (tVar 5) tNil)))) (tDrop (tCall (sp_w_told K a) [] E0 (tCons (tVar 1) (tCons (tVar 5) tNil)))))) tNext)))
def t_w_deed (K : PySem.W.Frag) (a : Ad) : TS :=
  (tSeq (tAsg (tCall (sp_w_taken K a) [] E0 (tCons (tVar 0) (tCons (tC (.int 12)) tNil))) (gName 2)) (tSeq (tAsg (tOp rCat (tOp rCat (tDGet (tVar 1) (tC (.str ("walkers" : Str)))) (tDGet (tVar 1) (tC (.str ("weathers" : Str))))) (tSl (rSlL K) (tLst (tCons (tC (.str ("zzzzzzzz" : Str))) tNil)) tNo (tSome (tCB (rIntB) (tCons (tOp (rEqD K) (tCall (sp_w_taken K a) [] E0 (tCons (tVar 0) (tCons (tC (.int 9)) tNil))) (tC (.int 8))) tNil))))) (gName 3)) (tSeq (tIfS (tTest (tOp (rEqD K) (tVar 3) (tLst tNil))) (tAsg (tLst (tCons (tC (.str ("a" : Str))) tNil)) (gName 3)) tNext) (tSeq (tAsg (tOp (rIxL K) (tVar 3) (tCall (sp_w_taken K a) [] E0 (tCons (tVar 0) (tCons (tCB (rLen K) (tCons (tVar 3) tNil)) tNil)))) (gName 4)) (tSeq (tAsg (tOp (rIxL K) (tVar 3) (tCall (sp_w_taken K a) [] E0 (tCons (tVar 0) (tCons (tCB (rLen K) (tCons (tVar 3) tNil)) tNil)))) (gName 5)) (tSeq (tAsg (tCall (sp_w_taken K a) [] E0 (tCons (tVar 0) (tCons (tOp (rI0 fun i j => .int (i + j)) (tDGet (tVar 1) (tC (.str ("given" : Str)))) (tC (.int 2))) tNil))) (gName 6)) (tSeq (tIfS (tTest (tOp (rI0 fun i j => .bl (decide (i < j))) (tVar 2) (tC (.int 7)))) (tSeq (tAsg (tOp (rIxL K) (tLst (tCons (tC (.str ("over" : Str))) (tCons (tC (.str ("over" : Str))) (tCons (tC (.str ("over" : Str))) (tCons (tC (.str ("ahead" : Str))) (tCons (tC (.str ("amid" : Str))) (tCons (tC (.str ("behind" : Str))) (tCons (tC (.str ("over" : Str))) tNil)))))))) (tVar 2)) (gName 7)) (tSeq (tIfS (tAnd (tTest (tOp (rNeD K) (tVar 7) (tC (.str ("over" : Str))))) (tTest (tOp (rNeD K) (tDGet (tVar 1) (tC (.str ("weathers" : Str)))) (tLst tNil)))) (tAsg (tOp (rIxL K) (tDGet (tVar 1) (tC (.str ("weathers" : Str)))) (tCall (sp_w_taken K a) [] E0 (tCons (tVar 0) (tCons (tCB (rLen K) (tCons (tDGet (tVar 1) (tC (.str ("weathers" : Str)))) tNil)) tNil)))) (gName 5)) tNext) (tRet (tTup (tCons (tC (.str ("tell" : Str))) (tCons (tTup (tCons (tVar 7) (tCons (tVar 4) (tCons (tVar 5) tNil)))) (tCons (tC .non) tNil))))))) tNext) (tSeq (tIfS (tTest (tOp (rI0 fun i j => .bl (decide (i < j))) (tVar 2) (tC (.int 9)))) (tRet (tTup (tCons (tC (.str ("cross" : Str))) (tCons (tVar 4) (tCons (tVar 5) tNil))))) tNext) (tSeq (tIfS (tTest (tOp (rEqD K) (tVar 2) (tC (.int 9)))) (tRet (tTup (tCons (tC (.str ("take" : Str))) (tCons (tVar 6) (tCons (tC .non) tNil))))) tNext) (tSeq (tIfS (tB (tDIn (tVar 6) (tDGet (tVar 1) (tC (.str ("cross" : Str)))))) (tAsg (tOp (rIxL K) (tOp rCat (tCB (rListS K) (tCons (tDGet (tDGet (tVar 1) (tC (.str ("cross" : Str)))) (tVar 6)) tNil)) (tLst (tCons (tVar 4) tNil))) (tCall (sp_w_taken K a) [] E0 (tCons (tVar 0) (tCons (tC (.int 3)) tNil)))) (gName 5)) tNext) (tRet (tTup (tCons (tC (.str ("settle" : Str))) (tCons (tVar 6) (tCons (tVar 5) tNil)))))))))))))))
def t_w_grown (K : PySem.W.Frag) (a : Ad) : TS :=
  (tSeq (tAsg (tCall (sp_w_names K a) [] E0 (tCons (tVar 0) tNil)) (gTup K 2 (gCons (gName 2) (gCons (gName 3) gNil)))) (tSeq (tAsg (tDisp (((tC (.str ("walkers" : Str))), (tVar 2)) :: (((tC (.str ("weathers" : Str))), (tVar 3)) :: (((tC (.str ("facts" : Str))), tDNewK) :: (((tC (.str ("cross" : Str))), tDNewK) :: (((tC (.str ("given" : Str))), (tC (.int 0))) :: [])))))) (gName 4)) (tSeq (tAsg (tMake a.cGround (sp_Ground_init K a) [] E0 (tCons (tCB (rListS K) (tCons (tVar 2) tNil)) (tCons (tCB (rListS K) (tCons (tVar 3) tNil)) tNil))) (gName 5)) (tSeq (tIfS (tTest (tOp (rEqD K) (tCall (sp_w_taken K a) [] E0 (tCons (tVar 0) (tCons (tC (.int 6)) tNil))) (tC (.int 5)))) (tDrop (tCall (sp_w_pairs_told K a) [] E0 (tCons (tVar 0) (tCons (tVar 5) (tCons (tVar 4) tNil))))) tNext) (tSeq (tFor (iRng1 (tCons (tCall (sp_w_taken K a) [] E0 (tCons (tVar 0) (tCons (tOp (rI0 fun i j => .int (i + j)) (tVar 1) (tC (.int 1))) tNil))) tNil)) (gName 6) (tSeq (tAsg (tCall (sp_w_deed K a) [] E0 (tCons (tVar 0) (tCons (tVar 4) tNil))) (gName 7)) (tSeq (tDrop (tCall (sp_w_due K a) [] E0 (tCons (tVar 4) (tCons (tVar 7) tNil)))) (tDrop (tCall (sp_w_told K a) [] E0 (tCons (tVar 5) (tCons (tVar 7) tNil))))))) (tRet (tTup (tCons (tVar 5) (tCons (tVar 4) tNil)))))))))
end TK

namespace TK
open PySem L2 PySem.Spec PyProof.Rows
open Enc (enc)
section
variable {K : PySem.W.Frag} {a : Ad} {vs : List V} {H H' : Hp} {Q : VK} {E : XK}
/-! ### lists of any values -/
section
variable {σ : L2.St} {Z : Ends} {tr : TS} {ta tb te : TE} {p : Addr} {xs : List V}
theorem e_ixV {i : Int} {z : V} (h1 : EV ta σ H (Is (.ref p))) (h2 : EV tb σ H (D i)) (hp : SqL K H p xs) (hz : atI xs i = some z) : EV (tOp (rIxL K) ta tb) σ H (Is z) := fun H1 e Q q =>
  h1 H1 e _ fun x H2 e2 px => h2 H2 (e.trans e2) _ fun y H3 e3 py => by
    cases px
    cases py.is_int
    exact ⟨p, xs, i, z, rfl, rfl, sqL_ex hp ((e.trans e2).trans e3), hz, q z H3 (e2.trans e3) rfl⟩
theorem e_lenV (h1 : EV te σ H (Is (.ref p))) (hp : SqL K H p xs) : EV (tCB (rLen K) (tCons te tNil)) σ H (D (xs.length : Int)) := fun H1 e Q q =>
  h1 H1 e _ fun x H2 e2 px => by
    cases px
    exact ⟨p, xs, rfl, Or.inl (sqL_ex hp (e.trans e2)), q _ H2 e2 (D.of_int _ _)⟩
theorem e_toI {i : Int} (h : EV te σ H (Is (.int i))) : EV te σ H (D i) := h.imp fun v H1 _ p => by cases p; exact D.of_int _ _
theorem q_setL {P1 : VP} {j : Int} {m : Nat} (h : EV te σ H P1) (ho : ∀ H1, Ex H H1 → EV ta σ H1 (Is (.ref p))) (hp : H p = some (.lst xs)) (hj : ixN xs.length j = some m)
    (k : ∀ v H1 H2, Ex H H1 → P1 v H1 → Ex H1 H2 → tr Z σ (upd H2 p (.lst (xs.set m v)))) : tSeq (tAsg te (gSub ta (tC (.int j)) rSetL)) tr Z σ H :=
  h.run fun v H1 e p1 => (ho H1 e).run fun x H2 e2 px => by
    cases px
    exact ⟨p, xs, j, m, rfl, rfl, (e.trans e2) _ _ hp, hj, k v H1 H2 e p1 e2⟩
end
theorem sqL_row {r p : Addr} {ns : List Int} {tl : List V} {S : List Addr} (hr : H r = some (.lst (.ref p :: tl))) (h : SqL K H p (ns.map V.int)) (c : Chg [r] H H') : SqL K H' p (ns.map V.int) := by
  have no : ∀ (q : Addr) (t : List V), (V.ref q :: t) ≠ ns.map V.int := fun q t z => by
    cases ns with
    | nil => cases z
    | cons n ns => cases z
  rcases h with (h | ⟨o, h⟩) | h
  · refine Or.inl (Or.inl (c.keep _ _ (fun z => ?_) h))
    simp at z
    rw [z, hr] at h
    injection h with h
    injection h with h
    exact no _ _ h
  · refine Or.inl (Or.inr ⟨o, c.keep _ _ (fun z => ?_) h⟩)
    simp at z
    rw [z, hr] at h
    cases h
  · exact Or.inr h
theorem len_w_taken (K : PySem.W.Frag) (a : Ad) : ∀ vs H Q E, sp_w_taken K a vs H Q E → vs.length = 2 := fun _ _ _ _ ⟨_, _, _, e, _⟩ => by rw [e]; rfl
theorem p_w_taken (T : ClT K a) (h : sp_w_taken K a vs H Q E) : t_w_taken K a (FinQ Q) (start ["_law_row", "_law_many", "_law_cell"] vs) H := by
  obtain ⟨r, p, many, rfl, ⟨ns, i, x, h1, h2, h3, h4, h5⟩, hm, k⟩ := h
  refine q_setL (e_I0 (g := fun i j => i + j) (e_toI (e_ixV e_is (e_int (i := 1)) (sq_of h1) (z := .int i) rfl)) (e_int (i := 1))) (fun _ _ => e_is) h1 (m := 1) rfl fun v H1 H2 e1 p1 e2 => ?_
  cases p1.is_int
  show tSeq _ _ _ _ (upd H2 r (.lst [.ref p, .int (i + 1), .int x]))
  have e12 := e1.trans e2
  have c1 : Chg [r] H (upd H2 r (.lst [.ref p, .int (i + 1), .int x])) := (Chg.of_ex e12).trans (upd_chg (Hb := H) (e12 _ _ h1) True.intro)
  have r1 : (upd H2 r (.lst [.ref p, .int (i + 1), .int x])) r = some (.lst [.ref p, .int (i + 1), .int x]) := upd_same
  have s1 := sqL_row (S := []) h1 h2 c1
  generalize upd H2 r (.lst [.ref p, .int (i + 1), .int x]) = Ha at c1 r1 s1
  have hlen : EV (tCB (rLen K) (tCons (tOp (rIxL K) (tVar 0) (tC (.int 0))) tNil)) [some (.ref r), some (.int many), none] Ha (D ((ns.map V.int).length : Int)) := e_lenV (e_ixV e_is (e_int (i := 0)) (sq_of r1) (z := .ref p) rfl) s1
  rw [List.length_map] at hlen
  refine q_if (b_I0 (g := fun i j => decide (j < i)) (e_toI (e_ixV e_is (e_int (i := 1)) (sq_of r1) (z := .int (i + 1)) rfl)) hlen) (fun c H3 e3 => ?_) fun c H3 e3 => ?_
  · refine q_setL (P1 := D ((x * 48271 + 11) % 2147483647)) (e_I (C := fun _ j => 0 < j) (g := fun i j => i % j) (by decide) (e_I0 (g := fun i j => i + j) (e_I (C := CMul) (g := fun i j => i * j) (Or.inr (by decide)) (e_toI (e_ixV e_is (e_int (i := 2)) (sqL_ex (sq_of r1) e3) (z := .int x) rfl)) (e_int (i := 48271))) (e_int (i := 11))) (e_int (i := 2147483647))) (fun _ _ => e_is) (e3 _ _ r1) (m := 2) rfl fun v H4 H5 e4 p4 e5 => ?_
    cases p4.is_int
    have hb := Int.emod_nonneg (x * 48271 + 11) (b := 2147483647) (by decide)
    have hc := Int.emod_lt_of_pos (x * 48271 + 11) (b := 2147483647) (by decide)
    generalize (x * 48271 + 11) % 2147483647 = y at hb hc
    show tRet _ _ _ (upd H5 r (.lst [.ref p, .int (i + 1), .int y]))
    have e35 := e3.trans (e4.trans e5)
    have c2 : Chg [r] Ha (upd H5 r (.lst [.ref p, .int (i + 1), .int y])) := (Chg.of_ex e35).trans (upd_chg (Hb := H) (e35 _ _ r1) True.intro)
    have r2 : (upd H5 r (.lst [.ref p, .int (i + 1), .int y])) r = some (.lst [.ref p, .int (i + 1), .int y]) := upd_same
    have s2 := sqL_row (S := []) r1 s1 c2
    generalize upd H5 r (.lst [.ref p, .int (i + 1), .int y]) = Hb at c2 r2 s2
    refine s_ret (P := D (y / 7 % many)) (e_I (C := fun _ j => 0 < j) (g := fun i j => i % j) hm (e_I (C := CDiv) (g := fun i j => i / j) (by exact ⟨by decide, by decide⟩) (e_toI (e_ixV e_is (e_int (i := 2)) (sq_of r2) (z := .int y) rfl)) (e_int (i := 7))) (e_toI e_is)) fun v H6 e6 p6 => ?_
    cases p6.is_int
    exact k _ H6 (Int.emod_nonneg _ (by omega)) (Int.emod_lt_of_pos _ hm) ((c1.trans c2).trans (Chg.of_ex e6)) ⟨ns, i + 1, y, e6 _ _ r2, sqL_ex s2 e6, by omega, hb, hc⟩
  · have hle : i + 1 ≤ (ns.length : Int) := by have := of_decide_eq_false c; omega
    obtain ⟨n, rfl⟩ := Int.eq_ofNat_of_zero_le h3
    have hn : n < ns.length := by omega
    have hcell : atI (ns.map V.int) (n : Int) = some (.int ns[n]) := atI_nat (by rw [List.getElem?_map, List.getElem?_eq_getElem hn]; rfl)
    have e1 : ((n : Int) + 1) - 1 = (n : Int) := by omega
    have hix : EV (tOp (rI0 fun i j => .int (i - j)) (tOp (rIxL K) (tVar 0) (tC (.int 1))) (tC (.int 1))) [some (.ref r), some (.int many), none] H3 (D ((n : Int) + 1 - 1)) := e_I0 (g := fun i j => i - j) (e_toI (e_ixV e_is (e_int (i := 1)) (sqL_ex (sq_of r1) e3) (z := .int ((n : Int) + 1)) rfl)) (e_int (i := 1))
    rw [e1] at hix
    refine q_set (e_toI (e_ixV (e_ixV e_is (e_int (i := 0)) (sqL_ex (sq_of r1) e3) (z := .ref p) rfl) hix (sqL_ex s1 e3) hcell)) fun v H4 e4 p4 => ?_
    cases p4.is_int
    have e34 := e3.trans e4
    refine q_setL (P1 := D ((x * 48271 + ns[n] + 11) % 2147483647)) (e_I (C := fun _ j => 0 < j) (g := fun i j => i % j) (by decide) (e_I0 (g := fun i j => i + j) (e_I0 (g := fun i j => i + j) (e_I (C := CMul) (g := fun i j => i * j) (Or.inr (by decide)) (e_toI (e_ixV e_is (e_int (i := 2)) (sqL_ex (sq_of r1) e34) (z := .int x) rfl)) (e_int (i := 48271))) (e_toI e_is)) (e_int (i := 11))) (e_int (i := 2147483647))) (fun _ _ => e_is) (e34 _ _ r1) (m := 2) rfl fun v H5 H6 e5 p5 e6 => ?_
    cases p5.is_int
    have hb := Int.emod_nonneg (x * 48271 + ns[n] + 11) (b := 2147483647) (by decide)
    have hc := Int.emod_lt_of_pos (x * 48271 + ns[n] + 11) (b := 2147483647) (by decide)
    generalize (x * 48271 + ns[n] + 11) % 2147483647 = y at hb hc
    show tRet _ _ _ (upd H6 r (.lst [.ref p, .int ((n : Int) + 1), .int y]))
    have e36 := e34.trans (e5.trans e6)
    have c2 : Chg [r] Ha (upd H6 r (.lst [.ref p, .int ((n : Int) + 1), .int y])) := (Chg.of_ex e36).trans (upd_chg (Hb := H) (e36 _ _ r1) True.intro)
    have r2 : (upd H6 r (.lst [.ref p, .int ((n : Int) + 1), .int y])) r = some (.lst [.ref p, .int ((n : Int) + 1), .int y]) := upd_same
    have s2 := sqL_row (S := []) r1 s1 c2
    generalize upd H6 r (.lst [.ref p, .int ((n : Int) + 1), .int y]) = Hb at c2 r2 s2
    refine s_ret (P := D (ns[n] % many)) (e_I (C := fun _ j => 0 < j) (g := fun i j => i % j) hm (e_toI e_is) (e_toI e_is)) fun v H7 e7 p7 => ?_
    cases p7.is_int
    exact k _ H7 (Int.emod_nonneg _ (by omega)) (Int.emod_lt_of_pos _ hm) ((c1.trans c2).trans (Chg.of_ex e7)) ⟨ns, _, y, e7 _ _ r2, sqL_ex s2 e7, by omega, hb, hc⟩
end
end TK

namespace TK
open PySem L2 PySem.Spec PyProof.Rows
open Enc (enc)
section
variable {K : PySem.W.Frag} {a : Ad} {vs : List V} {H H' : Hp} {Q : VK} {E : XK}
/-! ### the account's parts -/
theorem kne {x y : Str} (h : (x == y) = false) : ¬ (Sum.inr x : Key) = Sum.inr y := fun e => by
  cases e
  rw [beq_self_eq_true] at h
  cases h
theorem mf_ws (M : MA) (n : Int) : valV (mf M n) (Sum.inr ("walkers" : Str)) = some (.ref M.lw) := valV_pos rfl
theorem mf_ts (M : MA) (n : Int) : valV (mf M n) (Sum.inr ("weathers" : Str)) = some (.ref M.lt) := (valV_neg (kne (by decide +kernel))).trans (valV_pos rfl)
theorem mf_fa (M : MA) (n : Int) : valV (mf M n) (Sum.inr ("facts" : Str)) = some (.ref M.df) := (valV_neg (kne (by decide +kernel))).trans ((valV_neg (kne (by decide +kernel))).trans (valV_pos rfl))
theorem mf_cr (M : MA) (n : Int) : valV (mf M n) (Sum.inr ("cross" : Str)) = some (.ref M.dc) := (valV_neg (kne (by decide +kernel))).trans ((valV_neg (kne (by decide +kernel))).trans ((valV_neg (kne (by decide +kernel))).trans (valV_pos rfl)))
theorem mf_gv (M : MA) (n : Int) : valV (mf M n) (Sum.inr ("given" : Str)) = some (.int n) := (valV_neg (kne (by decide +kernel))).trans ((valV_neg (kne (by decide +kernel))).trans ((valV_neg (kne (by decide +kernel))).trans ((valV_neg (kne (by decide +kernel))).trans (valV_pos rfl))))
section
variable {σ : L2.St} {ta te : TE} {g : GS} {M : MA}
theorem e_mget {s : Str} {v : V} (h : EV ta σ H (Is (.ref M.d))) (G : MAt g M H) (hv : valV (mf M g.given) (Sum.inr s) = some v) : EV (tDGet ta (tC (.str s))) σ H (Is v) := fun H1 e Q q =>
  h H1 e _ fun x H2 e2 px => by
    cases px
    have := DGet.k (k := Sum.inr s) ((e.trans e2) _ _ G.dd)
    rw [hv] at this
    exact ⟨M.d, v, rfl, this, q v H2 e2 rfl⟩
theorem e_mws (h : EV ta σ H (Is (.ref M.d))) (G : MAt g M H) : EV (tDGet ta (tC (.str ("walkers" : Str)))) σ H (Ls g.walkers) := (e_mget h G (mf_ws _ _)).imp fun v H1 e p => by cases p; exact G.ws.ex e
theorem e_mts (h : EV ta σ H (Is (.ref M.d))) (G : MAt g M H) : EV (tDGet ta (tC (.str ("weathers" : Str)))) σ H (Ls g.weathers) := (e_mget h G (mf_ts _ _)).imp fun v H1 e p => by cases p; exact G.ts.ex e
theorem e_mfa (h : EV ta σ H (Is (.ref M.d))) (G : MAt g M H) : EV (tDGet ta (tC (.str ("facts" : Str)))) σ H (Is (.ref M.df)) := e_mget h G (mf_fa _ _)
theorem e_mcr (h : EV ta σ H (Is (.ref M.d))) (G : MAt g M H) : EV (tDGet ta (tC (.str ("cross" : Str)))) σ H (Is (.ref M.dc)) := e_mget h G (mf_cr _ _)
theorem e_mgv (h : EV ta σ H (Is (.ref M.d))) (G : MAt g M H) : EV (tDGet ta (tC (.str ("given" : Str)))) σ H (D g.given) := e_toI (e_mget h G (mf_gv _ _))
end
theorem len_w_things (K : PySem.W.Frag) (a : Ad) : ∀ vs H Q E, sp_w_things K a vs H Q E → vs.length = 1 := fun _ _ _ _ ⟨_, _, e, _⟩ => by rw [e]; rfl
theorem p_w_things (T : ClT K a) (h : sp_w_things K a vs H Q E) : t_w_things K a (FinQ Q) (start ["_law_m", "_law_name", "_law_found"] vs) H := by
  obtain ⟨g, M, rfl, G, z1, z2, k⟩ := h
  have zs : (sortN g.walkers).length = g.walkers.length := (sortN_perm g.walkers).length_eq
  refine q_set (e_lc0 (α := Nm) (β := Thing) (fun n => (nWalker, n)) (e_sortedS (e_mws e_is G) z1).ls (by omega) (fun _ => rfl) fun x y H1 _ _ d => e_pair (e_str nWalker) (e_var d)) fun x1 H1 e1 d1 => ?_
  have G1 := G.ex e1
  refine q_for (α := Nm) (e_mts e_is G1) (fun _ _ p => p) (fun H2 v2 pre σ' H' => ∃ (x : V) (n : Option V), σ' = [some (.ref M.d), n, some x] ∧ Ex H2 H' ∧ NL H ((sortN g.walkers).map (fun n => (nWalker, n)) ++ pre.flatMap (fun n => [(nBegin, n), (nEnd, n)])) x H')
    ?_ ?_ ?_ ?_
  · exact fun v2 H2 e2 p2 => ⟨x1, none, rfl, Ex.refl _, by rw [List.flatMap_nil, List.append_nil]; exact d1.ex e2⟩
  · rintro v2 H2 pre σ' H' e2 p2 ⟨x, n, rfl, e3, q⟩
    exact p2.ex e3
  · rintro v2 H2 pre n post y σ' H' e2 p2 hsp ⟨x, nn, rfl, e3, q⟩ dy
    have hl : pre.length ≤ 1000 := by rw [hsp, List.length_append] at z2; omega
    have hz : ((sortN g.walkers).map (fun n => (nWalker, n)) ++ pre.flatMap (fun n => [(nBegin, n), (nEnd, n)])).length ≤ 64 + 2 * pre.length := by
      rw [List.length_append, List.length_map, zs]
      have := fm_len (fun n : Nm => ([(nBegin, n), (nEnd, n)] : List Thing)) 2 pre fun _ _ => by simp
      omega
    refine s_set (e_cat (α := Thing) (e_var q.ls) (e_l2 (e_pair (e_str nBegin) (e_var dy)) (e_pair (e_str nEnd) (e_var dy))).ls (by simp only [List.length_cons, List.length_nil]; omega)) fun x2 H3 e4 d4 => ?_
    refine ⟨x2, _, rfl, e3.trans e4, ?_⟩
    rw [List.flatMap_append, List.flatMap_singleton, ← List.append_assoc]
    exact d4.back (e1.trans (e2.trans e3))
  · rintro v2 H2 σ' H' e2 p2 ⟨x, n, rfl, e3, q⟩
    exact s_ret (e_var (P := NL H g.things) q) fun x2 H3 e4 d4 => k _ _ (e1.trans (e2.trans (e3.trans e4))) d4
theorem len_w_links (K : PySem.W.Frag) (a : Ad) : ∀ vs H Q E, sp_w_links K a vs H Q E → vs.length = 1 := fun _ _ _ _ ⟨_, _, e, _⟩ => by rw [e]; rfl
theorem p_w_links (T : ClT K a) (h : sp_w_links K a vs H Q E) : t_w_links K a (FinQ Q) (start ["_law_fact", "_law_word", "_law_one", "_law_other"] vs) H := by
  obtain ⟨⟨x, y, z⟩, v, rfl, hv, k⟩ := h
  refine q_t3 (e_var hv) fun v1 v2 v3 H1 e1 d1 d2 d3 => ?_
  refine q_if (b_eq (e_var d1) (e_str nOver)) (fun c H2 e2 => ?_) fun c H2 e2 => ?_
  · have hl : linksOf ⟨x, y, z⟩ = [((nWalker, z), (nWalker, y))] := if_pos (of_decide_eq_true c)
    refine s_ret (e_l1 (e_pair (e_pair (e_str nWalker) (e_var (d3.ex e2))) (e_pair (e_str nWalker) (e_var (d2.ex e2))))) fun r H3 e3 p => ?_
    rw [hl] at k
    exact k r H3 (e1.trans (e2.trans e3)) (p.back (e1.trans e2))
  have c1 := of_decide_eq_false c
  refine q_if (b_eq (e_var (d1.ex e2)) (e_str nAhead)) (fun c H3 e3 => ?_) fun c H3 e3 => ?_
  · have hl : linksOf ⟨x, y, z⟩ = [((nWalker, y), (nBegin, z))] := (if_neg c1).trans (if_pos (of_decide_eq_true c))
    refine s_ret (e_l1 (e_pair (e_pair (e_str nWalker) (e_var (d2.ex (e2.trans e3)))) (e_pair (e_str nBegin) (e_var (d3.ex (e2.trans e3)))))) fun r H4 e4 p => ?_
    rw [hl] at k
    exact k r H4 (e1.trans (e2.trans (e3.trans e4))) (p.back (e1.trans (e2.trans e3)))
  have c2 := of_decide_eq_false c
  have e23 := e2.trans e3
  refine q_if (b_eq (e_var (d1.ex e23)) (e_str nAmid)) (fun c H4 e4 => ?_) fun c H4 e4 => ?_
  · have hl : linksOf ⟨x, y, z⟩ = [((nBegin, z), (nWalker, y)), ((nWalker, y), (nEnd, z))] := (if_neg c1).trans ((if_neg c2).trans (if_pos (of_decide_eq_true c)))
    have e24 := e23.trans e4
    refine s_ret (e_l2 (e_pair (e_pair (e_str nBegin) (e_var (d3.ex e24))) (e_pair (e_str nWalker) (e_var (d2.ex e24)))) (e_pair (e_pair (e_str nWalker) (e_var (d2.ex e24))) (e_pair (e_str nEnd) (e_var (d3.ex e24))))) fun r H5 e5 p => ?_
    rw [hl] at k
    exact k r H5 (e1.trans (e24.trans e5)) (p.back (e1.trans e24))
  · have hl : linksOf ⟨x, y, z⟩ = [((nEnd, z), (nWalker, y))] := (if_neg c1).trans ((if_neg c2).trans (if_neg (of_decide_eq_false c)))
    have e24 := e23.trans e4
    refine s_ret (e_l1 (e_pair (e_pair (e_str nEnd) (e_var (d3.ex e24))) (e_pair (e_str nWalker) (e_var (d2.ex e24))))) fun r H5 e5 p => ?_
    rw [hl] at k
    exact k r H5 (e1.trans (e24.trans e5)) (p.back (e1.trans e24))
/-! ### the weather's links, once more -/
theorem moments_eq (ws ths : List Nm) : (allThings ws ths).filter (fun t => !decide (t.1 = nWalker)) = allThings [] ths := by
  have e0 : sortN [] = [] := List.Perm.eq_nil (sortN_perm [])
  unfold allThings
  rw [List.filter_append, e0, List.map_nil, List.nil_append]
  have h1 : ((sortN ws).map fun n => (nWalker, n)).filter (fun t => !decide (t.1 = nWalker)) = [] := by
    rw [List.filter_eq_nil_iff]
    intro t ht
    obtain ⟨n, _, rfl⟩ := List.mem_map.mp ht
    simp
  have h2 : (ths.flatMap fun n => [(nBegin, n), (nEnd, n)]).filter (fun t => !decide (t.1 = nWalker)) = ths.flatMap fun n => [(nBegin, n), (nEnd, n)] := by
    rw [List.filter_eq_self]
    intro t ht
    obtain ⟨n, _, ht⟩ := List.mem_flatMap.mp ht
    simp only [List.mem_cons, List.not_mem_nil, or_false] at ht
    rcases ht with rfl | rfl
    · rw [decide_eq_false (fun z => nWB z.symm)]; rfl
    · rw [decide_eq_false (fun z => nWE z.symm)]; rfl
  rw [h1, h2, List.nil_append]
theorem len_w_all_links (K : PySem.W.Frag) (a : Ad) : ∀ vs H Q E, sp_w_all_links K a vs H Q E → vs.length = 2 := fun _ _ _ _ ⟨_, _, _, _, e, _⟩ => by rw [e]; rfl
theorem p_w_all_links (T : ClT K a) (h : sp_w_all_links K a vs H Q E) : t_w_all_links K a (FinQ Q) (start ["_law_m", "_law_without", "_law_moments", "_law_found", "_law_number", "_law_thing", "_law_k", "_law_one", "_law_other"] vs) H := by
  obtain ⟨g, M, wo, v, rfl, G, ok, hwo, k⟩ := h
  have z1 := ok.lw
  have z2 := ok.lt
  have z3 := ok.lenF
  have hth : EV (tCall (sp_w_things K a) [] E0 (tCons (tVar 0) tNil)) [some (.ref M.d), some v, none, none, none, none, none, none, none] H (NL H g.things) :=
    e_call1 (P1 := Is (.ref M.d)) e_is fun x H1 e p Q q => ⟨g, M, by rw [p], G.ex e, by omega, by omega, fun r H2 e2 n => q r H2 e2 (n.back e)⟩
  have hmo : EV (tLc (iList K (tCall (sp_w_things K a) [] E0 (tCons (tVar 0) tNil))) (gName 5) (tTest (tOp (rNeD K) (tOp (rIxT K) (tVar 5) (tC (.int 0))) (tC (.str ("walker" : Str))))) (tVar 5) [5]) [some (.ref M.d), some v, none, none, none, none, none, none, none] H (NL H (allThings [] g.weathers)) := by
    rw [← moments_eq g.walkers g.weathers]
    have hl : g.things.length ≤ 40000 := by have := ok.lenT; omega
    have := e_lc (K := K) (α := Thing) (β := Thing) (j := 5) (vs := [5]) (tt := tTest (tOp (rNeD K) (tOp (rIxT K) (tVar 5) (tC (.int 0))) (tC (.str ("walker" : Str))))) (te := tVar 5) (fun t => t) (fun t => !decide (t.1 = nWalker)) hth.ls hl (fun _ => rfl) (fun x y H1 _ _ d => b_ne (K := K) (e_ixP0 (e_var (P := D (x.1, x.2)) d)) (e_str nWalker)) (fun x y H1 _ _ _ d => e_var d)
    rwa [List.map_id'] at this
  refine q_set hmo fun v2 H1 e1 p2 => ?_
  have hl : (allThings [] g.weathers).length = 2 * g.weathers.length := by rw [all_len]; simp
  have hwl : EV (tLc (iRng1 (tCons (tOp (rI0 fun i j => .int (i - j)) (tCB (rLen K) (tCons (tVar 2) tNil)) (tC (.int 1))) tNil)) (gName 6) tYes (tTup (tCons (tOp (rIxL K) (tVar 2) (tVar 6)) (tCons (tOp (rIxL K) (tVar 2) (tOp (rI0 fun i j => .int (i + j)) (tVar 6) (tC (.int 1)))) (tCons (tC .non) tNil)))) [6])
      [some (.ref M.d), some v, some v2, none, none, none, none, none, none] H1 (NL H1 (tagL none (weatherLinks g.weathers))) := by
    have et : tagL none (weatherLinks g.weathers) = (List.range ((((allThings [] g.weathers).length : Nat) : Int) - 1).toNat).map fun k => (⟨(allThings [] g.weathers).getD k (nWalker, nWalker), (allThings [] g.weathers).getD (k + 1) (nWalker, nWalker), none⟩ : LinkT) := by
      have e2 : ((((allThings [] g.weathers).length : Nat) : Int) - 1).toNat = (allThings [] g.weathers).length - 1 := by omega
      rw [e2]
      simp only [tagL, weatherLinks, List.map_map]
      rfl
    rw [et]
    have hlen : EV (tCB (rLen K) (tCons (tVar 2) tNil)) [some (.ref M.d), some v, some v2, none, none, none, none, none, none] H1 (D (((allThings [] g.weathers).length : Nat) : Int)) := e_len (e_var p2.ls)
    refine e_lcR (β := LinkT) _ (e_I0 (g := fun i j => i - j) hlen e_int) (by omega) (by omega) (fun _ => rfl) fun i H2 hi e2 => ?_
    have hi : i + 1 < (allThings [] g.weathers).length := by omega
    have d2 := (p2.ex e2).ls
    refine e_t3 (e_ixL (j := i) (x := (allThings [] g.weathers).getD i (nWalker, nWalker)) (e_var d2) (e_var (D.of_int _ _)) ?_) (e_ixL (j := i + 1) (x := (allThings [] g.weathers).getD (i + 1) (nWalker, nWalker)) (e_var d2) (e_I0 (g := fun i j => i + j) (e_var (D.of_int _ _)) e_int) ?_) e_non
    · exact atI_nat (by rw [List.getD_eq_getElem?_getD, List.getElem?_eq_getElem (by omega)]; rfl)
    · exact atI_nat (by rw [List.getD_eq_getElem?_getD, List.getElem?_eq_getElem hi]; rfl)
  refine q_set hwl fun v3 H2 e2 p3 => ?_
  have G2 := G.ex (e1.trans e2)
  have hks : (sortI (keysA g.facts)).length ≤ 60 := by rw [(sortI_perm _).length_eq, keysA, List.length_map]; exact z3
  refine q_for (α := Int) (xs := sortI (keysA g.facts)) (P := NL H2 (sortI (keysA g.facts))) (e_sortedDI (e_mfa e_is G2) G2.fa (by omega)) (fun _ _ p => p.ls)
    (fun H3 v4 pre σ' H' => ∃ (y3 : V) (y4 : Option V), σ' = [some (.ref M.d), some v, some v2, some y3, y4, none, none, none, none] ∧ Ex H3 H' ∧ NL H1 (tagL none (weatherLinks g.weathers) ++ pre.flatMap fun n => if n ∈ wo then [] else linksAt g.facts n) y3 H') ?_ ?_ ?_ ?_
  · exact fun v4 H3 e3 p4 => ⟨v3, none, rfl, Ex.refl _, by rw [List.flatMap_nil, List.append_nil]; exact p3.ex e3⟩
  · rintro v4 H3 pre σ' H' e3 p4 ⟨y3, y4, rfl, e4, q⟩
    exact p4.ls.ex e4
  · rintro v4 H3 pre n post w σ' H' e3 p4 hsp ⟨y3, y4, rfl, e4, q⟩ dw
    cases dw.is_int
    have hn : n ∈ keysA g.facts := (sortI_perm _).mem_iff.mp (by rw [hsp]; simp)
    obtain ⟨f, hf⟩ := getA_some hn
    have hpl : pre.length ≤ 60 := by rw [hsp, List.length_append] at hks; omega
    have hll := ok.lenL pre wo hpl
    have e24 := e2.trans (e3.trans e4)
    unfold gName
    refine s_if (b_notin (α := Int) (e_var (D.of_int n _)) (e_var (P := Ls wo) (hwo.ex (e1.trans e24)))) (fun c H4 e5 => ?_) fun c H4 e5 => ?_
    · have hnw : n ∉ wo := by
        intro z
        rw [memB_iff.mpr z] at c
        cases c
      have G4 := G.ex (e1.trans (e24.trans e5))
      have hlc : EV (tLc (iList K (tCall (sp_w_links K a) [] E0 (tCons (tDGet (tDGet (tVar 0) (tC (.str ("facts" : Str)))) (tVar 4)) tNil))) (gTup K 2 (gCons (gName 7) (gCons (gName 8) gNil))) tYes (tTup (tCons (tVar 7) (tCons (tVar 8) (tCons (tVar 4) tNil)))) [7, 8])
          [some (.ref M.d), some v, some v2, some y3, some (.int n), none, none, none, none] H4 (NL H4 (tagL (some n) (linksOf f))) := by
        have h1 : EV (tCall (sp_w_links K a) [] E0 (tCons (tDGet (tDGet (tVar 0) (tC (.str ("facts" : Str)))) (tVar 4)) tNil)) [some (.ref M.d), some v, some v2, some y3, some (.int n), none, none, none, none] H4 (NL H4 (linksOf f)) :=
          e_call1 (P1 := D f) (e_dget (k := n) (e_mfa e_is G4) (e_var (D.of_int n _)) G4.fa hf) fun x H6 e6 p6 Q q => ⟨f, x, rfl, p6, fun r H7 e7 n => q r H7 e7 (n.back e6)⟩
        have h2 := e_lcG (K := K) (α := PairT) (β := LinkT) (g := gTup K 2 (gCons (gName 7) (gCons (gName 8) gNil))) (tt := tYes) (te := tTup (tCons (tVar 7) (tCons (tVar 8) (tCons (tVar 4) tNil)))) (vs := [7, 8]) (fun q => ⟨q.1, q.2, some n⟩) (fun _ => true) h1.ls (by have := lo_len f; omega) fun x w H5 hx e6 d => by
          obtain ⟨w1, w2, d1, d2, hg⟩ := g_pairX (K := K) (i := 7) (j := 8) (a := x.1) (b := x.2) d
          exact ⟨_, fun H6 Q e q => hg _ H6 Q e q, rfl, b_yes, fun _ => e_t3 (e_var d1) (e_var d2) (e_v rfl fun H1 _ => Td.int n)⟩
        rwa [List.filter_eq_self.mpr (fun _ _ => rfl)] at h2
      refine s_set (e_cat (α := LinkT) (e_var (q.ls.ex e5)) hlc.ls ?_) fun v5 H5 e6 p5 => ?_
      · have := lo_len f
        rw [List.length_map]
        refine Nat.le_trans (Nat.add_le_add hll this) (by decide)
      refine ⟨v5, _, rfl, e4.trans (e5.trans e6), ?_⟩
      have : (pre ++ [n]).flatMap (fun n => if n ∈ wo then [] else linksAt g.facts n) = pre.flatMap (fun n => if n ∈ wo then [] else linksAt g.facts n) ++ tagL (some n) (linksOf f) := by
        rw [List.flatMap_append, List.flatMap_singleton, if_neg hnw]
        unfold linksAt
        rw [hf]
      rw [this, ← List.append_assoc]
      exact p5.back (e24.trans e5)
    · have hnw : n ∈ wo := by simpa [memB_iff] using c
      refine ⟨y3, _, rfl, e4.trans e5, ?_⟩
      have : (pre ++ [n]).flatMap (fun n => if n ∈ wo then [] else linksAt g.facts n) = pre.flatMap (fun n => if n ∈ wo then [] else linksAt g.facts n) := by
        rw [List.flatMap_append, List.flatMap_singleton, if_pos hnw, List.append_nil]
      rw [this]
      exact q.ex e5
  · rintro v4 H3 σ' H' e3 p4 ⟨y3, y4, rfl, e4, q⟩
    refine s_ret (e_var q) fun x H4 e5 p => ?_
    exact k x H4 (e1.trans (e2.trans (e3.trans (e4.trans e5)))) (p.back e1)
theorem len_w_known (K : PySem.W.Frag) (a : Ad) : ∀ vs H Q E, sp_w_known K a vs H Q E → vs.length = 1 := fun _ _ _ _ ⟨_, _, e, _⟩ => by rw [e]; rfl
theorem e_wthings {σ : L2.St} {te : TE} {g : GS} {M : MA} (h : EV te σ H (Is (.ref M.d))) (G : MAt g M H) (ok : GOk g) : EV (tCall (sp_w_things K a) [] E0 (tCons te tNil)) σ H (NL H g.things) :=
  e_call1 (P1 := Is (.ref M.d)) h fun x H1 e p Q q => ⟨g, M, by rw [p], G.ex e, by have := ok.lw; omega, by have := ok.lt; omega, fun r H2 e2 n => q r H2 e2 (n.back e)⟩
theorem e_wlinks {σ : L2.St} {te tw : TE} {g : GS} {M : MA} {wo : List Int} (h : EV te σ H (Is (.ref M.d))) (hw : EV tw σ H (Ls wo)) (G : MAt g M H) (ok : GOk g) : EV (tCall (sp_w_all_links K a) [] E0 (tCons te (tCons tw tNil))) σ H (NL H (allLinks g wo)) :=
  e_call2 (P1 := Is (.ref M.d)) (P2 := Ls wo) h hw fun x y H1 e p1 p2 Q q => ⟨g, M, wo, y, by rw [p1], G.ex e, ok, p2, fun r H2 e2 n => q r H2 e2 (n.back e)⟩
theorem GOk.lenA {g : GS} (ok : GOk g) (wo : List Int) : (allLinks g wo).length ≤ 125 := by
  have h : (sortI (keysA g.facts)).length ≤ 60 := by rw [(sortI_perm _).length_eq, keysA, List.length_map]; exact ok.lenF
  exact ok.lenL _ wo h
theorem p_w_known (T : ClT K a) (h : sp_w_known K a vs H Q E) : t_w_known K a (FinQ Q) (start ["_law_m"] vs) H := by
  obtain ⟨g, M, rfl, G, ok, k⟩ := h
  refine s_ret (P := NL H g.pairs) (e_call2 (P1 := NL H g.things) (P2 := NL H (allLinks g [])) (e_wthings e_is G ok) (e_wlinks e_is e_nil.ls G ok) fun x y H1 e p1 p2 Q q => ?_) fun x H1 e p => k x H1 e p
  exact ⟨g.things, allLinks g [], x, y, rfl, p1.ls, p2.ls, ok.ndT, fun k hk => ok.links hk, ok.acyc, by have := ok.lenT; omega, by have := ok.lenA []; omega, fun r H2 e2 n => q r H2 e2 (n.back e)⟩
theorem pairsOf_mem {things : List Thing} {links : List LinkT} {p : PairT} : p ∈ pairsOf things links ↔ p.1 ∈ things ∧ p.2 ∈ things ∧ Reach links p.1 p.2 := by
  unfold pairsOf
  simp only [List.mem_flatMap, List.mem_map, List.mem_filter, reachB_iff]
  constructor
  · rintro ⟨x, hx, y, ⟨hy, hr⟩, rfl⟩
    exact ⟨hx, hy, hr⟩
  · rintro ⟨h1, h2, h3⟩
    exact ⟨p.1, h1, p.2, ⟨h2, h3⟩, rfl⟩
theorem len_w_closes (K : PySem.W.Frag) (a : Ad) : ∀ vs H Q E, sp_w_closes K a vs H Q E → vs.length = 2 := fun _ _ _ _ ⟨_, _, _, _, e, _⟩ => by rw [e]; rfl
theorem p_w_closes (T : ClT K a) (h : sp_w_closes K a vs H Q E) : t_w_closes K a (FinQ Q) (start ["_law_m", "_law_fact", "_law_known_here", "_law_link"] vs) H := by
  obtain ⟨g, M, f, v, rfl, G, ok, df, hf, k⟩ := h
  refine q_set (P := NL H g.pairs) (e_call1 (P1 := Is (.ref M.d)) e_is fun x H1 e p Q q => ⟨g, M, by rw [p], G.ex e, ok, fun r H2 e2 n => q r H2 e2 (n.back e)⟩) fun v2 H1 e1 p2 => ?_
  have hcl : closes g f = !decide ((linksOf f).filter (fun l => memB (l.2, l.1) g.pairs) = []) := by
    rw [Bool.eq_iff_iff, closes_iff]
    simp only [Bool.not_eq_true', decide_eq_false_iff_not, List.filter_eq_nil_iff]
    constructor
    · rintro ⟨e, he, hr⟩ hall
      have := lo_mem hf he
      exact hall e he (memB_iff.mpr (pairsOf_mem.mpr ⟨this.2, this.1, hr⟩))
    · intro hn
      refine Classical.byContradiction fun hx => hn fun e he hm => hx ⟨e, he, ?_⟩
      exact (pairsOf_mem.mp (memB_iff.mp hm)).2.2
  refine s_ret (P := Is (.bl (closes g f))) ?_ fun r H2 e2 p => by cases p; exact k H2 (e1.trans e2)
  rw [hcl]
  have hlo : EV (tCall (sp_w_links K a) [] E0 (tCons (tVar 1) tNil)) [some (.ref M.d), some v, some v2, none] H1 (NL H1 (linksOf f)) := e_call1 (P1 := D f) (e_var (df.ex e1)) fun x H6 e6 p6 Q q => ⟨f, x, rfl, p6, fun r H7 e7 n => q r H7 e7 (n.back e6)⟩
  have hlc := e_lc (K := K) (α := PairT) (β := PairT) (j := 3) (vs := [3]) (tt := tTest (tOp (rInD K) (tTup (tCons (tOp (rIxT K) (tVar 3) (tC (.int 1))) (tCons (tOp (rIxT K) (tVar 3) (tC (.int 0))) tNil))) (tVar 2))) (te := tVar 3) (fun t => t) (fun l => memB (l.2, l.1) g.pairs) hlo.ls (by have := lo_len f; omega) (fun _ => rfl)
    (fun x y H2 _ e2 d => b_in (α := PairT) (e_pair (e_ixP1 (K := K) (a := x.1) (b := x.2) (e_var d)) (e_ixP0 (K := K) (a := x.1) (b := x.2) (e_var d))) (e_var (p2.ls.ex e2))) (fun x y H2 _ _ _ d => e_var d)
  rw [List.map_id'] at hlc
  exact e_neLB (α := PairT) hlc.ls e_nil.ls
end
end TK

namespace TK
open PySem L2 PySem.Spec PyProof.Rows
open Enc (enc)
def nTell : Nm := nmOf "tell"
def nCross : Nm := nmOf "cross"
def nTake : Nm := nmOf "take"
def nSettle : Nm := nmOf "settle"
section
variable {K : PySem.W.Frag} {a : Ad} {vs : List V} {H H' : Hp} {Q : VK} {E : XK}
/-- x in a tuple of names, as a value -/
theorem e_inTnB {σ : L2.St} {ta tb : TE} {n : Nm} {ws : List Nm} (h1 : EV ta σ H (D n)) (h2 : EV tb σ H (TupN ws)) : EV (tOp (rIn K false) ta tb) σ H (Is (.bl (decide (n ∈ ws)))) :=
  e_bl h1 h2 fun x y H1 e p p' Q q => by
    cases p.is_nm
    obtain ⟨l, rfl, hs⟩ := tupN_sq (K := K) p'
    exact ⟨l, _, rfl, Or.inr hs, rfl, flat_strs ws, by rw [inV_strs]; exact q⟩
theorem len_w_is_fact (K : PySem.W.Frag) (a : Ad) : ∀ vs H Q E, sp_w_is_fact K a vs H Q E → vs.length = 2 := fun _ _ _ _ ⟨_, _, _, _, e, _⟩ => by rw [e]; rfl
theorem p_w_is_fact (T : ClT K a) (h : sp_w_is_fact K a vs H Q E) : t_w_is_fact K a (FinQ Q) (start ["_law_m", "_law_fact"] vs) H := by
  obtain ⟨g, M, xs, v, rfl, G, hv, hz, k⟩ := h
  have hlen : EV (tCB (rLen K) (tCons (tVar 1) tNil)) [some (.ref M.d), some v] H (D (xs.length : Int)) := e_lenT (e_var (P := TupN xs) hv)
  by_cases h3 : ∃ x y z, xs = [x, y, z]
  · obtain ⟨x, y, z, rfl⟩ := h3
    have t0 : ∀ {H1 : Hp}, Ex H H1 → EV (tOp (rIxT K) (tVar 1) (tC (.int 0))) [some (.ref M.d), some v] H1 (D x) := fun e => e_ixTN (j := 0) (e_var (up (P := TupN [x, y, z]) hv e)) rfl
    have t1 : ∀ {H1 : Hp}, Ex H H1 → EV (tOp (rIxT K) (tVar 1) (tC (.int 1))) [some (.ref M.d), some v] H1 (D y) := fun e => e_ixTN (j := 1) (e_var (up (P := TupN [x, y, z]) hv e)) rfl
    have t2 : ∀ {H1 : Hp}, Ex H H1 → EV (tOp (rIxT K) (tVar 1) (tC (.int 2))) [some (.ref M.d), some v] H1 (D z) := fun e => e_ixTN (j := 2) (e_var (up (P := TupN [x, y, z]) hv e)) rfl
    refine q_if (b_or (b_ne (α := Int) hlen (e_int (i := 3))) fun _ => b_notin (t1 (Ex.refl H)) (e_mws e_is G)) (fun c H1 e1 => ?_) fun c H1 e1 => ?_
    · have hy : decide (y ∈ g.walkers) = false := by
        simp only [List.length_cons, List.length_nil, Bool.or_eq_true, Bool.not_eq_true', decide_eq_false_iff_not] at c
        rcases c with c | c
        · exact absurd rfl c
        · exact c
      have hf : isFactL [x, y, z] g.walkers g.weathers = false := by
        show isFact3 ⟨x, y, z⟩ _ _ = false
        unfold isFact3
        rw [hy, Bool.and_false]; rfl
      rw [hf] at k
      exact k H1 e1
    have hy : decide (y ∈ g.walkers) = true := by
      simp only [Bool.or_eq_false_iff, Bool.not_eq_false'] at c
      exact c.2
    have G1 := G.ex e1
    refine q_if (b_eq (t0 e1) (e_str nOver)) (fun c H2 e2 => ?_) fun c H2 e2 => ?_
    · have hx := of_decide_eq_true c
      have hf : isFactL [x, y, z] g.walkers g.weathers = (memB z g.walkers && !decide (y = z)) := by
        show isFact3 ⟨x, y, z⟩ _ _ = _
        have hw : isWord x = true := by unfold isWord; rw [decide_eq_true hx]; rfl
        unfold isFact3
        rw [hy, hw, if_pos hx]
        show (decide (z ∈ g.walkers) && !decide (z = y)) = _
        rw [show decide (z = y) = decide (y = z) from decide_eq_decide.mpr eq_comm]
        rfl
      rw [hf] at k
      refine s_ret (P := Is (.bl (memB z g.walkers && !decide (y = z)))) (e_andV (e_inB (t2 (e1.trans e2)) (e_mws e_is (G1.ex e2))) fun _ => e_neB (t1 (e1.trans e2)) (t2 (e1.trans e2))) fun r H3 e3 p => by cases p; exact k H3 (e1.trans (e2.trans e3))
    · have hx := of_decide_eq_false c
      have hf : isFactL [x, y, z] g.walkers g.weathers = (decide (x ∈ [nAhead, nAmid, nBehind]) && memB z g.weathers) := by
        show isFact3 ⟨x, y, z⟩ _ _ = _
        have hw : isWord x = decide (x ∈ [nAhead, nAmid, nBehind]) := by
          unfold isWord
          rw [decide_eq_false hx, Bool.false_or, ← Bool.decide_or, ← Bool.decide_or]
          exact decide_eq_decide.mpr (by simp [or_assoc])
        unfold isFact3
        rw [hy, hw, if_neg hx, Bool.and_true]
        rfl
      rw [hf] at k
      have ht : EV (tTup (tCons (tC (.str ("ahead" : Str))) (tCons (tC (.str ("amid" : Str))) (tCons (tC (.str ("behind" : Str))) tNil)))) [some (.ref M.d), some v] H2 (TupN [nAhead, nAmid, nBehind]) := (e_t3 (e_str nAhead) (e_str nAmid) (e_str nBehind)).imp fun _ _ _ p => p
      refine s_ret (P := Is (.bl (decide (x ∈ [nAhead, nAmid, nBehind]) && memB z g.weathers))) (e_andV (e_inTnB (t0 (e1.trans e2)) ht) fun _ => e_inB (t2 (e1.trans e2)) (e_mts e_is (G1.ex e2))) fun r H3 e3 p => by cases p; exact k H3 (e1.trans (e2.trans e3))
  · have hl : ¬ xs.length = 3 := fun e => h3 (by
      match xs, e with
      | [x, y, z], _ => exact ⟨x, y, z, rfl⟩)
    have hf : isFactL xs g.walkers g.weathers = false := by
      have : factL xs = none := by
        match xs, h3 with
        | [], _ => rfl
        | [_], _ => rfl
        | [_, _], _ => rfl
        | [x, y, z], h => exact absurd ⟨x, y, z, rfl⟩ h
        | _ :: _ :: _ :: _ :: _, _ => rfl
      unfold isFactL
      rw [this]
    have hne : (!decide ((xs.length : Int) = 3)) = true := by simp; omega
    refine q_if (b_or (b := false) (b_ne (α := Int) hlen (e_int (i := 3))) fun c => by rw [hne] at c; cases c) (fun c H1 e1 => ?_) fun c H1 e1 => ?_
    · rw [hf] at k
      exact k H1 e1
    · rw [hne] at c; cases c
/-! ### the account changes -/
section
variable {g : GS} {M : MA}
theorem MAt.nl (G : MAt g M H) : M.lw ∉ [M.d, M.df, M.dc] ∧ M.lt ∉ [M.d, M.df, M.dc] := ⟨G.ws.nin G.objs, G.ts.nin G.objs⟩
theorem MAt.setFa (G : MAt g M H) {fs : List (Int × Fact)} (c : Chg [M.df] H H') (h : DkAt H' M.df fs) : MAt { g with facts := fs } M H' := by
  have n1 := G.nl
  have n2 := G.nd
  simp only [List.mem_cons, List.not_mem_nil, or_false, not_or, List.nodup_cons, List.nodup_nil, not_false_eq_true, and_true] at n1 n2
  exact ⟨c.keep _ _ (by simpa using n2.1.1) G.dd, G.ws.chg c (by simpa using n1.1.2.1), G.ts.chg c (by simpa using n1.2.2.1), h, G.cr.chg c (by simpa using Ne.symm n2.2), G.nd⟩
theorem MAt.setCr (G : MAt g M H) {fs : List (Int × (Nm × Nm))} (c : Chg [M.dc] H H') (h : DkAt H' M.dc fs) : MAt { g with cross := fs } M H' := by
  have n1 := G.nl
  have n2 := G.nd
  simp only [List.mem_cons, List.not_mem_nil, or_false, not_or, List.nodup_cons, List.nodup_nil, not_false_eq_true, and_true] at n1 n2
  exact ⟨c.keep _ _ (by simpa using n2.1.2) G.dd, G.ws.chg c (by simpa using n1.1.2.2), G.ts.chg c (by simpa using n1.2.2.2), G.fa.chg c (by simpa using n2.2), h, G.nd⟩
theorem mf_put (M : MA) (n m : Int) : putK (mf M n) (Sum.inr ("given" : Str)) (.int m) = mf M m := by
  have h1 : ((mf M n).any fun kv => decide (kv.1 = Sum.inr ("given" : Str))) = true := by
    rw [valV_any, mf_gv]; rfl
  unfold putK
  rw [if_pos h1]
  have k1 : ¬ (Sum.inr ("walkers" : Str) : Key) = Sum.inr ("given" : Str) := kne (by decide +kernel)
  have k2 : ¬ (Sum.inr ("weathers" : Str) : Key) = Sum.inr ("given" : Str) := kne (by decide +kernel)
  have k3 : ¬ (Sum.inr ("facts" : Str) : Key) = Sum.inr ("given" : Str) := kne (by decide +kernel)
  have k4 : ¬ (Sum.inr ("cross" : Str) : Key) = Sum.inr ("given" : Str) := kne (by decide +kernel)
  simp only [mf, List.map_cons, List.map_nil, if_neg k1, if_neg k2, if_neg k3, if_neg k4, if_pos]
theorem q_mgv {σ : L2.St} {Z : Ends} {tr : TS} {ta te : TE} {n : Int} (h : EV te σ H (D n)) (hm : EV ta σ H (Is (.ref M.d))) (G : MAt g M H) (k : ∀ H1 H2, Ex H H1 → Chg [M.d] H1 H2 → MAt { g with given := n } M H2 → tr Z σ H2) :
    tSeq (sDPut ta (tC (.str ("given" : Str))) te) tr Z σ H :=
  h.run fun v H1 e p1 => hm H1 e _ fun y H2 e2 py => by
    cases py
    cases p1.is_int
    have G2 := G.ex (e.trans e2)
    have hp := DPut.k (k := Sum.inr ("given" : Str)) (v := V.int n) G2.dd (sz_lt (by simp [mf]))
    rw [mf_put] at hp
    have c : Chg [M.d] H2 (upd H2 M.d (.dK (mf M n))) := upd_chg (Hb := H2) G2.dd True.intro
    refine ⟨M.d, _, rfl, hp, k H2 _ (e.trans e2) c ?_⟩
    have n1 := G2.nl
    have n2 := G2.nd
    simp only [List.mem_cons, List.not_mem_nil, or_false, not_or, List.nodup_cons, List.nodup_nil, not_false_eq_true, and_true] at n1 n2
    exact ⟨upd_same, G2.ws.chg c (by simpa using n1.1.1), G2.ts.chg c (by simpa using n1.2.1), G2.fa.chg c (by simpa using Ne.symm n2.1.1), G2.cr.chg c (by simpa using Ne.symm n2.1.2), G2.nd⟩
theorem e_mfull {σ : L2.St} {te : TE} (h : EV te σ H (Is (.ref M.d))) (G : MAt g M H) :
    EV (tOp (rI0 fun i j => .bl (decide (j ≤ i))) (tOp (rI0 fun i j => .int (i + j)) (tLenD (tCons (tDGet te (tC (.str ("facts" : Str)))) tNil)) (tLenD (tCons (tDGet te (tC (.str ("cross" : Str)))) tNil))) (tC (.int 60))) σ H (Is (.bl g.full)) := by
  have h1 := e_B0 (g := fun i j => decide (j ≤ i)) (e_I0 (g := fun i j => i + j) (e_lenD (e_mfa h G) G.fa) (e_lenD (e_mcr h G) G.cr)) (e_int (σ := σ) (H := H) (i := 60))
  have e : decide ((60 : Int) ≤ (g.facts.length : Int) + (g.cross.length : Int)) = g.full := by
    unfold GS.full
    exact decide_eq_decide.mpr (by omega)
  rw [e] at h1
  exact h1
end
/-- d.pop(k, None) -/
theorem q_Kpop2 {α : Type} [DecidableEq α] [Enc α] {σ : L2.St} {Z : Ends} {tr : TS} {ta tb : TE} {d : Addr} {kvs : List (Int × α)} {x : Int} (hd : EV ta σ H (Is (.ref d))) (hx : EV tb σ H (D x)) (ha : DkAt H d kvs)
    (k : ∀ H1 H2, Ex H H1 → Chg [d] H1 H2 → DkAt H2 d (dropA kvs x) → tr Z σ H2) : tSeq (tDrop (tDPop2 ta tb (tC .non))) tr Z σ H :=
  hd.run fun y H1 e py => by
    cases py
    obtain ⟨vs0, h0, _⟩ := ha.ex e
    refine ⟨d, rfl, Or.inl ⟨_, Or.inl h0⟩, hx H1 e _ fun w H2 e2 pz => ?_⟩
    cases pz.is_int
    obtain ⟨vs, h1, h2⟩ := ha.ex (e.trans e2)
    refine ⟨vs, Sum.inl x, h1, rfl, fun v' q => k H2 _ (e.trans e2) (upd_chg (Hb := H2) h1 True.intro) ⟨_, upd_same, ?_⟩, fun q => ?_⟩
    · exact prD_t (TEx.upd h1 True.intro) (prD_drop inl_inj' h2 x)
    · have hn : x ∉ keysA kvs := fun z => by
        obtain ⟨u, hu⟩ := getA_some z
        rcases prD_val inl_inj' h2 x with ⟨q1, _⟩ | ⟨_, _, _, q2, _⟩
        · rw [hu] at q1; cases q1
        · rw [q] at q2; cases q2
      refine k H2 H2 (e.trans e2) (Chg.of_ex (Ex.refl _)) ?_
      rw [dropA_not hn]
      exact ⟨vs, h1, h2⟩
theorem q_deed {σ : L2.St} {Z : Ends} {tr : TS} {te : TE} {t : Addr} {w x y : V} {i j l : Nat} (h : EV te σ H (Is (.ref t))) (ht : H t = some (.tup [w, x, y])) (k : ∀ H1, Ex H H1 → tr Z (((σ.set i (some w)).set j (some x)).set l (some y)) H1) :
    tSeq (tAsg te (gTup K 3 (gCons (gName i) (gCons (gName j) (gCons (gName l) gNil))))) tr Z σ H :=
  h.run fun v H1 e p => by
    cases p
    exact ⟨t, [w, x, y], rfl, st_of (e _ _ ht), rfl, _, _, rfl, _, _, rfl, _, _, rfl, rfl, k H1 e⟩
end
end TK

namespace TK
open PySem L2 PySem.Spec PyProof.Rows
open Enc (enc)
section
variable {K : PySem.W.Frag} {a : Ad} {vs : List V} {H H' : Hp} {Q : VK} {E : XK}
theorem nm1 : decide (nTell = nTake) = false := by decide +kernel
theorem nm2 : decide (nTell = nSettle) = false := by decide +kernel
theorem nm3 : decide (nTell = nCross) = false := by decide +kernel
theorem nm4 : decide (nCross = nTake) = false := by decide +kernel
theorem nm5 : decide (nCross = nSettle) = false := by decide +kernel
theorem nm6 : decide (nSettle = nTake) = false := by decide +kernel
theorem nm7 : decide (nCross = nTell) = false := by decide +kernel
theorem nm8 : decide (nTake = nTell) = false := by decide +kernel
theorem nm9 : decide (nTake = nCross) = false := by decide +kernel
theorem nmA : decide (nSettle = nTell) = false := by decide +kernel
theorem nmB : decide (nSettle = nCross) = false := by decide +kernel
theorem e_nmC {σ : L2.St} {i : Nat} (n : Nm) (h : σ[i]? = some (some (.str n.s)) := by rfl) : EV (tVar i) σ H (D n) := e_var (D.of_nm n H) h
theorem e_intC {σ : L2.St} {i : Nat} (n : Int) (h : σ[i]? = some (some (.int n)) := by rfl) : EV (tVar i) σ H (D n) := e_var (D.of_int n H) h
/-- word == "..", the word known -/
theorem b_wd {σ : L2.St} {i : Nat} {x : Str} (n m : Nm) {b : Bool} (hx : m.s = x) (e : decide (n = m) = b) (h : σ[i]? = some (some (.str n.s)) := by rfl) : EB (tTest (tOp (rEqD K) (tVar i) (tC (.str x)))) σ H b :=
  b_to (b_eq (α := Nm) (e_nmC n h) (e_str m hx)) e
theorem b_tv {σ : L2.St} {i : Nat} {b : Bool} (h : σ[i]? = some (some (.bl b)) := by rfl) : EB (tB (tVar i)) σ H b := b_val (e_is h)
theorem len_w_due (K : PySem.W.Frag) (a : Ad) : ∀ vs H Q E, sp_w_due K a vs H Q E → vs.length = 2 := fun _ _ _ _ ⟨_, _, _, _, e, _⟩ => by rw [e]; rfl
theorem p_w_due (T : ClT K a) (h : sp_w_due K a vs H Q E) : t_w_due K a (FinQ Q) (start ["_law_m", "_law_deed_here", "_law_word", "_law_one", "_law_other", "_law_number", "_law_pair", "_law_fact", "_law_full"] vs) H := by
  obtain ⟨g, M, dd, v, rfl, G, ok, ⟨t, w, x, y, rfl, ht, hdd⟩, k⟩ := h
  refine q_deed e_is ht fun H1 e1 => ?_
  have G1 := G.ex e1
  have hn := ok.new_n
  have hlF := ok.lenF
  have hlC : g.cross.length ≤ 60 := by have := ok.many; omega
  refine q_set (e_mgv e_is G1) fun v5 H2 e2 p5 => ?_
  cases p5.is_int
  have e12 := e1.trans e2
  have G2 := G1.ex e2
  cases dd with
  | tell xs =>
    obtain ⟨rfl, hx, rfl, hz⟩ := hdd
    refine q_if (b_wd nTell nTake rfl nm1) (fun c => by cases c) fun _ H3 e3 => ?_
    refine q_if (b_wd nTell nSettle rfl nm2) (fun c => by cases c) fun _ H4 e4 => ?_
    refine q_set (e_mfull e_is (G2.ex (e3.trans e4))) fun v8 H5 e5 p8 => ?_
    cases p8
    have e15 := e12.trans (e3.trans (e4.trans e5))
    have hx5 : TupN xs x H5 := td_t e15.t _ hx
    have G5 := G.ex e15
    refine q_if2 (b_wd nTell nCross rfl nm3) (fun c => by cases c) fun _ H6 e6 => ?_
    have hif : EV (tCall (sp_w_is_fact K a) [] E0 (tCons (tVar 0) (tCons (tVar 3) tNil))) [some (.ref M.d), some (.ref t), some (.str ("tell" : Str)), some x, some .non, some (.int g.given), none, none, some (.bl g.full)] H6 (Is (.bl (isFactL xs g.walkers g.weathers))) :=
      e_call2 (P1 := Is (.ref M.d)) (P2 := TupN xs) e_is (e_var (up hx5 e6)) fun u1 u2 H7 e7 p1 p2 Q q => ⟨g, M, xs, u2, by rw [p1], G5.ex (e6.trans e7), p2, hz, fun H' e' => q _ H' e' rfl⟩
    refine q_if (b_not (b_val hif)) (fun c H7 e7 => ?_) fun c H7 e7 => ?_
    · have hw : doG g (.tell xs) = (.word wNoFact, g) := by
        unfold isFactL at c
        cases hfl : factL xs with
        | none => simp only [doG, hfl]
        | some f =>
          rw [hfl] at c
          have c : isFact3 f g.walkers g.weathers = false := by simpa using c
          simp only [doG, hfl]
          exact if_pos c
      rw [hw] at k
      exact k H7 (Chg.of_ex (e15.trans (e6.trans e7))) (G5.ex (e6.trans e7))
    obtain ⟨f, hfl, hff⟩ : ∃ f, factL xs = some f ∧ isFact3 f g.walkers g.weathers = true := by
      unfold isFactL at c
      cases hfl : factL xs with
      | none => rw [hfl] at c; cases c
      | some f => rw [hfl] at c; exact ⟨f, rfl, by simpa using c⟩
    have df : D f x H5 := by
      match xs, hfl with
      | [x1, x2, x3], q =>
        cases q
        exact hx5
    have hd0 : doG g (.tell xs) = if g.full = true then (.word wFull, g) else if closes g f = true then (.word wRing, g) else (.num g.given, { g with facts := putA g.facts g.given f, given := g.given + 1 }) := by
      simp only [doG, hfl]
      rw [if_neg (by rw [hff]; decide)]
    have hcl : EV (tCall (sp_w_closes K a) [] E0 (tCons (tVar 0) (tCons (tVar 3) tNil))) [some (.ref M.d), some (.ref t), some (.str ("tell" : Str)), some x, some .non, some (.int g.given), none, none, some (.bl g.full)] H7 (Is (.bl (closes g f))) :=
      e_call2 (P1 := Is (.ref M.d)) (P2 := D f) e_is (e_var (df.ex (e6.trans e7))) fun u1 u2 H8 e8 p1 p2 Q q => ⟨g, M, f, u2, by rw [p1], G5.ex (e6.trans (e7.trans e8)), ok, p2, hff, fun H' e' => q _ H' e' rfl⟩
    cases hfu : g.full with
    | true =>
      rw [hfu] at hd0 hcl
      rw [if_pos rfl] at hd0
      rw [hd0] at k
      refine q_if (b_and (a := false) (b := false) (b_not (b_tv (σ := [some (.ref M.d), some (.ref t), some (.str ("tell" : Str)), some x, some .non, some (.int g.given), none, none, some (.bl true)]) (i := 8) (b := true))) fun c => by cases c) (fun c => by cases c) fun _ H8 e8 => ?_
      refine s_if (b_not b_tv) (fun c => by cases c) fun _ H9 e9 => ?_
      refine q_if b_tv (fun _ HA eA => ?_) fun c => by cases c
      have eF := e15.trans (e6.trans (e7.trans (e8.trans (e9.trans eA))))
      exact k HA (Chg.of_ex eF) (G.ex eF)
    | false =>
      rw [hfu] at hd0 hcl
      rw [if_neg (by decide)] at hd0
      refine q_if (b_and (a := true) (b_not (b_tv (σ := [some (.ref M.d), some (.ref t), some (.str ("tell" : Str)), some x, some .non, some (.int g.given), none, none, some (.bl false)]) (i := 8) (b := false))) fun _ => b_val hcl) (fun c H8 e8 => ?_) fun c H8 e8 => ?_
      · rw [Bool.true_and] at c
        rw [if_pos c] at hd0
        rw [hd0] at k
        have eF := e15.trans (e6.trans (e7.trans e8))
        exact k H8 (Chg.of_ex eF) (G.ex eF)
      · rw [Bool.true_and] at c
        rw [if_neg (by rw [c]; decide)] at hd0
        rw [hd0] at k
        refine s_if (b_not b_tv) (fun _ H9 e9 => ?_) fun c => by cases c
        have e69 := e6.trans (e7.trans (e8.trans e9))
        have G9 := G5.ex e69
        refine s_Kput (α := Fact) (x := g.given) (z := f) (e_var (df.ex e69)) (e_mfa e_is G9) (e_intC _) G9.fa (by omega) fun HA HB eA cB dB => ?_
        have GB := (G9.ex eA).setFa cB dB
        refine q_if b_tv (fun c => by cases c) fun _ HC eC => ?_
        refine q_mgv (n := g.given + 1) (e_I0 (g := fun i j => i + j) (e_intC _) (e_int (i := 1))) e_is (GB.ex eC) fun HD HE eD cE GE => ?_
        refine s_ret e_is fun u HF eF p => ?_
        cases p
        exact k HF ((((((Chg.of_ex (e15.trans (e69.trans eA))).trans (cB.mono (by simp))).trans (Chg.of_ex (eC.trans eD))).trans (cE.mono (by simp))).trans (Chg.of_ex eF))) (GE.ex eF)
  | cross p q =>
    obtain ⟨rfl, rfl, rfl⟩ := hdd
    refine q_if (b_wd nCross nTake rfl nm4) (fun c => by cases c) fun _ H3 e3 => ?_
    refine q_if (b_wd nCross nSettle rfl nm5) (fun c => by cases c) fun _ H4 e4 => ?_
    refine q_set (e_mfull e_is (G2.ex (e3.trans e4))) fun v8 H5 e5 p8 => ?_
    cases p8
    have e15 := e12.trans (e3.trans (e4.trans e5))
    have G5 := G.ex e15
    refine q_if2 (b_wd nCross nCross rfl (decide_eq_true rfl)) (fun _ H6 e6 => ?_) fun c => by cases c
    have G6 := G5.ex e6
    refine q_if (b_or (b_notin (α := Nm) (e_nmC p) (e_mws e_is G6)) fun _ => b_or (b_notin (α := Nm) (e_nmC q) (e_mws e_is G6)) fun _ => b_eq (α := Nm) (K := K) (e_nmC p) (e_nmC q)) (fun c H7 e7 => ?_) fun c H7 e7 => ?_
    · have hc : p ∉ g.walkers ∨ q ∉ g.walkers ∨ p = q := by
        simp only [Bool.or_eq_true, Bool.not_eq_true', decide_eq_true_eq] at c
        exact c.imp (fun q z => by rw [memB_iff.mpr z] at q; cases q) fun c => c.imp (fun q z => by rw [memB_iff.mpr z] at q; cases q) id
      have hw : doG g (.cross p q) = (.word wNoFact, g) := if_pos hc
      rw [hw] at k
      exact k H7 (Chg.of_ex (e15.trans (e6.trans e7))) (G6.ex e7)
    have hc : ¬ (p ∉ g.walkers ∨ q ∉ g.walkers ∨ p = q) := by
      simp only [Bool.or_eq_false_iff, Bool.not_eq_false', decide_eq_false_iff_not, memB_iff] at c
      rintro (q | q | q)
      · exact q c.1
      · exact q c.2.1
      · exact c.2.2 q
    have hd0 : doG g (.cross p q) = if g.full = true then (.word wFull, g) else (.num g.given, { g with cross := putA g.cross g.given (p, q), given := g.given + 1 }) := if_neg hc
    cases hfu : g.full with
    | true =>
      rw [hfu] at hd0
      rw [if_pos rfl] at hd0
      rw [hd0] at k
      refine s_if (b_not b_tv) (fun c => by cases c) fun _ H9 e9 => ?_
      refine q_if b_tv (fun _ HA eA => ?_) fun c => by cases c
      have eF := e15.trans (e6.trans (e7.trans (e9.trans eA)))
      exact k HA (Chg.of_ex eF) (G.ex eF)
    | false =>
      rw [hfu] at hd0
      rw [if_neg (by decide)] at hd0
      rw [hd0] at k
      refine s_if (b_not b_tv) (fun _ H9 e9 => ?_) fun c => by cases c
      have e69 := e6.trans (e7.trans e9)
      have G9 := G5.ex e69
      refine s_Kput (α := Nm × Nm) (x := g.given) (z := (p, q)) (e_pair (e_nmC p) (e_nmC q)) (e_mcr e_is G9) (e_intC _) G9.cr (by omega) fun HA HB eA cB dB => ?_
      have GB := (G9.ex eA).setCr cB dB
      refine q_if b_tv (fun c => by cases c) fun _ HC eC => ?_
      refine q_mgv (n := g.given + 1) (e_I0 (g := fun i j => i + j) (e_intC _) (e_int (i := 1))) e_is (GB.ex eC) fun HD HE eD cE GE => ?_
      refine s_ret e_is fun u HF eF p => ?_
      cases p
      exact k HF ((((((Chg.of_ex (e15.trans (e69.trans eA))).trans (cB.mono (by simp))).trans (Chg.of_ex (eC.trans eD))).trans (cE.mono (by simp))).trans (Chg.of_ex eF))) (GE.ex eF)
  | take n =>
    obtain ⟨rfl, rfl, rfl⟩ := hdd
    refine q_if (b_wd nTake nTake rfl (decide_eq_true rfl)) (fun _ H3 e3 => ?_) fun c => by cases c
    have G3 := G2.ex e3
    refine q_if (b_and (b_dnotin (k := n) (e_intC n) (e_mfa e_is G3) G3.fa) fun _ => b_dnotin (k := n) (e_intC n) (e_mcr e_is G3) G3.cr) (fun c H4 e4 => ?_) fun c H4 e4 => ?_
    · have hc : n ∉ keysA g.facts ∧ n ∉ keysA g.cross := by
        simp only [Bool.and_eq_true, Bool.not_eq_true'] at c
        exact ⟨fun z => (by rw [memB_iff.mpr z] at c; cases c.1), fun z => (by rw [memB_iff.mpr z] at c; cases c.2)⟩
      have hw : doG g (.take n) = (.word wNoSuch, g) := if_pos hc
      rw [hw] at k
      have eF := e12.trans (e3.trans e4)
      exact k H4 (Chg.of_ex eF) (G.ex eF)
    · have hc : ¬ (n ∉ keysA g.facts ∧ n ∉ keysA g.cross) := fun z => by
        have h1 : memB n (keysA g.facts) = false := decide_eq_false z.1
        have h2 : memB n (keysA g.cross) = false := decide_eq_false z.2
        rw [h1, h2] at c
        cases c
      have hw : doG g (.take n) = (.non, { g with facts := dropA g.facts n, cross := dropA g.cross n }) := if_neg hc
      rw [hw] at k
      have G4 := G3.ex e4
      refine q_Kpop2 (x := n) (e_mfa e_is G4) (e_intC n) G4.fa fun H5 H6 e5 c6 d6 => ?_
      have G6 := (G4.ex e5).setFa c6 d6
      refine q_Kpop2 (x := n) (e_mcr e_is G6) (e_intC n) G6.cr fun H7 H8 e7 c8 d8 => ?_
      have G8 := (G6.ex e7).setCr c8 d8
      exact k H8 ((((Chg.of_ex (e12.trans (e3.trans (e4.trans e5)))).trans (c6.mono (by simp))).trans (Chg.of_ex e7)).trans (c8.mono (by simp))) G8
  | settle n o =>
    obtain ⟨rfl, rfl, rfl⟩ := hdd
    refine q_if (b_wd nSettle nTake rfl nm6) (fun c => by cases c) fun _ H3 e3 => ?_
    refine q_if (b_wd nSettle nSettle rfl (decide_eq_true rfl)) (fun _ H4 e4 => ?_) fun c => by cases c
    have e14 := e12.trans (e3.trans e4)
    have G4 := G.ex e14
    refine q_if (b_dnotin (k := n) (e_intC n) (e_mcr e_is G4) G4.cr) (fun c H5 e5 => ?_) fun c H5 e5 => ?_
    · have hg : getA g.cross n = none := by
        have := getA_isSome g.cross n
        rw [(by simpa using c : memB n (keysA g.cross) = false)] at this
        simpa using this
      have hw : doG g (.settle n o) = (.word wNoSuch, g) := by simp only [doG, hg]
      rw [hw] at k
      exact k H5 (Chg.of_ex (e14.trans e5)) (G4.ex e5)
    have hm : n ∈ keysA g.cross := by simpa [memB_iff] using c
    obtain ⟨⟨c1, c2⟩, hg⟩ := getA_some hm
    have hd0 : doG g (.settle n o) = if o ≠ c1 ∧ o ≠ c2 then (.word wNoFact, g) else if closes g ⟨nOver, o, if o = c1 then c2 else c1⟩ = true then (.word wRing, g)
        else (.num n, { g with cross := dropA g.cross n, facts := putA g.facts n ⟨nOver, o, if o = c1 then c2 else c1⟩ }) := by simp only [doG, hg]
    have G5 := G4.ex e5
    refine q_set (e_dget (k := n) (e_mcr e_is G5) (e_intC n) G5.cr hg) fun vp H6 e6 dp => ?_
    have hpt : ∀ {H3 : Hp} {v : V}, D (c1, c2) v H3 → TupN [c1, c2] v H3 := fun h => h
    refine q_if (b_inTn (K := K) (n := o) (ws := [c1, c2]) (neg := true) (P' := TupN [c1, c2]) (e_nmC o) (e_var (hpt dp)) fun y H3 e3 p3 => tupN_sq p3) (fun c3 H7 e7 => ?_) fun c3 H7 e7 => ?_
    · have hc3 : o ≠ c1 ∧ o ≠ c2 := by simpa using c3
      rw [if_pos hc3] at hd0
      rw [hd0] at k
      have eF := e14.trans (e5.trans (e6.trans e7))
      exact k H7 (Chg.of_ex eF) (G.ex eF)
    have hc3 : ¬ (o ≠ c1 ∧ o ≠ c2) := fun z => by
      have : decide (o ∈ [c1, c2]) = true := by
        cases hd : decide (o ∈ [c1, c2]) with
        | true => rfl
        | false => rw [hd] at c3; cases c3
      rcases List.mem_cons.mp (of_decide_eq_true this) with q | q
      · exact z.1 q
      · exact z.2 (by simpa using q)
    rw [if_neg hc3] at hd0
    have hff := settle_fact ok hg hc3
    have e17 := e14.trans (e5.trans (e6.trans e7))
    have G7 := G.ex e17
    have und : EV (tOp (rIxT K) (tVar 6) (tCB (rIntB) (tCons (tOp (rEqD K) (tVar 4) (tOp (rIxT K) (tVar 6) (tC (.int 0)))) tNil))) [some (.ref M.d), some (.ref t), some (.str ("settle" : Str)), some (.int n), some (.str o.s), some (.int g.given), some vp, none, none] H7 (D (if o = c1 then c2 else c1)) := by
      have h1 : EV (tVar 6) [some (.ref M.d), some (.ref t), some (.str ("settle" : Str)), some (.int n), some (.str o.s), some (.int g.given), some vp, none, none] H7 (D (c1, c2)) := e_var (dp.ex e7)
      have h0 : EV (tVar 4) [some (.ref M.d), some (.ref t), some (.str ("settle" : Str)), some (.int n), some (.str o.s), some (.int g.given), some vp, none, none] H7 (D o) := e_nmC o
      have h2 := e_ixPB (K := K) (x := c1) (y := c2) h1 (e_eqB (K := K) (α := Nm) (a := o) (b := c1) h0 (e_ixP0 (K := K) h1))
      simpa only [decide_eq_true_eq] using h2
    generalize hu : (if o = c1 then c2 else c1) = u at *
    refine q_set (e_t3 (e_str nOver) (e_nmC o) und) fun vf H8 e8 df => ?_
    have G8 := G7.ex e8
    have hcl : EV (tCall (sp_w_closes K a) [] E0 (tCons (tVar 0) (tCons (tVar 7) tNil))) [some (.ref M.d), some (.ref t), some (.str ("settle" : Str)), some (.int n), some (.str o.s), some (.int g.given), some vp, some vf, none] H8 (Is (.bl (closes g ⟨nOver, o, u⟩))) :=
      e_call2 (P1 := Is (.ref M.d)) (P2 := D (T3.mk nOver o u)) e_is (e_var df) fun u1 u2 H9 e9 p1 p2 Q q => ⟨g, M, _, u2, by rw [p1], G8.ex e9, ok, p2, hff, fun H' e' => q _ H' e' rfl⟩
    refine q_if (b_val hcl) (fun c H9 e9 => ?_) fun c H9 e9 => ?_
    · rw [if_pos c] at hd0
      rw [hd0] at k
      exact k H9 (Chg.of_ex (e17.trans (e8.trans e9))) (G8.ex e9)
    · rw [if_neg (by rw [c]; decide)] at hd0
      rw [hd0] at k
      have G9 := G8.ex e9
      refine q_Kpop (x := n) (e_mcr e_is G9) (e_intC n) G9.cr hm fun HA HB eA cB dB => ?_
      have GB := (G9.ex eA).setCr cB dB
      refine q_Kput (α := Fact) (x := n) (z := ⟨nOver, o, u⟩) (e_var ((df.ex (e9.trans eA)).t cB.tup)) (e_mfa e_is GB) (e_intC n) GB.fa (by show g.facts.length < 100000; omega) fun HC HD eC cD dD => ?_
      have GD := (GB.ex eC).setFa cD dD
      refine s_ret e_is fun x HE eE p => ?_
      cases p
      exact k HE (((((Chg.of_ex (e17.trans (e8.trans (e9.trans eA)))).trans (cB.mono (by simp))).trans (Chg.of_ex eC)).trans (cD.mono (by simp))).trans (Chg.of_ex eE)) (GD.ex eE)
theorem len_w_do (K : PySem.W.Frag) (a : Ad) : ∀ vs H Q E, sp_w_do K a vs H Q E → vs.length = 2 := fun _ _ _ _ ⟨_, _, _, _, e, _⟩ => by rw [e]; rfl
/-- deed[0] == ".." -/
theorem b_w0 {σ : L2.St} {t : Addr} {n m : Nm} {w x y : V} {s : Str} {b : Bool} {i : Nat} (hσ : σ[i]? = some (some (.ref t))) (ht : H t = some (.tup [w, x, y])) (hw : w = .str n.s) (hs : m.s = s) (e : decide (n = m) = b) :
    EB (tTest (tOp (rEqD K) (tOp (rIxT K) (tVar i) (tC (.int 0))) (tC (.str s)))) σ H b := by
  refine b_to (b_eq (α := Nm) (a := n) (b := m) (fun H1 e1 Q q => ?_) (e_str m hs)) e
  exact ⟨.ref t, hσ, t, [w, x, y], 0, w, rfl, rfl, st_of (e1 _ _ ht), atI_nat (j := 0) rfl, q _ H1 (Ex.refl _) (by rw [hw]; exact Td.str _)⟩
theorem e_ix3 {σ : L2.St} {t : Addr} {w x y z : V} {i j : Nat} (hσ : σ[i]? = some (some (.ref t))) (ht : H t = some (.tup [w, x, y])) (hz : [w, x, y][j]? = some z) : EV (tOp (rIxT K) (tVar i) (tC (.int (j : Int)))) σ H (Is z) := fun H1 e1 Q q =>
  ⟨.ref t, hσ, t, [w, x, y], (j : Int), z, rfl, rfl, st_of (e1 _ _ ht), atI_nat hz, q _ H1 (Ex.refl _) rfl⟩
theorem GAns.ex {g : GS} {A : GA} {dd : Deed} {f? : Option Fact} (h : GAns a g A dd f? H Q E) (e : Ex H H') : GAns a g A dd f? H' Q E := by
  unfold GAns at h ⊢
  split
  · rename_i n hd
    rw [hd] at h
    exact fun H1 c G => h H1 ((Chg.of_ex e).trans c) G
  · rename_i hd
    rw [hd] at h
    exact fun H1 c G => h H1 ((Chg.of_ex e).trans c) G
  · rename_i w hd
    rw [hd] at h
    exact ⟨fun hw H1 c => h.1 hw H1 (e.trans c), fun hw H1 c => h.2.1 hw H1 (e.trans c), fun hw H1 c => h.2.2.1 hw H1 (e.trans c), fun hw f row d x H1 q1 q2 q3 q4 q5 q6 => h.2.2.2 hw f row d x H1 q1 q2 (e.trans q3) (e.free q4) q5 (q6.back e)⟩
theorem p_w_do (T : ClT K a) (h : sp_w_do K a vs H Q E) : t_w_do K a E (FinQ Q) (start ["_law_ground", "_law_deed_here"] vs) H := by
  obtain ⟨g, A, dd, v, rfl, G, ok, ⟨t, w, x, y, rfl, ht, hdd⟩, k⟩ := h
  have go : ∀ {H1 : Hp} {m : Str} {sp : Sp} {ta : TA} {R : List V → Hp → Prop}, Ex H H1 → (gf A g.given).lookup m = none → EA ta [some (.ref A.p), some (.ref t)] H1 R → (∀ vs H2, Ex H1 H2 → R vs H2 → sp (.ref A.p :: vs) H2 Q E) →
      tMeth a.cGround m sp [] E (tVar 0) ta [some (.ref A.p), some (.ref t)] H1 Q := fun {H1 m sp ta R} e hm hta hs =>
    ⟨.ref A.p, rfl, A.p, A.dx, _, rfl, e _ _ G.ins, hm, hta H1 (Ex.refl _) _ fun vs H2 e2 r => by rw [List.append_nil]; exact hs vs H2 e2 r⟩
  cases dd with
  | tell xs =>
    obtain ⟨rfl, hx, rfl, hz⟩ := hdd
    refine q_if (b_w0 (n := nTell) (m := nTell) rfl ht rfl rfl (decide_eq_true rfl)) (fun _ H1 e1 => ?_) fun c => by cases c
    refine go e1 (gm_no _ _) (ea_cons (P := TupN xs) ((e_ix3 (j := 1) rfl (e1 _ _ ht) rfl).imp fun v H2 e2 p => by cases p; exact td_t (e1.trans e2).t _ hx) ea_nil) fun vs H2 e2 r => ?_
    obtain ⟨v1, r1, rfl, p1, rfl⟩ := r
    exact ⟨g, A, xs, v1, rfl, G.ex (e1.trans e2), ok, p1, hz, k.ex (e1.trans e2)⟩
  | cross p q =>
    obtain ⟨rfl, rfl, rfl⟩ := hdd
    refine q_if (b_w0 (n := nCross) (m := nTell) rfl ht rfl rfl nm7) (fun c => by cases c) fun _ H1 e1 => ?_
    refine q_if (b_w0 (n := nCross) (m := nCross) rfl (e1 _ _ ht) rfl rfl (decide_eq_true rfl)) (fun _ H2 e2 => ?_) fun c => by cases c
    have e12 := e1.trans e2
    refine go e12 (gm_no _ _) (ea_cons (P := Is (.str p.s)) (e_ix3 (j := 1) rfl (e12 _ _ ht) rfl) (ea_cons (P := Is (.str q.s)) (e_ix3 (j := 2) rfl (e12 _ _ ht) rfl) ea_nil)) fun vs H3 e3 r => ?_
    obtain ⟨v1, r1, rfl, p1, v2, r2, rfl, p2, rfl⟩ := r
    cases p1
    cases p2
    exact ⟨g, A, p, q, rfl, G.ex (e12.trans e3), ok, k.ex (e12.trans e3)⟩
  | take n =>
    obtain ⟨rfl, rfl, rfl⟩ := hdd
    refine q_if (b_w0 (n := nTake) (m := nTell) rfl ht rfl rfl nm8) (fun c => by cases c) fun _ H1 e1 => ?_
    refine q_if (b_w0 (n := nTake) (m := nCross) rfl (e1 _ _ ht) rfl rfl nm9) (fun c => by cases c) fun _ H2 e2 => ?_
    have e12 := e1.trans e2
    refine q_if (b_w0 (n := nTake) (m := nTake) rfl (e12 _ _ ht) rfl rfl (decide_eq_true rfl)) (fun _ H3 e3 => ?_) fun c => by cases c
    have e13 := e12.trans e3
    refine go e13 (gm_no _ _) (ea_cons (P := Is (.int n)) (e_ix3 (j := 1) rfl (e13 _ _ ht) rfl) ea_nil) fun vs H4 e4 r => ?_
    obtain ⟨v1, r1, rfl, p1, rfl⟩ := r
    cases p1
    exact ⟨g, A, n, rfl, G.ex (e13.trans e4), ok, k.ex (e13.trans e4)⟩
  | settle n o =>
    obtain ⟨rfl, rfl, rfl⟩ := hdd
    refine q_if (b_w0 (n := nSettle) (m := nTell) rfl ht rfl rfl nmA) (fun c => by cases c) fun _ H1 e1 => ?_
    refine q_if (b_w0 (n := nSettle) (m := nCross) rfl (e1 _ _ ht) rfl rfl nmB) (fun c => by cases c) fun _ H2 e2 => ?_
    have e12 := e1.trans e2
    refine q_if (b_w0 (n := nSettle) (m := nTake) rfl (e12 _ _ ht) rfl rfl nm6) (fun c => by cases c) fun _ H3 e3 => ?_
    have e13 := e12.trans e3
    refine go e13 (gm_no _ _) (ea_cons (P := Is (.int n)) (e_ix3 (j := 1) rfl (e13 _ _ ht) rfl) (ea_cons (P := Is (.str o.s)) (e_ix3 (j := 2) rfl (e13 _ _ ht) rfl) ea_nil)) fun vs H4 e4 r => ?_
    obtain ⟨v1, r1, rfl, p1, v2, r2, rfl, p2, rfl⟩ := r
    cases p1
    cases p2
    exact ⟨g, A, n, o, rfl, G.ex (e13.trans e4), ok, k.ex (e13.trans e4)⟩
end
end TK

namespace TK
open PySem L2 PySem.Spec PyProof.Rows
open Enc (enc)
section
variable {K : PySem.W.Frag} {a : Ad} {vs : List V} {H H' : Hp} {Q : VK} {E : XK}
theorem doG_word {g : GS} {dd : Deed} {w : Nm} (h : (doG g dd).1 = .word w) : (doG g dd).2 = g := by
  cases dd with
  | tell xs =>
    cases hfl : factL xs with
    | none => simp only [doG, hfl]
    | some f =>
      simp only [doG, hfl] at h ⊢
      by_cases h1 : isFact3 f g.walkers g.weathers = false
      · rw [if_pos h1]
      · rw [if_neg h1] at h ⊢
        by_cases h2 : g.full = true
        · rw [if_pos h2]
        · rw [if_neg h2] at h ⊢
          by_cases h3 : closes g f = true
          · rw [if_pos h3]
          · rw [if_neg h3] at h; cases h
  | cross x y =>
    simp only [doG] at h ⊢
    by_cases h1 : x ∉ g.walkers ∨ y ∉ g.walkers ∨ x = y
    · rw [if_pos h1]
    · rw [if_neg h1] at h ⊢
      by_cases h2 : g.full = true
      · rw [if_pos h2]
      · rw [if_neg h2] at h; cases h
  | take n =>
    simp only [doG] at h ⊢
    by_cases h1 : n ∉ keysA g.facts ∧ n ∉ keysA g.cross
    · rw [if_pos h1]
    · rw [if_neg h1] at h; cases h
  | settle n o =>
    cases hg : getA g.cross n with
    | none => simp only [doG, hg]
    | some c =>
      simp only [doG, hg] at h ⊢
      by_cases h1 : o ≠ c.1 ∧ o ≠ c.2
      · rw [if_pos h1]
      · rw [if_neg h1] at h ⊢
        by_cases h2 : closes g ⟨nOver, o, if o = c.1 then c.2 else c.1⟩ = true
        · rw [if_pos h2]
        · rw [if_neg h2] at h; cases h
theorem len_w_told (K : PySem.W.Frag) (a : Ad) : ∀ vs H Q E, sp_w_told K a vs H Q E → vs.length = 2 := fun _ _ _ _ ⟨_, _, _, _, e, _⟩ => by rw [e]; rfl
theorem p_w_told (T : ClT K a) (h : sp_w_told K a vs H Q E) : t_w_told K a (FinQ Q) (start ["_law_ground", "_law_deed_here", "e"] vs) H := by
  obtain ⟨g, A, dd, v, rfl, G, ok, hd, k⟩ := h
  refine ⟨_, rfl, _, rfl, g, A, dd, v, rfl, G, ok, hd, ?_⟩
  unfold GAns
  split
  · rename_i n hr
    rw [hr] at k
    exact k
  · rename_i hr
    rw [hr] at k
    exact k
  · rename_i w hr
    have hg := doG_word hr
    rw [hg, hr] at k
    have kk : ∀ H1, Ex H H1 → Q (.str w.s) H1 := fun H1 e => k H1 (Chg.of_ex e) (G.ex e)
    refine ⟨fun hw H1 e => ?_, fun hw H1 e => ?_, fun hw H1 e => ?_, fun hw f row d x H1 _ _ e _ _ _ => ?_⟩
    · subst hw
      exact ⟨false, T.x_nr, (fun z => by cases z), fun _ => ⟨true, T.x_nn, fun _ b hb => kk _ e, fun z => by cases z⟩⟩
    · subst hw
      exact ⟨false, T.x_sr, (fun z => by cases z), fun _ => ⟨false, T.x_sn, (fun z => by cases z), fun _ => ⟨true, T.x_ss, fun _ b hb => kk _ e, fun z => by cases z⟩⟩⟩
    · subst hw
      exact ⟨false, T.x_fr, (fun z => by cases z), fun _ => ⟨false, T.x_fn, (fun z => by cases z), fun _ => ⟨false, T.x_fs, (fun z => by cases z), fun _ => ⟨true, T.x_ff, fun _ b hb => kk _ e, fun z => by cases z⟩⟩⟩⟩
    · subst hw
      exact ⟨true, T.x_rr, fun _ b hb => kk _ e, fun z => by cases z⟩
/-! ### row, ground, account: one changes, the others stay -/
theorem row_lne {r l : Addr} {ws : List Nm} (h : RowAt K p0 r H) (hl : Ls ws (.ref l) H) : l ∉ [r] := fun z => by
  obtain ⟨ns, i, x, h1, _⟩ := h
  obtain ⟨q, e, h2⟩ := ls_strs hl
  cases e
  simp at z
  rw [z, h1] at h2
  injection h2 with h2
  injection h2 with h2
  cases ws with
  | nil => cases h2
  | cons w ws => cases h2
theorem row_one {r : Addr} (h : RowAt K p0 r H) : ∃ xs, H r = some (.lst xs) := let ⟨_, _, _, h1, _⟩ := h; ⟨_, h1⟩
theorem nin_row {r b : Addr} {o : HO} (h : RowAt K p0 r H) (hb : H b = some o) (n : NoLst o) : b ∉ [r] := fun z => by
  obtain ⟨xs, h1⟩ := row_one h
  simp at z
  rw [z, h1] at hb
  cases hb
  exact n
theorem MAt.row {g : GS} {M : MA} {r : Addr} (G : MAt g M H) (R : RowAt K p0 r H) (c : Chg [r] H H') : MAt g M H' := by
  refine G.chg c fun s hs => ?_
  have ob := G.objs
  simp only [List.mem_cons, List.not_mem_nil, or_false] at hs ob
  rcases hs with rfl | rfl | rfl | rfl | rfl
  · obtain ⟨o, h1, n⟩ := ob M.d (Or.inl rfl); exact nin_row R h1 n
  · obtain ⟨o, h1, n⟩ := ob M.df (Or.inr (Or.inl rfl)); exact nin_row R h1 n
  · obtain ⟨o, h1, n⟩ := ob M.dc (Or.inr (Or.inr rfl)); exact nin_row R h1 n
  · exact row_lne R G.ws
  · exact row_lne R G.ts
theorem GrAt.row {C : Addr} {g : GS} {A : GA} {r : Addr} (G : GrAt C g A H) (R : RowAt K p0 r H) (c : Chg [r] H H') : GrAt C g A H' := by
  refine G.chg c fun s hs => ?_
  have ob := G.objs
  simp only [List.mem_cons, List.not_mem_nil, or_false] at hs ob
  rcases hs with rfl | rfl | rfl | rfl | rfl
  · obtain ⟨o, h1, n⟩ := ob A.p (Or.inl rfl); exact nin_row R h1 n
  · obtain ⟨o, h1, n⟩ := ob A.df (Or.inr (Or.inl rfl)); exact nin_row R h1 n
  · obtain ⟨o, h1, n⟩ := ob A.dc (Or.inr (Or.inr rfl)); exact nin_row R h1 n
  · exact row_lne R G.ws
  · exact row_lne R G.ts
section
variable {C r : Addr} {g gm g' : GS} {A : GA} {M : MA}
theorem LawW.byRow (W : LawW K p0 C r g gm A M H) (c : Chg [r] H H') (R : RowAt K p0 r H') : LawW K p0 C r g gm A M H' := ⟨R, W.gr.row W.row c, W.m.row W.row c, W.nd⟩
theorem pd_ne {C : Addr} {g : GS} {A : GA} {d : Addr} {α : Type} [DecidableEq α] [Enc α] {kvs : List (Int × α)} (G : GrAt C g A H) (h : DkAt H d kvs) : A.p ≠ d := fun z => by
  obtain ⟨us, h1, _⟩ := h
  have := G.ins
  rw [z, h1] at this
  cases this
theorem pm_ne {C : Addr} {g gm : GS} {A : GA} {M : MA} (G : GrAt C g A H) (h : MAt gm M H) : A.p ≠ M.d := fun z => by
  have := G.ins
  rw [z, h.dd] at this
  cases this
theorem LawW.byM (W : LawW K p0 C r g gm A M H) (c : Chg [M.d, M.df, M.dc] H H') (G : MAt g' M H') : LawW K p0 C r g g' A M H' := by
  have nd := W.nd
  simp only [List.mem_cons, List.not_mem_nil, or_false, not_or, List.nodup_cons, List.nodup_nil, not_false_eq_true, and_true] at nd
  refine ⟨W.row.chg c W.m.objs, W.gr.chg c fun s hs => ?_, G, W.nd⟩
  have n1 := pm_ne W.gr W.m
  have n2 := pd_ne W.gr W.m.fa
  have n3 := pd_ne W.gr W.m.cr
  simp only [List.mem_cons, List.not_mem_nil, or_false] at hs
  rcases hs with rfl | rfl | rfl | rfl | rfl
  · simp [n1, n2, n3]
  · have := nd.1; have := nd.2.1; have := nd.2.2.1
    simp; exact ⟨fun z => nd.1.2.2.1 z.symm, fun z => nd.2.1.2.1 z.symm, fun z => nd.2.2.1.1 z.symm⟩
  · simp; exact ⟨fun z => nd.1.2.2.2 z.symm, fun z => nd.2.1.2.2 z.symm, fun z => nd.2.2.1.2 z.symm⟩
  · exact W.gr.ws.nin W.m.objs
  · exact W.gr.ts.nin W.m.objs
theorem LawW.byG (W : LawW K p0 C r g gm A M H) (c : Chg [A.p, A.df, A.dc] H H') (G : GrAt C g' A H') : LawW K p0 C r g' gm A M H' := by
  have nd := W.nd
  simp only [List.mem_cons, List.not_mem_nil, or_false, not_or, List.nodup_cons, List.nodup_nil, not_false_eq_true, and_true] at nd
  refine ⟨W.row.chg c W.gr.objs, G, W.m.chg c fun s hs => ?_, W.nd⟩
  have n1 := pm_ne W.gr W.m
  have n2 := pd_ne W.gr W.m.fa
  have n3 := pd_ne W.gr W.m.cr
  simp only [List.mem_cons, List.not_mem_nil, or_false] at hs
  rcases hs with rfl | rfl | rfl | rfl | rfl
  · simp; exact ⟨fun z => n1 z.symm, nd.1.2.2.1, nd.1.2.2.2⟩
  · simp; exact ⟨fun z => n2 z.symm, nd.2.1.2.1, nd.2.1.2.2⟩
  · simp; exact ⟨fun z => n3 z.symm, nd.2.2.1.1, nd.2.2.1.2⟩
  · exact W.m.ws.nin W.gr.objs
  · exact W.m.ts.nin W.gr.objs
end
end
end TK

namespace TK
open PySem L2 PySem.Spec PyProof.Rows
open Enc (enc)
def nZz : Nm := nmOf "zzzzzzzz"
def nA : Nm := nmOf "a"
section
variable {K : PySem.W.Frag} {a : Ad} {vs : List V} {H H' : Hp} {Q : VK} {E : XK}
section
variable {σ : L2.St} {te tm tl : TE} {r : Addr}
theorem c_taken {many : Int} (hr : EV te σ H (Is (.ref r))) (hm : EV tm σ H (D many)) (R : RowAt K p0 r H) (h0 : 0 < many) (k : ∀ i H2, 0 ≤ i → i < many → Chg [r] H H2 → RowAt K p0 r H2 → Q (.int i) H2) :
    tCall (sp_w_taken K a) [] E0 (tCons te (tCons tm tNil)) σ H Q :=
  hr.run fun v H1 e1 p1 => hm H1 e1 _ fun w H2 e2 p2 => by
    cases p1
    cases p2.is_int
    exact ⟨r, _, many, rfl, R.ex (e1.trans e2), h0, fun i H3 q1 q2 c R3 => k i H3 q1 q2 ((Chg.of_ex (e1.trans e2)).trans c) R3⟩
/-- names[taken(row, many)] -/
theorem c_ixTaken {ws : List Nm} (hl : EV tl σ H (Ls ws)) (hr : EV te σ H (Is (.ref r))) (hm : ∀ v H1, Ex H H1 → Ls ws v H1 → EV tm σ H1 (D (ws.length : Int))) (R : RowAt K p0 r H) (hne : ws ≠ [])
    (k : ∀ n H2, n ∈ ws → Chg [r] H H2 → RowAt K p0 r H2 → Q (.str n.s) H2) : tOp (rIxL K) tl (tCall (sp_w_taken K a) [] E0 (tCons te (tCons tm tNil))) σ H Q :=
  hl.run fun v H1 e1 p1 => by
    have hp : 0 < ws.length := List.length_pos_iff.mpr hne
    refine c_taken (hr.ex e1) (hm v H1 e1 p1) (R.ex e1) (by omega) fun i H2 q1 q2 c R2 => ?_
    obtain ⟨j, rfl⟩ := Int.eq_ofNat_of_zero_le q1
    have hj : j < ws.length := by omega
    obtain ⟨l, rfl, hl1⟩ := ls_strs p1
    have hl2 := p1.chg c (row_lne (R.ex e1) p1)
    obtain ⟨l', el, hl3⟩ := ls_strs hl2
    cases el
    exact ⟨l, _, (j : Int), _, rfl, rfl, sq_of hl3, atI_nat (by rw [List.getElem?_map, List.getElem?_eq_getElem hj]; rfl), k _ H2 (List.getElem_mem hj) ((Chg.of_ex e1).trans c) R2⟩
theorem e_listT {ws : List Nm} (h : EV te σ H (TupN ws)) : EV (tCB (rListS K) (tCons te tNil)) σ H (NL H ws) := fun H1 e Q q =>
  h H1 e _ fun v H2 e2 p => by
    obtain ⟨l, rfl, hs⟩ := tupN_sq (K := K) p
    exact ⟨l, _, rfl, Or.inr hs, fun m hm => q _ _ (e2.trans (Ex.new hm)) ⟨m, _, rfl, e.free (e2.free hm), upd_same, tda_strs _ _⟩⟩
end
theorem run_tC {x : V} {σ : L2.St} (q : Q x H) : tC x σ H Q := q
theorem deed_tell {n1 n2 n3 : Nm} {σ : L2.St} {t1 t2 t3 : TE} (h1 : EV t1 σ H (D n1)) (h2 : EV t2 σ H (D n2)) (h3 : EV t3 σ H (D n3)) : EV (tTup (tCons (tC (.str ("tell" : Str))) (tCons (tTup (tCons t1 (tCons t2 (tCons t3 tNil)))) (tCons (tC .non) tNil)))) σ H (DeedAt (.tell [n1, n2, n3])) := fun H1 e Q q =>
  (ea_cons (P := Is (.str ("tell" : Str))) (e_c (x := .str ("tell" : Str))) (ea_cons (P := D (T3.mk n1 n2 n3)) (e_t3 h1 h2 h3) (ea_cons (P := Is .non) (e_c (x := .non)) ea_nil))) H1 e _ fun vs H2 e2 ⟨v1, r1, q1, p1, v2, r2, q2, p2, v3, r3, q3, p3, q4⟩ => by
    subst q4; subst q3; subst q2; subst q1; cases p1; cases p3
    exact ⟨sz_of (by simp), fun x hx => q _ _ (e2.trans (Ex.new hx)) ⟨x, _, _, _, rfl, upd_same, rfl, td_t (Ex.new hx).t _ (show Td H2 v2 _ from p2), rfl, by simp⟩⟩
theorem deed_cross {n1 n2 : Nm} {σ : L2.St} {t1 t2 : TE} (h1 : EV t1 σ H (D n1)) (h2 : EV t2 σ H (D n2)) : EV (tTup (tCons (tC (.str ("cross" : Str))) (tCons t1 (tCons t2 tNil)))) σ H (DeedAt (.cross n1 n2)) := fun H1 e Q q =>
  h1 H1 e _ fun v H2 e2 p => h2 H2 (e.trans e2) _ fun w H3 e3 p3 => ⟨sz_of (by simp), fun x hx => q _ _ ((e2.trans e3).trans (Ex.new hx)) ⟨x, _, _, _, rfl, upd_same, rfl, p.is_nm, p3.is_nm⟩⟩
theorem deed_take {n : Int} {σ : L2.St} {t1 : TE} (h1 : EV t1 σ H (D n)) : EV (tTup (tCons (tC (.str ("take" : Str))) (tCons t1 (tCons (tC .non) tNil)))) σ H (DeedAt (.take n)) := fun H1 e Q q =>
  h1 H1 e _ fun v H2 e2 p => ⟨sz_of (by simp), fun x hx => q _ _ (e2.trans (Ex.new hx)) ⟨x, _, _, _, rfl, upd_same, rfl, p.is_int, rfl⟩⟩
theorem deed_settle {n : Int} {o : Nm} {σ : L2.St} {t1 t2 : TE} (h1 : EV t1 σ H (D n)) (h2 : EV t2 σ H (D o)) : EV (tTup (tCons (tC (.str ("settle" : Str))) (tCons t1 (tCons t2 tNil)))) σ H (DeedAt (.settle n o)) := fun H1 e Q q =>
  h1 H1 e _ fun v H2 e2 p => h2 H2 (e.trans e2) _ fun w H3 e3 p3 => ⟨sz_of (by simp), fun x hx => q _ _ ((e2.trans e3).trans (Ex.new hx)) ⟨x, _, _, _, rfl, upd_same, rfl, p.is_int, p3.is_nm⟩⟩
theorem Ls.row {ws : List Nm} {v : V} {r : Addr} (h : Ls ws v H) (R : RowAt K p0 r H) (c : Chg [r] H H') : Ls ws v H' := by
  obtain ⟨l, us, rfl, h1, h2⟩ := h
  have h : Ls ws (.ref l) H := ⟨l, us, rfl, h1, h2⟩
  exact h.chg c (row_lne R h)
theorem len_w_deed (K : PySem.W.Frag) (a : Ad) : ∀ vs H Q E, sp_w_deed K a vs H Q E → vs.length = 2 := fun _ _ _ _ ⟨_, _, _, _, e, _⟩ => by rw [e]; rfl
theorem p_w_deed (T : ClT K a) (h : sp_w_deed K a vs H Q E) : t_w_deed K a (FinQ Q) (start ["_law_row", "_law_m", "_law_way", "_law_names_here", "_law_one", "_law_other", "_law_number", "_law_word"] vs) H := by
  obtain ⟨r, p0, g, M, rfl, R, G, ok, k⟩ := h
  have zw := ok.lw
  have zt := ok.lt
  have zg := ok.zero
  refine c_taken (many := 12) e_is e_int R (by decide) fun way H1 w0 w1 c1 R1 => ?_
  have G1 := G.row R c1
  show tSeq _ _ _ [some (.ref r), some (.ref M.d), some (.int way), none, none, none, none, none] H1
  refine (e_cat (e_mws e_is G1) (e_mts e_is G1) (by omega)).run fun va H2 e2 pa => ?_
  refine (e_l1 (α := Nm) (e_str nZz)).run fun vz H3 e3 pz => ?_
  show tCall _ _ _ _ _ _ _
  have R3 := R1.ex (e2.trans e3)
  refine c_taken (many := 9) e_is e_int R3 (by decide) fun i H4 i0 i1 c4 R4 => ?_
  have pa4 := (pa.ls.ex e3).row R3 c4
  have pz4 := pz.ls.row R3 c4
  have G4 := (G1.ex (e2.trans e3)).row R3 c4
  refine run_tC ?_
  refine r_eq (α := Int) (by decide) (D.of_int i H4) (D.of_int 8 H4) ?_
  obtain ⟨lz, rfl, hz1⟩ := ls_strs pz4
  have names : ∃ nz : List Nm, nz.length ≤ 1 ∧ cutV [V.str nZz.s] none (some (if decide (i = 8) = true then 1 else 0)) = nz.map (fun n => V.str n.s) := by
    by_cases h8 : i = 8
    · exact ⟨[nZz], by simp, by rw [decide_eq_true h8]; rfl⟩
    · exact ⟨[], by simp, by rw [decide_eq_false h8]; rfl⟩
  obtain ⟨nz, hnz1, hnz2⟩ := names
  refine Or.inr ⟨_, rfl, _, rfl, lz, _, rfl, sq_of hz1, fun p hp => ?_⟩
  rw [show ([nZz] : List Nm).map (fun n => V.str n.s) = [V.str nZz.s] from rfl, hnz2]
  have xp : Ex H4 (upd H4 p (.lst (nz.map fun n => V.str n.s))) := Ex.new hp
  have pn : Ls nz (.ref p) (upd H4 p (.lst (nz.map fun n => V.str n.s))) := ⟨p, _, rfl, upd_same, tda_strs _ _⟩
  have hlen : (g.walkers ++ g.weathers).length ≤ 11 := by rw [List.length_append]; omega
  generalize hHp : upd H4 p (.lst (nz.map fun n => V.str n.s)) = Hp' at xp pn
  obtain ⟨la, ua, rfl, hla, hua⟩ := pa4.ex xp
  obtain ⟨ln, un, eln, hln, hun⟩ := pn
  cases eln
  have z1 := tda_len hua
  have z2 := tda_len hun
  rw [List.length_map] at z1 z2
  refine ⟨la, p, ua, un, rfl, rfl, hla, hln, sz_of (by omega), fun q hq => ?_⟩
  have xq : Ex Hp' (upd Hp' q (.lst (ua ++ un))) := Ex.new hq
  have nm0 : Ls ((g.walkers ++ g.weathers) ++ nz) (.ref q) (upd Hp' q (.lst (ua ++ un))) := ⟨q, _, rfl, upd_same, by rw [List.map_append]; exact tda_t xq.t _ (tda_app hua hun)⟩
  have R5 := R4.ex (xp.trans xq)
  have G5 := G4.ex (xp.trans xq)
  have c5 : Chg [r] H (upd Hp' q (.lst (ua ++ un))) := ((c1.trans (Chg.of_ex (e2.trans e3))).trans c4).trans (Chg.of_ex (xp.trans xq))
  generalize (g.walkers ++ g.weathers) ++ nz = names at nm0
  generalize upd Hp' q (.lst (ua ++ un)) = H5 at nm0 R5 G5 c5 xq
  clear hla hln hua hun xp xq R4 G4 hHp pz4 hz1 c4 R3 R1 G1
  show tSeq _ _ _ [some (.ref r), some (.ref M.d), some (.int way), some (.ref q), none, none, none, none] H5
  have key : ∀ W : L2.St → Hp → Prop, (∀ (names : List Nm) (vn : V) H6, names ≠ [] → Ls names vn H6 → Chg [r] H H6 → RowAt K p0 r H6 → MAt g M H6 → W [some (.ref r), some (.ref M.d), some (.int way), some vn, none, none, none, none] H6) →
      tIfS (tTest (tOp (rEqD K) (tVar 3) (tLst tNil))) (tAsg (tLst (tCons (tC (.str ("a" : Str))) tNil)) (gName 3)) tNext { FinQ Q with nx := W } [some (.ref r), some (.ref M.d), some (.int way), some (.ref q), none, none, none, none] H5 := by
    intro W rest
    refine s_if (b_eqL (α := Nm) (e_var (P := Ls names) nm0) e_nil.ls) (fun _ H6 e6 => ?_) fun c H6 e6 => ?_
    · refine s_set (e_l1 (α := Nm) (e_str nA)) fun vn H7 e7 p7 => ?_
      exact rest [nA] vn H7 (by simp) p7.ls (c5.trans (Chg.of_ex (e6.trans e7))) (R5.ex (e6.trans e7)) (G5.ex (e6.trans e7))
    · exact rest names _ H6 (of_decide_eq_false c) (nm0.ex e6) (c5.trans (Chg.of_ex e6)) (R5.ex e6) (G5.ex e6)
  refine key _ fun names vn H6 hne pn c6 R6 G6 => ?_
  · 
    refine c_ixTaken (e_var (P := Ls names) pn) e_is (fun v H1 e p => e_len (e_var (P := Ls names) (pn.ex e))) R6 hne fun one H7 _ c7 R7 => ?_
    have pn7 := pn.row R6 c7
    have G7 := G6.row R6 c7
    show tSeq _ _ _ [some (.ref r), some (.ref M.d), some (.int way), some vn, some (.str one.s), none, none, none] H7
    refine c_ixTaken (e_var (P := Ls names) pn7) e_is (fun v H1 e p => e_len (e_var (P := Ls names) (pn7.ex e))) R7 hne fun other H8 _ c8 R8 => ?_
    have G8 := G7.row R7 c8
    show tSeq _ _ _ [some (.ref r), some (.ref M.d), some (.int way), some vn, some (.str one.s), some (.str other.s), none, none] H8
    refine c_taken (many := g.given + 2) e_is (e_I0 (g := fun i j => i + j) (e_mgv e_is G8) (e_int (i := 2))) R8 (by omega) fun num H9 _ _ c9 R9 => ?_
    have G9 := G8.row R8 c9
    have cc := ((c6.trans c7).trans c8).trans c9
    show tSeq _ _ _ [some (.ref r), some (.ref M.d), some (.int way), some vn, some (.str one.s), some (.str other.s), some (.int num), none] H9
    have ret : ∀ {te : TE} {σ : L2.St} {dd : Deed} {HA : Hp} {Z : Ends}, Z.rt = Q → EV te σ HA (DeedAt dd) → Chg [r] H HA → RowAt K p0 r HA → tRet te Z σ HA := fun hZ h c R' => s_ret h fun v HB e p => by rw [hZ]; exact k _ v HB (c.trans (Chg.of_ex e)) (R'.ex e) p
    refine q_if (b_I0 (g := fun i j => decide (i < j)) (e_intC way) (e_int (i := 7))) (fun cw HA eA => ?_) fun _ HA eA => ?_
    · have hw7 : way < 7 := of_decide_eq_true cw
      have hwords : ∃ n : Nm, atI [nOver, nOver, nOver, nAhead, nAmid, nBehind, nOver] way = some n := by
        obtain ⟨j, rfl⟩ := Int.eq_ofNat_of_zero_le w0
        have hj : j < 7 := by omega
        exact ⟨_, atI_nat (List.getElem?_eq_getElem hj)⟩
      obtain ⟨wd, hwd⟩ := hwords
      have hls : EV (tLst (tCons (tC (.str ("over" : Str))) (tCons (tC (.str ("over" : Str))) (tCons (tC (.str ("over" : Str))) (tCons (tC (.str ("ahead" : Str))) (tCons (tC (.str ("amid" : Str))) (tCons (tC (.str ("behind" : Str))) (tCons (tC (.str ("over" : Str))) tNil)))))))) [some (.ref r), some (.ref M.d), some (.int way), some vn, some (.str one.s), some (.str other.s), some (.int num), none] HA (NL HA [nOver, nOver, nOver, nAhead, nAmid, nBehind, nOver]) :=
        e_lst (el_cons (e_str nOver) (el_cons (e_str nOver) (el_cons (e_str nOver) (el_cons (e_str nAhead) (el_cons (e_str nAmid) (el_cons (e_str nBehind) (el_cons (e_str nOver) el_nil))))))) (by simp)
      obtain ⟨jw, hjw⟩ := Int.eq_ofNat_of_zero_le w0
      refine q_set (P := D wd) (e_op (P := Ls [nOver, nOver, nOver, nAhead, nAmid, nBehind, nOver]) hls.ls (e_intC way) fun x y HB eB p1 p2 Q2 q2 => ?_) fun vw HB eB pw => ?_
      · obtain ⟨l, us, rfl, h1, h2⟩ := p1
        cases p2.is_int
        have hj : (jw : Nat) < 7 := by omega
        have hwd' : [nOver, nOver, nOver, nAhead, nAmid, nBehind, nOver][jw]? = some wd := by
          have e1 : [nOver, nOver, nOver, nAhead, nAmid, nBehind, nOver][jw]? = some ([nOver, nOver, nOver, nAhead, nAmid, nBehind, nOver][jw]'hj) := List.getElem?_eq_getElem hj
          rw [hjw, atI_nat e1] at hwd
          rw [e1]; exact hwd
        obtain ⟨v, hv, tv⟩ := tda_at (i := jw) h2 (by rw [List.getElem?_map, hwd']; rfl)
        exact ⟨l, us, way, v, rfl, rfl, sq_of h1, by rw [hjw]; exact atI_nat hv, q2 v HB (Ex.refl _) tv⟩
      cases pw.is_nm
      have GB := G9.ex (eA.trans eB)
      have RB := R9.ex (eA.trans eB)
      have cB := cc.trans (Chg.of_ex (eA.trans eB))
      refine s_if (b_and (b_ne (α := Nm) (e_nmC wd) (e_str nOver)) fun _ => b_neL (α := Nm) (e_mts e_is GB) e_nil.ls) (fun ct HC eC => ?_) fun _ HC eC => ?_
      · have hwe : g.weathers ≠ [] := by
          rw [Bool.and_eq_true] at ct
          simpa using ct.2
        have GC := GB.ex eC
        refine c_ixTaken (e_mts e_is GC) e_is (fun v H1 e p => e_len (e_mts e_is (GC.ex e))) (RB.ex eC) hwe fun oth HD _ cD RD => ?_
        unfold gName
        exact ret rfl (deed_tell (e_nmC wd) (e_nmC one) (e_nmC oth)) ((cB.trans (Chg.of_ex eC)).trans cD) RD
      · exact ret rfl (deed_tell (e_nmC wd) (e_nmC one) (e_nmC other)) (cB.trans (Chg.of_ex eC)) (RB.ex eC)
    · refine q_if (b_I0 (g := fun i j => decide (i < j)) (e_intC way) (e_int (i := 9))) (fun _ HB eB => ?_) fun _ HB eB => ?_
      · exact ret rfl (deed_cross (e_nmC one) (e_nmC other)) (cc.trans (Chg.of_ex (eA.trans eB))) (R9.ex (eA.trans eB))
      refine q_if (b_eq (α := Int) (e_intC way) (e_int (i := 9))) (fun _ HC eC => ?_) fun _ HC eC => ?_
      · exact ret rfl (deed_take (e_intC num)) (cc.trans (Chg.of_ex (eA.trans (eB.trans eC)))) (R9.ex (eA.trans (eB.trans eC)))
      have eAC := eA.trans (eB.trans eC)
      have GC := G9.ex eAC
      have RC := R9.ex eAC
      refine s_if (b_din (k := num) (e_intC num) (e_mcr e_is GC) GC.cr) (fun cm HD eD => ?_) fun _ HD eD => ?_
      · obtain ⟨⟨c1', c2'⟩, hg⟩ := getA_some (memB_iff.mp cm)
        have GD := GC.ex eD
        have hl : EV (tOp rCat (tCB (rListS K) (tCons (tDGet (tDGet (tVar 1) (tC (.str ("cross" : Str)))) (tVar 6)) tNil)) (tLst (tCons (tVar 4) tNil))) [some (.ref r), some (.ref M.d), some (.int way), some vn, some (.str one.s), some (.str other.s), some (.int num), none] HD (NL HD [c1', c2', one]) :=
          e_cat (xs := [c1', c2']) (ys := [one]) (e_listT (ws := [c1', c2']) ((e_dget (k := num) (e_mcr e_is GD) (e_intC num) GD.cr hg).imp fun _ _ _ p => p)).ls (e_l1 (e_nmC one)).ls (by simp)
        refine c_ixTaken (ws := [c1', c2', one]) hl.ls e_is (fun v H1 e p => e_int) (RC.ex eD) (by simp) fun oth HE _ cE RE => ?_
        unfold gName
        exact ret rfl (deed_settle (e_intC num) (e_nmC oth)) ((cc.trans (Chg.of_ex (eAC.trans eD))).trans cE) RE
      · exact ret rfl (deed_settle (e_intC num) (e_nmC other)) (cc.trans (Chg.of_ex (eAC.trans eD))) (RC.ex eD)
end
end TK

namespace TK
open PySem L2 PySem.Spec PyProof.Rows
open Enc (enc)
section
variable {K : PySem.W.Frag} {a : Ad} {vs : List V} {H H' : Hp} {Q : VK} {E : XK}
section
variable {σ : L2.St} {t1 t2 : TE} {r : Addr} {g : GS} {M : MA} {A : GA} {dd : Deed}
theorem c_due (h1 : EV t1 σ H (Is (.ref M.d))) (h2 : EV t2 σ H (DeedAt dd)) (G : MAt g M H) (ok : GOk g) (k : ∀ H', Chg [M.d, M.df, M.dc] H H' → MAt (doG g dd).2 M H' → Q (resV (doG g dd).1) H') :
    tCall (sp_w_due K a) [] E0 (tCons t1 (tCons t2 tNil)) σ H Q :=
  h1.run fun v H1 e1 p1 => h2 H1 e1 _ fun w H2 e2 p2 => by
    cases p1
    exact ⟨g, M, dd, w, rfl, G.ex (e1.trans e2), ok, p2, fun H3 c G3 => k H3 ((Chg.of_ex (e1.trans e2)).trans c) G3⟩
theorem c_told (h1 : EV t1 σ H (Is (.ref A.p))) (h2 : EV t2 σ H (DeedAt dd)) (G : GrAt a.cGround g A H) (ok : GOk g) (k : ∀ H', Chg [A.p, A.df, A.dc] H H' → GrAt a.cGround (doG g dd).2 A H' → Q (resV (doG g dd).1) H') :
    tCall (sp_w_told K a) [] E0 (tCons t1 (tCons t2 tNil)) σ H Q :=
  h1.run fun v H1 e1 p1 => h2 H1 e1 _ fun w H2 e2 p2 => by
    cases p1
    exact ⟨g, A, dd, w, rfl, G.ex (e1.trans e2), ok, p2, fun H3 c G3 => k H3 ((Chg.of_ex (e1.trans e2)).trans c) G3⟩
theorem c_deed (h1 : EV t1 σ H (Is (.ref r))) (h2 : EV t2 σ H (Is (.ref M.d))) (R : RowAt K p0 r H) (G : MAt g M H) (ok : GOk g) (k : ∀ dd v H', Chg [r] H H' → RowAt K p0 r H' → DeedAt dd v H' → Q v H') :
    tCall (sp_w_deed K a) [] E0 (tCons t1 (tCons t2 tNil)) σ H Q :=
  h1.run fun v H1 e1 p1 => h2 H1 e1 _ fun w H2 e2 p2 => by
    cases p1
    cases p2
    exact ⟨r, _, g, M, rfl, R.ex (e1.trans e2), G.ex (e1.trans e2), ok, fun dd v H3 c R3 d3 => k dd v H3 ((Chg.of_ex (e1.trans e2)).trans c) R3 d3⟩
end
/-- for k in range(..), the bound read with changes -/
theorem s_forRX {σ : L2.St} {Z : Ends} {tu : TS} {ta : TE} {P : Int → Hp → Prop} (h : ∀ Q : VK, (∀ n H1, P n H1 → Q (.int n) H1) → ta σ H Q) (hn : ∀ n H1, P n H1 → n ≤ 100000 ∧ -100000 ≤ n) (Pv : Int → Hp → Nat → L2.St → Hp → Prop) {j : Nat} (h0 : ∀ n H1, P n H1 → Pv n H1 0 σ H1)
    (hs : ∀ n H1 (i : Nat) σ' H', P n H1 → (i : Int) < n → Pv n H1 i σ' H' → tu { Z with nx := Pv n H1 (i + 1), ct := Pv n H1 (i + 1), bk := Z.nx } (σ'.set j (some (.int (i : Int)))) H') (hd : ∀ n H1 σ' H', P n H1 → Pv n H1 n.toNat σ' H' → Z.nx σ' H') : tFor (iRng1 (tCons ta tNil)) (gName j) tu Z σ H :=
  h _ fun n H1 p => ⟨n, rfl, by have := hn n H1 p; omega, by have := hn n H1 p; omega, for_range (lo := 0) (n := n.toNat) (Pv n H1) (h0 n H1 p) (fun i σ' H' hi q => by
    have e0 : (0 : Int) + (i : Int) = (i : Int) := Int.zero_add _
    show tu { Z with nx := Pv n H1 (i + 1), ct := Pv n H1 (i + 1), bk := Z.nx } (σ'.set j (some (.int ((0 : Int) + (i : Int))))) H'
    rw [e0]
    exact hs n H1 i σ' H' p (by omega) q) (fun σ' H' q => hd n H1 σ' H' p q)⟩
theorem doG_names (g : GS) (dd : Deed) : (doG g dd).2.walkers = g.walkers ∧ (doG g dd).2.weathers = g.weathers := by
  cases dd with
  | tell xs =>
    cases hfl : factL xs with
    | none => simp only [doG, hfl]; first | exact ⟨rfl, rfl⟩ | exact ⟨trivial, trivial⟩ | trivial
    | some f => simp only [doG, hfl]; split <;> (try split) <;> (try split) <;> first | exact ⟨rfl, rfl⟩ | exact ⟨trivial, trivial⟩ | trivial
  | cross x y => simp only [doG]; split <;> (try split) <;> first | exact ⟨rfl, rfl⟩ | exact ⟨trivial, trivial⟩ | trivial
  | take n => simp only [doG]; split <;> first | exact ⟨rfl, rfl⟩ | exact ⟨trivial, trivial⟩ | trivial
  | settle n o =>
    cases hg : getA g.cross n with
    | none => simp only [doG, hg]; first | exact ⟨rfl, rfl⟩ | exact ⟨trivial, trivial⟩ | trivial
    | some c =>
      simp only [doG, hg]
      by_cases h1 : o ≠ c.1 ∧ o ≠ c.2
      · rw [if_pos h1]; first | exact ⟨rfl, rfl⟩ | exact ⟨trivial, trivial⟩ | trivial
      · rw [if_neg h1]
        by_cases h2 : closes g ⟨nOver, o, if o = c.1 then c.2 else c.1⟩ = true
        · rw [if_pos h2]; first | exact ⟨rfl, rfl⟩ | exact ⟨trivial, trivial⟩ | trivial
        · rw [if_neg h2]; first | exact ⟨rfl, rfl⟩ | exact ⟨trivial, trivial⟩ | trivial
/-- due(m, deed), then told(ground, deed) -/
theorem q_both {σ : L2.St} {Z : Ends} {t1 t2 t3 t4 : TE} {r : Addr} {g : GS} {M : MA} {A : GA} {dd : Deed} (ok : GOk g) (W : LawW K p0 a.cGround r g g A M H) (h1 : ∀ H1, EV t1 σ H1 (Is (.ref M.d))) (h3 : ∀ H1, EV t3 σ H1 (Is (.ref A.p)))
    (h2 : EV t2 σ H (DeedAt dd)) (h4 : ∀ H1, TEx H H1 → EV t4 σ H1 (DeedAt dd)) (k : ∀ H', GOk (doG g dd).2 → Chg (lawS r A M) H H' → LawW K p0 a.cGround r (doG g dd).2 (doG g dd).2 A M H' → Z.nx σ H') :
    tSeq (tDrop (tCall (sp_w_due K a) [] E0 (tCons t1 (tCons t2 tNil)))) (tDrop (tCall (sp_w_told K a) [] E0 (tCons t3 (tCons t4 tNil)))) Z σ H := by
  refine c_due (h1 H) h2 W.m ok fun H1 c1 G1 => ?_
  have W1 := W.byM c1 G1
  refine c_told (h3 H1) (h4 H1 c1.tup) W1.gr ok fun H2 c2 G2 => ?_
  exact k H2 (ok.doG dd) ((c1.mono (by simp)).trans (c2.mono (by simp))) (W1.byG c2 G2)
theorem len_w_pairs_told (K : PySem.W.Frag) (a : Ad) : ∀ vs H Q E, sp_w_pairs_told K a vs H Q E → vs.length = 3 := fun _ _ _ _ ⟨_, _, _, _, _, e, _⟩ => by rw [e]; rfl
theorem p_w_pairs_told (T : ClT K a) (h : sp_w_pairs_told K a vs H Q E) : t_w_pairs_told K a (FinQ Q) (start ["_law_row", "_law_ground", "_law_m", "_law_j", "_law_i", "_law_deed_here"] vs) H := by
  obtain ⟨r, p0, g, A, M, rfl, W, ok, k⟩ := h
  have zw := ok.lw
  refine s_forR (n := (g.walkers.length : Int)) (ea_int1 (e_len (e_mws e_is W.m))) (by omega) (by omega) (fun _ σ' H' => ∃ (g' : GS) (n3 n4 n5 : Option V), σ' = [some (.ref r), some (.ref A.p), some (.ref M.d), n3, n4, n5] ∧ GOk g' ∧ g'.walkers = g.walkers ∧ Chg (lawS r A M) H H' ∧ LawW K p0 a.cGround r g' g' A M H')
    (fun H1 e1 => ⟨g, none, none, none, rfl, ok, rfl, Chg.of_ex e1, W.ex e1⟩) ?_ ?_
  · rintro j σ' H' hj ⟨g', n3, n4, n5, rfl, ok', hw, c, W'⟩
    show tFor _ _ _ _ [some (.ref r), some (.ref A.p), some (.ref M.d), some (.int (j : Int)), n4, n5] H'
    refine s_forR (n := (j : Int)) (ea_int1 (e_intC _)) (by omega) (by omega) (fun _ σ' H' => ∃ (g' : GS) (n4 n5 : Option V), σ' = [some (.ref r), some (.ref A.p), some (.ref M.d), some (.int (j : Int)), n4, n5] ∧ GOk g' ∧ g'.walkers = g.walkers ∧ Chg (lawS r A M) H H' ∧ LawW K p0 a.cGround r g' g' A M H')
      (fun H1 e1 => ⟨g', n4, n5, rfl, ok', hw, c.trans (Chg.of_ex e1), W'.ex e1⟩) ?_ ?_
    · clear W' ok' hw c
      rintro i σ' H1 hi ⟨g', n4, n5, rfl, ok', hw, c, W'⟩
      show tIfS _ _ _ _ [some (.ref r), some (.ref A.p), some (.ref M.d), some (.int (j : Int)), some (.int (i : Int)), n5] H1
      refine c_taken (many := 5) e_is e_int W'.row (by decide) fun x H2 x0 x1 c2 R2 => ?_
      have W2 := W'.byRow c2 R2
      have c02 := c.trans (c2.mono (S' := lawS r A M) (by simp))
      refine run_tC ?_
      refine ⟨x, 0, rfl, rfl, _, rfl, ?_⟩
      cases hx : decide ((0 : Int) < x) with
      | false => exact ⟨g', _, _, rfl, ok', hw, c02, W2⟩
      | true =>
        rw [if_pos rfl]
        have hlj : j < g'.walkers.length := by rw [hw]; omega
        have hli : i < g'.walkers.length := by omega
        have ix : ∀ (l : Nat) (s : Nat) (hl : l < g'.walkers.length) (H3 : Hp), Ex H2 H3 → [some (V.ref r), some (V.ref A.p), some (V.ref M.d), some (V.int (j : Int)), some (V.int (i : Int)), n5][s]? = some (some (V.int (l : Int))) → EV (tOp (rIxL K) (tDGet (tVar 2) (tC (.str ("walkers" : Str)))) (tVar s)) [some (.ref r), some (.ref A.p), some (.ref M.d), some (.int (j : Int)), some (.int (i : Int)), n5] H3 (D g'.walkers[l]) := fun l s hl H3 e hs =>
          e_ixL (α := Nm) (j := l) (e_mws e_is (W2.m.ex e)) (e_intC _ hs) (atI_nat (List.getElem?_eq_getElem hl))
        refine q_set (deed_tell (e_str nOver) (ix j 3 hlj H2 (Ex.refl _) rfl) (ix i 4 hli H2 (Ex.refl _) rfl)) fun vd H3 e3 pd => ?_
        refine q_both (dd := .tell [nOver, g'.walkers[j], g'.walkers[i]]) ok' (W2.ex e3) (fun _ => e_is) (fun _ => e_is) (e_var pd) (fun H4 e4 => e_var (pd.t e4)) fun H5 ok5 c5 W5 => ?_
        exact ⟨_, _, _, rfl, ok5, (doG_names _ _).1.trans hw, (c02.trans (Chg.of_ex e3)).trans c5, W5⟩
    · rintro σ' H1 ⟨g', n4, n5, rfl, ok', hw, c, W'⟩
      exact ⟨g', _, _, _, rfl, ok', hw, c, W'⟩
  · rintro σ' H' ⟨g', n3, n4, n5, rfl, ok', hw, c, W'⟩
    exact k g' H' ok' c W'
/-! ### what may change, told thinner -/
theorem Chg.thin {r : Addr} {S : List Addr} {H1 H2 : Hp} (c : Chg [r] H H1) (d : Chg S H1 H2) (h : ∀ s ∈ S, s ≠ r → H s = none) : Chg [r] H H2 := ⟨fun b o hb q => d.keep b o (fun z => by
  have hn : b ≠ r := by simpa using hb
  rw [h b z hn] at q
  cases q) (c.keep b o hb q), c.tup.trans d.tup⟩
theorem Chg.freeR {r p : Addr} (c : Chg [r] H H') (hr : ∃ o, H' r = some o) (hp : H' p = none) : H p = none := by
  cases h : H p with
  | none => rfl
  | some o =>
    have hn : p ≠ r := fun z => by
      obtain ⟨u, hu⟩ := hr
      rw [z, hu] at hp; cases hp
    rw [c.keep p o (by simpa using hn) h] at hp
    cases hp
theorem mergeK_new : ∀ (more kvs : List (Key × V)), ((kvs ++ more).map (·.1)).Nodup → mergeK kvs more = kvs ++ more
  | [], kvs, _ => by rw [List.append_nil]; rfl
  | (k, v) :: more, kvs, h => by
    have hk : k ∉ kvs.map (·.1) := fun z => by
      rw [List.map_append, List.map_cons] at h
      exact (List.nodup_append.mp h).2.2 k z k (by simp) rfl
    show mergeK (putK kvs k v) more = _
    rw [putK_new v hk, mergeK_new more (kvs ++ [(k, v)]) (by simpa using h)]
    simp
theorem mf_merge (M : MA) (n : Int) : mergeK [] (mf M n) = mf M n := by
  have h : [(Sum.inr ("walkers" : Str) : Key), Sum.inr ("weathers" : Str), Sum.inr ("facts" : Str), Sum.inr ("cross" : Str), Sum.inr ("given" : Str)].Nodup := by decide +kernel
  exact mergeK_new (mf M n) [] h
end
end TK

namespace TK
open PySem L2 PySem.Spec PyProof.Rows
open Enc (enc)
section
variable {K : PySem.W.Frag} {a : Ad} {vs : List V} {H H' : Hp} {Q : VK} {E : XK}
theorem e_ground {σ : L2.St} {t1 t2 : TE} {ws ths : List Nm} (h1 : EV t1 σ H (Ls ws)) (h2 : EV t2 σ H (Ls ths)) (nk : NamesOk ws ths) : EV (tMake a.cGround (sp_Ground_init K a) [] E0 (tCons t1 (tCons t2 tNil))) σ H (fun v H1 => ∃ A : GA, v = .ref A.p ∧ H A.p = none ∧ H A.df = none ∧ H A.dc = none ∧ H A.lw = none ∧ H A.lt = none ∧ GrAt a.cGround (newG ws ths) A H1) := fun H1 e Q q =>
  h1 H1 e _ fun v H2 e2 p1 => h2 H2 (e.trans e2) _ fun w H3 e3 p2 p dx hp hdx hne =>
    ⟨H3, p, dx, ws, ths, v, w, rfl, ex_new2 hp hdx, hp, upd_same, p1.ex e3, p2, nk, fun A H4 e4 ha hf hc hw ht G => ⟨rfl, by
      subst ha
      exact q _ H4 ((e2.trans e3).trans e4) ⟨A, rfl, e.free ((e2.trans e3).free hp), e.free ((e2.trans e3).free hf), e.free ((e2.trans e3).free hc), e.free ((e2.trans e3).free hw), e.free ((e2.trans e3).free ht), G⟩⟩⟩
theorem len_w_grown (K : PySem.W.Frag) (a : Ad) : ∀ vs H Q E, sp_w_grown K a vs H Q E → vs.length = 2 := fun _ _ _ _ ⟨_, _, _, e, _⟩ => by rw [e]; rfl
theorem p_w_grown (T : ClT K a) (h : sp_w_grown K a vs H Q E) : t_w_grown K a (FinQ Q) (start ["_law_row", "_law_most", "_law_walkers", "_law_weathers", "_law_m", "_law_ground", "_law_k", "_law_deed_here"] vs) H := by
  obtain ⟨r, p0, most, rfl, R, m0, m1, k⟩ := h
  refine ⟨V.ref r, rfl, r, _, rfl, R, fun t l1 l2 ws ths H1 nk c1 R1 ht f1 f2 s1 s2 => ?_⟩
  refine ⟨t, [.ref l1, .ref l2], rfl, st_of ht, rfl, _, _, rfl, _, _, rfl, rfl, ?_⟩
  show tSeq _ _ _ [some (.ref r), some (.int most), some (.ref l1), some (.ref l2), none, none, none, none] H1
  refine fun p hp => ⟨.ref l1, rfl, .ref l2, rfl, fun df hdf dc hdc => ?_⟩
  have hdp : df ≠ p := fun z => by rw [z, upd_same] at hdf; cases hdf
  rw [upd_ne hdp] at hdf
  have hcd : dc ≠ df := fun z => by rw [z, upd_same] at hdc; cases hdc
  rw [upd_ne hcd] at hdc
  have hcp : dc ≠ p := fun z => by rw [z, upd_same] at hdc; cases hdc
  rw [upd_ne hcp] at hdc
  refine ⟨by rw [upd_ne (Ne.symm hcp), upd_ne (Ne.symm hdp), upd_same], mf ⟨p, df, dc, l1, l2⟩ 0, rfl, by simp [mf], ?_⟩
  rw [mf_merge]
  generalize hM : (⟨p, df, dc, l1, l2⟩ : MA) = M
  have eM : M.d = p ∧ M.df = df ∧ M.dc = dc ∧ M.lw = l1 ∧ M.lt = l2 := by subst hM; exact ⟨rfl, rfl, rfl, rfl, rfl⟩
  generalize hH2 : upd (upd (upd (upd H1 p (.dK [])) df (.dK [])) dc (.dK [])) p (.dK (mf M 0)) = H2
  have e12 : Ex H1 H2 := fun b o q => by
    rw [← hH2, upd_ne (ne_of_none q hp), upd_ne (ne_of_none q hdc), upd_ne (ne_of_none q hdf), upd_ne (ne_of_none q hp)]; exact q
  have G2 : MAt (newG ws ths) M H2 := by
    refine ⟨?_, ?_, ?_, ⟨[], ?_, .nil⟩, ⟨[], ?_, .nil⟩, ?_⟩
    · rw [eM.1, ← hH2, upd_same]; rfl
    · rw [eM.2.2.2.1]; exact s1.ex e12
    · rw [eM.2.2.2.2]; exact s2.ex e12
    · rw [eM.2.1, ← hH2, upd_ne hdp, upd_ne (Ne.symm hcd), upd_same]
    · rw [eM.2.2.1, ← hH2, upd_ne hcp, upd_same]
    · rw [eM.1, eM.2.1, eM.2.2.1]
      simp only [List.nodup_cons, List.mem_cons, List.not_mem_nil, or_false, not_or, List.nodup_nil, not_false_eq_true, and_true]
      exact ⟨⟨Ne.symm hdp, Ne.symm hcp⟩, Ne.symm hcd⟩
  have d0 : H2 M.d ≠ none ∧ H2 M.df ≠ none ∧ H2 M.dc ≠ none := by
    obtain ⟨_, q1, _⟩ := G2.fa
    obtain ⟨_, q2, _⟩ := G2.cr
    rw [G2.dd, q1, q2]
    exact ⟨by simp, by simp, by simp⟩
  have hr1 : ∃ o, H1 r = some o := let ⟨xs, q⟩ := row_one R1; ⟨_, q⟩
  have hMf : H M.d = none ∧ H M.df = none ∧ H M.dc = none := by
    rw [eM.1, eM.2.1, eM.2.2.1]
    exact ⟨c1.freeR hr1 hp, c1.freeR hr1 hdf, c1.freeR hr1 hdc⟩
  rw [← eM.1]
  clear hH2
  have R2 := R1.ex e12
  have s12 := s1.ex e12
  have s22 := s2.ex e12
  show tSeq _ _ _ [some (.ref r), some (.int most), some (.ref l1), some (.ref l2), some (.ref M.d), none, none, none] H2
  refine q_set (e_ground (K := K) (a := a) (e_list (e_var s12)).ls (e_list (e_var s22)).ls nk) fun vg H3 e3 pg => ?_
  obtain ⟨A, rfl, a1, a2, a3, _, _, GA3⟩ := pg
  have W3 : LawW K p0 a.cGround r (newG ws ths) (newG ws ths) A M H3 := by
    refine ⟨R2.ex e3, GA3, G2.ex e3, ?_⟩
    have nd := G2.nd
    simp only [List.mem_cons, List.not_mem_nil, or_false, not_or, List.nodup_cons, List.nodup_nil, not_false_eq_true, and_true] at nd ⊢
    have ne : ∀ {x y : Addr}, H2 x ≠ none → H2 y = none → x ≠ y := fun h1 h2 z => h1 (z ▸ h2)
    exact ⟨⟨nd.1.1, nd.1.2, ne d0.1 a2, ne d0.1 a3⟩, ⟨nd.2, ne d0.2.1 a2, ne d0.2.1 a3⟩, ⟨ne d0.2.2 a2, ne d0.2.2 a3⟩, GA3.ne⟩
  have ok := GOk.new nk
  have c3 : Chg [r] H H3 := c1.trans (Chg.of_ex (e12.trans e3))
  have thin : ∀ {H4 : Hp}, Chg (lawS r A M) H3 H4 → Chg [r] H H4 := fun c => c3.thin c fun s hs hne => by
    have fA : ∀ {x : Addr}, H2 x = none → H x = none := fun h => c1.freeR hr1 (e12.free h)
    simp only [List.mem_cons, List.not_mem_nil, or_false] at hs
    rcases hs with q | q | q | q | q | q | q
    · exact absurd q hne
    · rw [q]; exact fA a1
    · rw [q]; exact fA a2
    · rw [q]; exact fA a3
    · rw [q]; exact hMf.1
    · rw [q]; exact hMf.2.1
    · rw [q]; exact hMf.2.2
  generalize newG ws ths = g at W3 ok
  clear GA3 G2 R2 R1
  show tSeq _ _ _ [some (.ref r), some (.int most), some (.ref l1), some (.ref l2), some (.ref M.d), some (.ref A.p), none, none] H3
  have key : ∀ W : L2.St → Hp → Prop, (∀ g' H4, GOk g' → Chg (lawS r A M) H3 H4 → LawW K p0 a.cGround r g' g' A M H4 → W [some (.ref r), some (.int most), some (.ref l1), some (.ref l2), some (.ref M.d), some (.ref A.p), none, none] H4) →
      tIfS (tTest (tOp (rEqD K) (tCall (sp_w_taken K a) [] E0 (tCons (tVar 0) (tCons (tC (.int 6)) tNil))) (tC (.int 5)))) (tDrop (tCall (sp_w_pairs_told K a) [] E0 (tCons (tVar 0) (tCons (tVar 5) (tCons (tVar 4) tNil))))) tNext { FinQ Q with nx := W } [some (.ref r), some (.int most), some (.ref l1), some (.ref l2), some (.ref M.d), some (.ref A.p), none, none] H3 := by
    intro W rest
    refine c_taken (many := 6) e_is e_int W3.row (by decide) fun x H4 _ _ c4 R4 => ?_
    refine run_tC ?_
    have W4 := W3.byRow c4 R4
    have c4' := c4.mono (S' := lawS r A M) (by simp)
    refine r_eq (α := Int) (by decide) (D.of_int x H4) (D.of_int 5 H4) ⟨_, rfl, ?_⟩
    cases hx : decide (x = 5) with
    | false => exact rest g H4 ok c4' W4
    | true =>
      rw [if_pos rfl]
      exact ⟨_, rfl, _, rfl, _, rfl, r, _, g, A, M, rfl, W4, ok, fun g' H5 ok' c5 W5 => rest g' H5 ok' (c4'.trans c5) W5⟩
  refine key _ fun g1 H4 ok1 c4 W4 => ?_
  refine s_forRX (P := fun n H5 => 0 ≤ n ∧ n < most + 1 ∧ Chg [r] H4 H5 ∧ RowAt K p0 r H5) (fun Q q => c_taken (many := most + 1) e_is (e_I0 (g := fun i j => i + j) (e_intC _) (e_int (i := 1))) W4.row (by omega) fun i H5 i0 i1 c R => q i H5 ⟨i0, i1, c, R⟩) (fun n H5 q => by omega)
    (fun n H5 i σ' H6 => ∃ (g' : GS) (n6 n7 : Option V), σ' = [some (.ref r), some (.int most), some (.ref l1), some (.ref l2), some (.ref M.d), some (.ref A.p), n6, n7] ∧ GOk g' ∧ Chg (lawS r A M) H3 H6 ∧ LawW K p0 a.cGround r g' g' A M H6) ?_ ?_ ?_
  · rintro n H5 ⟨_, _, c, R⟩
    exact ⟨g1, none, none, rfl, ok1, c4.trans (c.mono (by simp)), W4.byRow c R⟩
  · rintro n H5 i σ' H6 _ _ ⟨g', n6, n7, rfl, ok', c, W⟩
    show tSeq _ _ _ [some (.ref r), some (.int most), some (.ref l1), some (.ref l2), some (.ref M.d), some (.ref A.p), some (.int (i : Int)), n7] H6
    refine c_deed (M := M) e_is e_is W.row W.m ok' fun dd v H7 c7 R7 d7 => ?_
    have W7 := W.byRow c7 R7
    show tSeq _ _ _ [some (.ref r), some (.int most), some (.ref l1), some (.ref l2), some (.ref M.d), some (.ref A.p), some (.int (i : Int)), some v] H7
    refine q_both (dd := dd) ok' W7 (fun _ => e_is) (fun _ => e_is) (e_var d7) (fun H8 e8 => e_var (d7.t e8)) fun H8 ok8 c8 W8 => ?_
    exact ⟨_, _, _, rfl, ok8, (c.trans (c7.mono (by simp))).trans c8, W8⟩
  · rintro n H5 σ' H6 _ ⟨g', n6, n7, rfl, ok', c, W⟩
    refine ⟨_, rfl, _, rfl, sz_of (by simp), fun t ht => ?_⟩
    exact k t A M g' _ ok' ((thin c).trans (Chg.of_ex (Ex.new ht))) (W.ex (Ex.new ht)) upd_same
/-! ### the law -/
theorem same_dk {α : Type} [DecidableEq α] [Enc α] {p q : Addr} {kvs : List (Int × α)} (nd : (keysA kvs).Nodup) (h1 : DkAt H p kvs) (h2 : DkAt H q kvs) (hd : Enc.dep α ≤ 63) :
    ∃ ks ls, H p = some (.dK ks) ∧ H q = some (.dK ls) ∧ ks.length = ls.length ∧ ∀ z ∈ ks, ∃ t, valV ls z.1 = some t ∧ SameD K H z.2 t := by
  obtain ⟨ks, p1, p2⟩ := h1
  obtain ⟨ls, q1, q2⟩ := h2
  refine ⟨ks, ls, p1, q1, by rw [← prD_len p2, prD_len q2], fun z hz => ?_⟩
  obtain ⟨⟨k, x⟩, hkx, hk, hx⟩ : ∃ kx ∈ kvs, z.1 = Sum.inl kx.1 ∧ D kx.2 z.2 H := by
    clear p1 q1 q2 nd
    induction p2 with
    | nil => cases hz
    | @cons b c bs cs hbc _ ih =>
      rcases List.mem_cons.mp hz with e | e
      · subst e; exact ⟨b, by simp, hbc.1, hbc.2⟩
      · obtain ⟨kx, h1, h2⟩ := ih e
        exact ⟨kx, by simp [h1], h2⟩
  have hg := getA_of_mem nd hkx
  rcases prD_val inl_inj' q2 k with ⟨e, _⟩ | ⟨x', v', e1, e2, e3⟩
  · rw [hg] at e; cases e
  · rw [hg] at e1
    cases e1
    rw [hk]
    refine ⟨v', e2, enc x, td_dp _ hx, td_dp _ e3, shaped_enc x hd, ?_⟩
    rw [Enc.eqv]
    exact decide_eq_true rfl
theorem r_neRes {r : Res} (q : Q (.bl false) H) : rNeD K (resV r) (resV r) H Q := by
  have e : ∀ {α : Type} [DecidableEq α] (x : α), (!decide (x = x)) = false := fun x => by rw [decide_eq_true rfl]; rfl
  cases r with
  | num n => exact r_ne (α := Int) (a := n) (b := n) (by decide) (D.of_int n H) (D.of_int n H) (by rw [e n]; exact q)
  | non => exact r_ne (α := Option Int) (a := none) (b := none) (by decide) (show Td H .non _ from Td.non) (show Td H .non _ from Td.non) (by rw [e (none : Option Int)]; exact q)
  | word w => exact r_ne (α := Nm) (a := w) (b := w) (by decide) (D.of_nm w H) (D.of_nm w H) (by rw [e w]; exact q)
end
end TK

namespace TK
open PySem L2 PySem.Spec PyProof.Rows
open Enc (enc)
section
variable {K : PySem.W.Frag} {a : Ad} {vs : List V} {H H' : Hp} {Q : VK} {E : XK}
section
variable {α β γ : Type} [DecidableEq α] [DecidableEq β] [DecidableEq γ] [Enc α] [Enc β] [Enc γ] {σ : L2.St} {ta : TE}
theorem run_gN {i : Nat} {v : V} {σ : L2.St} {Q : L2.St → Hp → Prop} (q : Q (σ.set i (some v)) H) : gName i v σ H Q := q
theorem e_ixT0 {a : α} {b : β} {c : γ} (h1 : EV ta σ H (D (T3.mk a b c))) : EV (tOp (rIxT K) ta (tC (.int 0))) σ H (D a) := e_op h1 e_int fun v y H1 e p p' Q q => by
  cases p'.is_int
  have p : Td H1 v (.tuple [enc a, enc b, enc c]) := p
  cases p with
  | tup hp ha =>
    cases ha with
    | cons g1 g2 => exact ⟨_, _, 0, _, rfl, rfl, st_of hp, atI_nat (j := 0) rfl, q _ H1 (Ex.refl H1) g1⟩
theorem e_ixT1 {a : α} {b : β} {c : γ} (h1 : EV ta σ H (D (T3.mk a b c))) : EV (tOp (rIxT K) ta (tC (.int 1))) σ H (D b) := e_op h1 e_int fun v y H1 e p p' Q q => by
  cases p'.is_int
  have p : Td H1 v (.tuple [enc a, enc b, enc c]) := p
  cases p with
  | tup hp ha =>
    cases ha with
    | cons g1 g2 =>
      cases g2 with
      | cons g2 g3 => exact ⟨_, _, 1, _, rfl, rfl, st_of hp, atI_nat (j := 1) rfl, q _ H1 (Ex.refl H1) g2⟩
end
/-! ### what comes later, list by list -/
structure LatN (things : List Thing) (ls : List Addr) (F : Thing → List Thing) (Hb H : Hp) (d : Addr) : Prop where
  dd : H d = some (.dT (netD things ls))
  li : ∀ (i : Nat) (t : Thing) (l : Addr), things[i]? = some t → ls[i]? = some l → Ls (F t) (.ref l) H
  fd : Hb d = none
  fl : ∀ l ∈ ls, Hb l = none
section
variable {things : List Thing} {ls : List Addr} {F : Thing → List Thing} {Hb : Hp} {d : Addr}
theorem LatN.mono (h : LatN things ls F Hb H d) (e : Ex H H') : LatN things ls F Hb H' d := ⟨e _ _ h.dd, fun i t l a b => (h.li i t l a b).ex e, h.fd, h.fl⟩
theorem LatN.back {Hb2 : Hp} (h : LatN things ls F Hb2 H d) (e : Ex Hb Hb2) : LatN things ls F Hb H d := ⟨h.dd, h.li, e.free h.fd, fun l hl => e.free (h.fl l hl)⟩
theorem LatN.rebase {H2 : Hp} (h : LatN things ls F Hb H d) (hl : ls.length = things.length) (eb : Ex Hb H) (e : Ex H H2) :
    ∃ Hb2, Ex Hb Hb2 ∧ Ex Hb2 H2 ∧ LatN things ls F Hb2 H2 d ∧ TEx H2 Hb2 ∧ ∀ b, H b = none → Hb2 b = H2 b := by
  have hls : ∀ l ∈ ls, ∃ us, H l = some (.lst us) := fun l hm => by
    obtain ⟨i, hi⟩ := List.getElem?_of_mem hm
    have hil : i < things.length := by rw [← hl]; exact (List.getElem?_eq_some_iff.mp hi).1
    obtain ⟨q, us, e1, e2, _⟩ := h.li i _ l (List.getElem?_eq_getElem hil) hi
    cases e1
    exact ⟨us, e2⟩
  let S := d :: ls
  have hS : ∀ b ∈ S, Hb b = none ∧ ∃ o, H b = some o ∧ NoTup o := fun b hb => by
    rcases List.mem_cons.mp hb with q | q
    · subst q; exact ⟨h.fd, _, h.dd, True.intro⟩
    · obtain ⟨us, hu⟩ := hls b q; exact ⟨h.fl b q, _, hu, True.intro⟩
  refine ⟨fun b => if b ∈ S then none else H2 b, fun b o q => ?_, fun b o q => ?_, ⟨e _ _ h.dd, fun i t l x y => (h.li i t l x y).ex e, if_pos (by simp [S]), fun l hl => if_pos (by simp [S, hl])⟩, fun b xs q => ?_, fun b q => ?_⟩
  · have : b ∉ S := fun z => by rw [(hS b z).1] at q; cases q
    show (if b ∈ S then none else H2 b) = _
    rw [if_neg this]; exact e _ _ (eb _ _ q)
  · by_cases z : b ∈ S
    · simp only [if_pos z] at q; cases q
    · simp only [if_neg z] at q; exact q
  · have : b ∉ S := fun z => by
      obtain ⟨o, ho, nt⟩ := (hS b z).2
      rw [e _ _ ho] at q
      cases q
      exact nt
    show (if b ∈ S then none else H2 b) = _
    rw [if_neg this]; exact q
  · have : b ∉ S := fun z => by
      obtain ⟨o, ho, _⟩ := (hS b z).2
      rw [q] at ho; cases ho
    show (if b ∈ S then none else H2 b) = _
    rw [if_neg this]
theorem LatN.get (h : LatN things ls F Hb H d) (hl : ls.length = things.length) {t : Thing} (ht : t ∈ things) : ∃ (i : Nat) (l : Addr), things[i]? = some t ∧ ls[i]? = some l ∧ Ls (F t) (.ref l) H := by
  obtain ⟨i, hi⟩ := List.getElem?_of_mem ht
  have hil : i < ls.length := by rw [hl]; exact (List.getElem?_eq_some_iff.mp hi).1
  exact ⟨i, ls[i], hi, List.getElem?_eq_getElem hil, h.li i t _ hi (List.getElem?_eq_getElem hil)⟩
theorem LatN.ev (h : LatN things ls F Hb H d) (nd : things.Nodup) {σ : L2.St} {td tk : TE} {t : Thing} {i : Nat} {l : Addr} (hi : things[i]? = some t) (hli : ls[i]? = some l) (hd : EV td σ H (Is (.ref d))) (hk : EV tk σ H (D t)) : EV (tDGet td tk) σ H (Is (.ref l)) :=
  e_tget hd hk h.dd (netD_val nd hi hli)
def upF (F : Thing → List Thing) (t : Thing) (xs : List Thing) : Thing → List Thing := fun u => if u = t then xs else F u
theorem upF_same {t : Thing} {xs : List Thing} : upF F t xs t = xs := if_pos rfl
theorem upF_ne {t u : Thing} {xs : List Thing} (h : u ≠ t) : upF F t xs u = F u := if_neg h
theorem LatN.app (h : LatN things ls F Hb H d) (nd : things.Nodup) (ndl : ls.Nodup) {t : Thing} {i : Nat} {l : Addr} (hi : things[i]? = some t) (hli : ls[i]? = some l) {xs : List Thing} (c : Chg [l] H H') (s : ∀ b, b ≠ l → H' b = H b) (hx : Ls xs (.ref l) H') :
    LatN things ls (upF F t xs) Hb H' d := by
  refine ⟨?_, fun j u m hj hm => ?_, h.fd, h.fl⟩
  · rw [s d (fun z => by
      obtain ⟨q, us, e1, e2, _⟩ := h.li i t l hi hli
      cases e1
      rw [← z, h.dd] at e2
      cases e2)]
    exact h.dd
  · by_cases hu : u = t
    · subst hu
      have hji : j = i := (List.getElem?_inj ((List.getElem?_eq_some_iff.mp hj).1) nd).mp (hj.trans hi.symm)
      subst hji
      rw [hli] at hm
      cases hm
      rw [upF_same]
      exact hx
    · rw [upF_ne hu]
      have hml : m ≠ l := fun z => by
        subst z
        have hji : j = i := (List.getElem?_inj ((List.getElem?_eq_some_iff.mp hm).1) ndl).mp (hm.trans hli.symm)
        subst hji
        rw [hi] at hj
        cases hj
        exact hu rfl
      exact (h.li j u m hj hm).chg c (by simpa using hml)
end
/-! ### the plain law of it -/
def miss (things : List Thing) (F : Thing → List Thing) (t : Thing) : Nat := (things.filter fun y => !memB y (F t)).length
def missAll (things : List Thing) (F : Thing → List Thing) : Nat := (things.map (miss things F)).sum
structure LGood (things : List Thing) (links : List LinkT) (F : Thing → List Thing) : Prop where
  dir : ∀ k ∈ links, k.b ∈ F k.a
  snd : ∀ t ∈ things, ∀ y ∈ F t, Reach links t y ∧ y ∈ things
  siz : ∀ t ∈ things, (F t).length + miss things F t ≤ links.length + things.length
theorem miss_app {things : List Thing} {F : Thing → List Thing} {t y : Thing} (hy : y ∈ things) (hn : y ∉ F t) : miss things (upF F t (F t ++ [y])) t < miss things F t := by
  unfold miss
  have e : (things.filter fun z => !memB z (upF F t (F t ++ [y]) t)) = (things.filter fun z => !memB z (F t)).filter fun z => decide (z ≠ y) := by
    rw [upF_same, List.filter_filter]
    refine List.filter_congr fun z _ => ?_
    unfold memB
    rw [Bool.eq_iff_iff]
    simp only [List.mem_append, List.mem_cons, List.not_mem_nil, or_false, Bool.not_eq_true', decide_eq_false_iff_not, not_or, Bool.and_eq_true, decide_eq_true_eq]
    exact ⟨fun h => ⟨h.2, h.1⟩, fun h => ⟨h.2, h.1⟩⟩
  rw [e]
  refine List.length_filter_lt_length_iff_exists.mpr ⟨y, List.mem_filter.mpr ⟨hy, ?_⟩, by simp⟩
  cases hm : memB y (F t) with
  | false => rfl
  | true => exact absurd (memB_iff.mp hm) hn
theorem sum_lt {α : Type} (f g : α → Nat) : ∀ (xs : List α) (t : α), t ∈ xs → (∀ x ∈ xs, f x ≤ g x) → f t < g t → (xs.map f).sum < (xs.map g).sum
  | x :: xs, t, ht, hle, hlt => by
    rw [List.map_cons, List.map_cons, List.sum_cons, List.sum_cons]
    have h0 := hle x (by simp)
    have hs : (xs.map f).sum ≤ (xs.map g).sum := by
      clear ht hlt h0
      induction xs with
      | nil => simp
      | cons y ys ih =>
        rw [List.map_cons, List.map_cons, List.sum_cons, List.sum_cons]
        have h1 := hle y (by simp)
        have h2 := ih fun z hz => hle z (by rcases List.mem_cons.mp hz with q | q; simp [q]; simp [q])
        omega
    rcases List.mem_cons.mp ht with e | e
    · subst e; omega
    · have := sum_lt f g xs t e (fun z hz => hle z (List.mem_cons_of_mem _ hz)) hlt
      omega
theorem missAll_app {things : List Thing} {F : Thing → List Thing} {t y : Thing} (ht : t ∈ things) (hy : y ∈ things) (hn : y ∉ F t) : missAll things (upF F t (F t ++ [y])) < missAll things F := by
  refine sum_lt _ _ things t ht (fun u _ => ?_) (miss_app hy hn)
  by_cases e : u = t
  · subst e; exact Nat.le_of_lt (miss_app hy hn)
  · unfold miss; rw [upF_ne e]; exact Nat.le_refl _
theorem LGood.app {things : List Thing} {links : List LinkT} {F : Thing → List Thing} (h : LGood things links F) {t y : Thing} (hr : Reach links t y) (hy : y ∈ things) (hn : y ∉ F t) : LGood things links (upF F t (F t ++ [y])) where
  dir := fun k hk => by
    by_cases e : k.a = t
    · rw [e, upF_same]; exact List.mem_append_left _ (e ▸ h.dir k hk)
    · rw [upF_ne e]; exact h.dir k hk
  snd := fun u hu z hz => by
    by_cases e : u = t
    · subst e
      rw [upF_same] at hz
      rcases List.mem_append.mp hz with q | q
      · exact h.snd u hu z q
      · simp at q; subst q; exact ⟨hr, hy⟩
    · rw [upF_ne e] at hz; exact h.snd u hu z hz
  siz := fun u hu => by
    by_cases e : u = t
    · subst e
      have h1 := miss_app hy hn
      have h2 := h.siz u hu
      rw [upF_same, List.length_append]
      simp only [List.length_cons, List.length_nil]
      omega
    · have h2 := h.siz u hu
      unfold miss at h2 ⊢
      rw [upF_ne e]; exact h2
theorem LGood.full {things : List Thing} {links : List LinkT} {F : Thing → List Thing} (h : LGood things links F) (hl : ∀ k ∈ links, k.a ∈ things ∧ k.b ∈ things) (hc : ∀ t ∈ things, ∀ o ∈ F t, ∀ l ∈ F o, l ∈ F t) {t y : Thing} (ht : t ∈ things) : memB y (F t) = reachB links t y := by
  rw [Bool.eq_iff_iff, memB_iff, reachB_iff]
  refine ⟨fun q => (h.snd t ht y q).1, fun q => ?_⟩
  unfold Reach at q
  induction q with
  | single s => obtain ⟨n, hn⟩ := s; exact h.dir _ hn
  | tail _ s ih => obtain ⟨n, hn⟩ := s; exact hc t ht _ ih _ (h.dir _ hn)
/-- what one round of the loop has done -/
def Rnd (things : List Thing) (F0 F : Thing → List Thing) (c : Bool) (P : Prop) : Prop := (c = true ∧ missAll things F < missAll things F0) ∨ (c = false ∧ F = F0 ∧ P)
theorem len_w_pairs (K : PySem.W.Frag) (a : Ad) : ∀ vs H Q E, sp_w_pairs K a vs H Q E → vs.length = 2 := fun _ _ _ _ ⟨_, _, _, _, e, _⟩ => by rw [e]; rfl
theorem p_w_pairs (T : ClT K a) (h : sp_w_pairs K a vs H Q E) : t_w_pairs K a (FinQ Q) (start ["_law_things_here", "_law_links_here", "_law_later", "_law_thing", "_law_changed", "_law_other", "_law_last", "_law_found", "_law_link"] vs) H := by
  obtain ⟨things, links, v, w, rfl, hv, hw, nd, hends, hac, hz, hzl, k⟩ := h
  refine q_set e_dnewT fun vd H1 e1 ⟨d, rd, hd0, hd⟩ => ?_
  subst rd
  let F0 : Thing → List Thing := fun t => (links.filter fun k => decide (k.a = t)).map (·.b)
  -- the first lists
  refine q_for (α := Thing) (P := fun x H2 => x = v ∧ Ex H H2) (xs := things) (e_v rfl fun H2 e => ⟨rfl, e1.trans e⟩) (fun x H2 q => by rw [q.1]; exact hv.ex q.2)
    (fun H2 v2 pre σ' H' => ∃ (n3 : Option V) (ls : List Addr), σ' = [some v, some w, some (.ref d), n3, none, none, none, none, none] ∧ Ex H H' ∧ H' d = some (.dT (netD pre ls)) ∧ ls.length = pre.length ∧ ls.Nodup ∧ (∀ l ∈ ls, H l = none) ∧ ∀ (i : Nat) (t : Thing) (l : Addr), pre[i]? = some t → ls[i]? = some l → Ls (F0 t) (.ref l) H') ?_ ?_ ?_ ?_
  · intro v2 H2 e2 p2
    exact ⟨none, [], rfl, e1.trans e2, e2 _ _ hd, rfl, List.nodup_nil, (fun l hl => by cases hl), fun i t l hi => by simp at hi⟩
  · rintro v2 H2 pre σ' H' e2 p2 ⟨n3, ls, rfl, e3, h1, h2, h3, h4, h5⟩
    rw [p2.1]
    exact hv.ex e3
  · rintro v2 H2 pre x post y σ' H' e2 p2 hsp ⟨n3, ls, rfl, e3, h1, h2, h3, h4, h5⟩ dy
    have hl : pre.length ≤ 100 := by rw [hsp, List.length_append] at hz; omega
    have hx : x ∉ pre := fun z => by
      rw [hsp] at nd
      exact (List.nodup_append.mp nd).2.2 x z x (by simp) rfl
    refine run_gN ?_
    have hlc : EV (tLc (iList K (tVar 1)) (gName 8) (tTest (tOp (rEqD K) (tOp (rIxT K) (tVar 8) (tC (.int 0))) (tVar 3))) (tOp (rIxT K) (tVar 8) (tC (.int 1))) [8]) [some v, some w, some (.ref d), some y, none, none, none, none, none] H' (NL H' (F0 x)) :=
      e_lc (K := K) (α := LinkT) (β := Thing) (j := 8) (fun k => k.b) (fun k => decide (k.a = x)) (e_var (P := Ls links) (hw.ex e3)) (by omega) (fun _ => rfl) (fun kk u H3 _ e d => b_eq (α := Thing) (e_ixT0 (a := kk.a) (b := kk.b) (c := kk.c) (e_var d)) (e_var (dy.ex e))) (fun kk u H3 _ _ e d => e_ixT1 (a := kk.a) (b := kk.b) (c := kk.c) (e_var d))
    refine s_tput hlc e_is (e_var dy) h1 (by simp [netD]; omega) fun u H4 e6 p4 => ?_
    obtain ⟨l, us, rfl, hl0, hl1, hu⟩ := p4
    have hld : l ≠ d := by intro z; subst z; rw [h1] at hl0; cases hl0
    have cg : Chg [d] H4 (upd H4 d (.dT (putK (netD pre ls) (keyT x) (.ref l)))) := upd_chg (Hb := H) (e6 _ _ h1) True.intro
    have hls : ∀ (i : Nat) (t : Thing) (m : Addr), pre[i]? = some t → ls[i]? = some m → m ≠ l ∧ m ≠ d := fun i t m a b => by
      obtain ⟨q, us', e, h', _⟩ := h5 i t m a b
      cases e
      exact ⟨fun z => (by rw [z, hl0] at h'; cases h'), fun z => (by rw [z, h1] at h'; cases h')⟩
    have hnew : ∀ m ∈ ls, m ≠ l := fun m hm => by
      obtain ⟨i, hi⟩ := List.getElem?_of_mem hm
      have hil : i < pre.length := by rw [← h2]; exact (List.getElem?_eq_some_iff.mp hi).1
      exact (hls i _ m (List.getElem?_eq_getElem hil) hi).1
    refine ⟨_, ls ++ [l], rfl, (e3.trans e6).mut hd0, ?_, by simp [h2], List.nodup_append.mpr ⟨h3, by simp, fun m hm n hn => by simp at hn; rw [hn]; exact hnew m hm⟩, fun m hm => ?_, fun i t m hi hm => ?_⟩
    · rw [upd_same, putK_new _ (by rw [netD_keys h2]; exact fun z => hx (keyT_mem.mp z))]
      simp only [netD]
      rw [List.zipWith_append h2.symm]
      rfl
    · rcases List.mem_append.mp hm with q | q
      · exact h4 m q
      · simp at q; subst q; exact e3.free hl0
    · by_cases hip : i < pre.length
      · rw [List.getElem?_append_left hip] at hi
        rw [List.getElem?_append_left (by omega)] at hm
        exact ((h5 i t m hi hm).ex e6).chg cg (by simpa using (hls i t m hi hm).2)
      · have hie : i = pre.length := by
          have := (List.getElem?_eq_some_iff.mp hi).1
          simp at this; omega
        subst hie
        rw [List.getElem?_append_right (Nat.le_refl _)] at hi
        rw [List.getElem?_append_right (by omega)] at hm
        simp at hi
        simp [h2] at hm
        subst hi
        subst hm
        have : Ls (F0 x) (.ref l) H4 := ⟨l, us, rfl, hl1, hu⟩
        exact this.chg cg (by simpa using hld)
  rintro v2 H2 σ' H' e2 p2 ⟨n3, ls, rfl, e3, hdd, hll, hln, hlf, hli⟩
  have L0 : LatN things ls F0 H H' d := ⟨hdd, hli, hd0, hlf⟩
  have G0 : LGood things links F0 := by
    have hm : ∀ t y, y ∈ F0 t ↔ Step links t y := fun t y => by
      simp only [F0, List.mem_map, List.mem_filter, decide_eq_true_eq]
      constructor
      · rintro ⟨kk, ⟨h1, h2⟩, h3⟩
        cases kk
        cases h2
        cases h3
        exact ⟨_, h1⟩
      · rintro ⟨n, hn⟩
        exact ⟨_, ⟨hn, rfl⟩, rfl⟩
    refine ⟨fun kk hk => (hm _ _).mpr ⟨kk.c, by cases kk; exact hk⟩, fun t ht y hy => ?_, fun t ht => ?_⟩
    · obtain ⟨n, hn⟩ := (hm t y).mp hy
      exact ⟨.single ⟨n, hn⟩, (hends _ hn).2⟩
    · have h1 : (F0 t).length ≤ links.length := by
        simp only [F0, List.length_map]
        exact List.length_filter_le _ _
      have h2 : miss things F0 t ≤ things.length := List.length_filter_le _ _
      omega
  clear hli hdd
  generalize F0 = F0 at L0 G0
  refine q_set (P := Is (.bl true)) e_c fun vt H3 e4 pt => ?_
  cases pt
  have hvH : ∀ {H4 : Hp}, Ex H H4 → Ls things v H4 := fun e => hv.ex e
  refine q_while (fun m σ' H4 => ∃ (n3 n5 n6 : Option V) (c : Bool) (F : Thing → List Thing), σ' = [some v, some w, some (.ref d), n3, some (.bl c), n5, n6, none, none] ∧ m = missAll things F + (if c = true then 1 else 0) ∧ Ex H H4 ∧ LatN things ls F H H4 d ∧ LGood things links F ∧ (c = false → ∀ t ∈ things, ∀ o ∈ F t, ∀ l ∈ F o, l ∈ F t)) _
    ⟨n3, none, none, true, F0, rfl, rfl, e3.trans e4, L0.mono e4, G0, fun z => by cases z⟩ ?_
  clear L0 G0 e4 H3 e3
  rintro m σ' H4 ⟨n3, n5, n6, c, F1, rfl, rfl, e5, L1, G1, hcl⟩
  refine ⟨c, b_tv, fun hc H5 e6 => ?_, fun hc H5 e6 => ?_⟩
  · subst hc
    refine q_set (P := Is (.bl false)) e_c fun vt H6 e7 pt => ?_
    cases pt
    have L6 := L1.mono (e6.trans e7)
    have e56 := e5.trans (e6.trans e7)
    -- one round
    refine s_for (α := Thing) (P := fun x H7 => x = v ∧ Ex H6 H7) (xs := things) (e_v rfl fun H2 e => ⟨rfl, e⟩) (fun x H7 q => by rw [q.1]; exact hvH (e56.trans q.2))
      (fun H7 v2 pre σ' H8 => ∃ (n3 n5 n6 : Option V) (c : Bool) (F : Thing → List Thing), σ' = [some v, some w, some (.ref d), n3, some (.bl c), n5, n6, none, none] ∧ Ex H H8 ∧ LatN things ls F H H8 d ∧ LGood things links F ∧ Rnd things F1 F c (∀ t ∈ pre, ∀ o ∈ F t, ∀ l ∈ F o, l ∈ F t)) ?_ ?_ ?_ ?_
    · rintro v2 H7 e8 ⟨rfl, _⟩
      exact ⟨n3, n5, n6, false, F1, rfl, e56.trans e8, L6.mono e8, G1, Or.inr ⟨rfl, rfl, by simp⟩⟩
    · rintro v2 H7 pre σ' H8 e8 ⟨rfl, _⟩ ⟨m3, m5, m6, c, F, rfl, e9, L, G, R⟩
      exact hvH e9
    · rintro v2 H7 pre t post y σ' H8 e8 ⟨rfl, _⟩ hsp ⟨m3, m5, m6, c, F, rfl, e9, L, G, R⟩ dy
      have ht : t ∈ things := by rw [hsp]; simp
      obtain ⟨it, lt, hit, hlt, hLt⟩ := L.get hll ht
      refine run_gN ?_
      have hFt := G.siz t ht
      have hmle : ∀ {F : Thing → List Thing} {c : Bool} {P : Prop}, Rnd things F1 F c P → missAll things F ≤ missAll things F1 := fun r => by
        rcases r with ⟨_, r⟩ | ⟨_, r, _⟩
        · omega
        · rw [r]; exact Nat.le_refl _
      -- for other in list(later[thing])
      refine s_for (α := Thing) (xs := F t) (P := NL H8 (F t)) (e_list ((L.ev nd hit hlt e_is (e_var dy)).imp fun x H9 e p => by cases p; exact hLt.ex e)) (fun _ _ p => p.ls)
        (fun H9 v3 pre2 σ' HA => ∃ (Hb2 : Hp) (n5 n6 : Option V) (y : V) (c : Bool) (F' : Thing → List Thing), σ' = [some v2, some w, some (.ref d), some y, some (.bl c), n5, n6, none, none] ∧ D t y HA ∧ Ex H Hb2 ∧ Ex Hb2 HA ∧ Ls (F t) v3 Hb2 ∧ LatN things ls F' Hb2 HA d ∧ LGood things links F' ∧ (c = false → F' = F) ∧
          Rnd things F1 F' c ((∀ t ∈ pre, ∀ o ∈ F' t, ∀ l ∈ F' o, l ∈ F' t) ∧ ∀ o ∈ pre2, ∀ l ∈ F' o, l ∈ F' t)) ?_ ?_ ?_ ?_
      · intro v3 H9 eA p3
        obtain ⟨Hb2, b1, b2, b3, b4, b5⟩ := L.rebase hll e9 eA
        refine ⟨Hb2, m5, m6, y, c, F, rfl, dy.ex eA, b1, b2, p3.base b4 b5, b3, G, fun _ => rfl, ?_⟩
        exact R.imp id fun ⟨r1, r2, r3⟩ => ⟨r1, r2, r3, by simp⟩
      · rintro v3 H9 pre2 σ' HA eA p3 ⟨Hb2, k5, k6, y', c', F', rfl, dy', b1, b2, b3, L', G', hsub, R'⟩
        exact b3.ex b2
      · rintro v3 H9 pre2 o post2 yo σ' HA eA p3 hsp2 ⟨Hb2, k5, k6, y', c', F', rfl, dy', b1, b2, b3, L', G', hsub, R'⟩ dyo
        have hoF : o ∈ F t := by rw [hsp2]; simp
        obtain ⟨hro, ho⟩ := G.snd t ht o hoF
        have hot : o ≠ t := fun z => hac t (by rw [z] at hro; exact hro)
        obtain ⟨io, lo, hio, hlo, hLo⟩ := L'.get hll ho
        refine run_gN ?_
        -- for last in later[other]
        refine s_for (α := Thing) (xs := F' o) (P := fun x HB => x = .ref lo ∧ Ls (F' o) (.ref lo) HB) (K := K) ((L'.ev nd hio hlo e_is (e_var dyo)).imp fun x HB e p => ⟨p, hLo.ex e⟩) (fun x HB p => by rw [p.1]; exact p.2)
          (fun HB v4 pre3 σ' HC => ∃ (n6 : Option V) (y : V) (c : Bool) (F2 : Thing → List Thing), σ' = [some v2, some w, some (.ref d), some y, some (.bl c), some yo, n6, none, none] ∧ D t y HC ∧ Ex Hb2 HC ∧ LatN things ls F2 Hb2 HC d ∧ LGood things links F2 ∧ (c = false → F2 = F) ∧ F2 o = F' o ∧ v4 = .ref lo ∧
            Rnd things F1 F2 c (((∀ t ∈ pre, ∀ o ∈ F2 t, ∀ l ∈ F2 o, l ∈ F2 t) ∧ ∀ o ∈ pre2, ∀ l ∈ F2 o, l ∈ F2 t) ∧ ∀ l ∈ pre3, l ∈ F2 t)) ?_ ?_ ?_ ?_
        · rintro v4 HB eB ⟨rfl, _⟩
          exact ⟨k6, y', c', F', rfl, dy'.ex eB, b2.trans eB, L'.mono eB, G', hsub, rfl, rfl, R'.imp id fun ⟨r1, r2, r3⟩ => ⟨r1, r2, r3, by simp⟩⟩
        · rintro v4 HB pre3 σ' HC eB _ ⟨j6, y2, c2, F2, rfl, dy2, b6, L2, G2, hs2, hFo, rfl, R2⟩
          rw [← hFo]
          exact L2.li io o lo hio hlo
        · rintro v4 HB pre3 l post3 yl σ' HC eB _ hsp3 ⟨j6, y2, c2, F2, rfl, dy2, b6, L2, G2, hs2, hFo, rfl, R2⟩ dyl
          have hlo2 : l ∈ F2 o := by rw [hFo, hsp3]; simp
          obtain ⟨hrl, hl⟩ := G2.snd o ho l hlo2
          refine run_gN ?_
          have hLt2 := L2.li it t lt hit hlt
          have hsz := G2.siz t ht
          refine s_if (b_notin (α := Thing) (e_var dyl) ((L2.ev nd hit hlt e_is (e_var dy2)).imp fun x HD e p => by cases p; exact hLt2.ex e)) (fun c3 HD eD => ?_) fun c3 HD eD => ?_
          · have hnl : l ∉ F2 t := memB_no.mp (by simpa using c3)
            refine q_App (α := Thing) (x := l) ((L2.mono eD).ev nd hit hlt e_is (e_var (dy2.ex eD))) (e_var (dyl.ex eD)) (hLt2.ex eD) (by omega) fun HE HF eE cF sF hF => ?_
            refine s_set (P := Is (.bl true)) e_c fun vt HG eG pt => ?_
            cases pt
            have L3 := ((L2.mono (eD.trans eE)).app nd hln hit hlt cF sF hF).mono eG
            have hlb : Hb2 lt = none := L2.fl lt (List.mem_of_getElem? hlt)
            refine ⟨_, y2, true, upF F2 t (F2 t ++ [l]), rfl, ((dy2.ex (eD.trans eE)).t cF.tup).ex eG, (cF.exB (b6.trans (eD.trans eE)) (by simp [hlb])).trans eG, L3, G2.app (.trans hro hrl) hl hnl, (fun z => by cases z), ?_, rfl, Or.inl ⟨rfl, ?_⟩⟩
            · rw [upF_ne hot]; exact hFo
            · exact Nat.lt_of_lt_of_le (missAll_app ht hl hnl) (hmle R2)
          · have hin : l ∈ F2 t := memB_iff.mp (by simpa using c3)
            refine ⟨_, y2, c2, F2, rfl, dy2.ex eD, b6.trans eD, L2.mono eD, G2, hs2, hFo, rfl, R2.imp id fun ⟨r1, r2, r3, r4⟩ => ⟨r1, r2, r3, fun z hz => ?_⟩⟩
            rcases List.mem_append.mp hz with q | q
            · exact r4 z q
            · simp at q; subst q; exact hin
        · rintro v4 HB σ' HC eB _ ⟨j6, y2, c2, F2, rfl, dy2, b6, L2, G2, hs2, hFo, rfl, R2⟩
          refine ⟨Hb2, _, j6, y2, c2, F2, rfl, dy2, b1, b6, b3, L2, G2, hs2, R2.imp id fun ⟨r1, r2, ⟨r3, r4⟩, r5⟩ => ⟨r1, r2, r3, fun z hz => ?_⟩⟩
          rcases List.mem_append.mp hz with q | q
          · exact r4 z q
          · simp at q; subst q
            intro l hl
            exact r5 l (by rw [← hFo]; exact hl)
      · rintro v3 H9 σ' HA eA p3 ⟨Hb2, k5, k6, y', c', F', rfl, dy', b1, b2, b3, L', G', hsub, R'⟩
        refine ⟨some y', k5, k6, c', F', rfl, b1.trans b2, L'.back b1, G', ?_⟩
        rcases R' with r | ⟨r1, r2, r3, r4⟩
        · exact Or.inl r
        · refine Or.inr ⟨r1, r2, fun t' ht' => ?_⟩
          rcases List.mem_append.mp ht' with q | q
          · exact r3 t' q
          · simp at q; subst q
            intro o ho
            rw [hsub r1] at ho
            exact r4 o ho
    · rintro v2 H7 σ' H8 e8 ⟨rfl, _⟩ ⟨m3, m5, m6, c, F, rfl, e9, L, G, R⟩
      rcases R with ⟨rfl, r⟩ | ⟨rfl, rfl, r⟩
      · exact ⟨_, by simp; omega, m3, m5, m6, true, F, rfl, rfl, e9, L, G, fun z => by cases z⟩
      · exact ⟨_, by simp, m3, m5, m6, false, F, rfl, rfl, e9, L, G, fun _ => r⟩
  · subst hc
    have hcl := hcl rfl
    have e56 := e5.trans e6
    have L5 := L1.mono e6
    have hmem : ∀ {t : Thing}, t ∈ things → ∀ y, memB y (F1 t) = reachB links t y := fun ht y => G1.full hends hcl ht
    refine q_set (e_nil (α := PairT)) fun v7 H6 e7 p7 => ?_
    have e57 := e56.trans e7
    have L6 := L5.mono e7
    refine q_for (α := Thing) (P := fun x H7 => x = v ∧ Ex H6 H7) (xs := things) (e_v rfl fun H2 e => ⟨rfl, e⟩) (fun x H7 q => by rw [q.1]; exact hvH (e57.trans q.2))
      (fun H7 v3 pre σ' H8 => ∃ (x : V) (n3 n5 n6 : Option V), σ' = [some v, some w, some (.ref d), n3, some (.bl false), n5, n6, some x, none] ∧ Ex H6 H8 ∧ NL H (pre.flatMap fun x => (things.filter fun y => reachB links x y).map fun y => (x, y)) x H8) ?_ ?_ ?_ ?_
    · rintro v3 H7 e8 ⟨rfl, _⟩
      exact ⟨v7, n3, n5, n6, rfl, e8, (p7.ex e8).back e56⟩
    · rintro v3 H7 pre σ' H8 e8 ⟨rfl, _⟩ ⟨x, m3, m5, m6, rfl, e9, q⟩
      exact hvH (e57.trans e9)
    · rintro v3 H7 pre t post y σ' H8 e8 ⟨rfl, _⟩ hsp ⟨x, m3, m5, m6, rfl, e9, q⟩ dy
      have ht : t ∈ things := by rw [hsp]; simp
      obtain ⟨it, lt, hit, hlt, hLt⟩ := (L6.mono e9).get hll ht
      have hpl : pre.length + 1 ≤ things.length := by rw [hsp]; simp
      have hlen := pairsOf_len things pre links
      have hm : pre.length * things.length ≤ 100 * 100 := Nat.mul_le_mul (by omega) hz
      have hf := List.length_filter_le (fun y => reachB links t y) things
      refine run_gN ?_
      have hlc : EV (tLc (iList K (tVar 0)) (gName 5) (tTest (tOp (rInD K) (tVar 5) (tDGet (tVar 2) (tVar 3)))) (tTup (tCons (tVar 3) (tCons (tVar 5) tNil))) [5]) [some v3, some w, some (.ref d), some y, some (.bl false), m5, m6, some x, none] H8 (NL H8 ((things.filter fun y => reachB links t y).map fun y => (t, y))) :=
        e_lc (K := K) (α := Thing) (β := PairT) (j := 5) (fun y => (t, y)) (fun y => reachB links t y) (e_var (P := Ls things) (hvH (e57.trans e9))) (by omega) (fun _ => rfl) (fun z u H9 _ e d' => b_to (b_in (α := Thing) (e_var d') (((L6.mono (e9.trans e)).ev nd hit hlt e_is (e_var (dy.ex e))).imp fun x HA e2 p => by cases p; exact hLt.ex (e.trans e2))) (hmem ht z)) (fun z u H9 _ _ e d' => e_pair (e_var (dy.ex e)) (e_var d'))
      refine s_set (e_cat (α := PairT) (e_var q.ls) hlc.ls (by rw [List.length_map]; omega)) fun x5 H9 eA q5 => ?_
      refine ⟨x5, _, _, _, rfl, e9.trans eA, ?_⟩
      rw [List.flatMap_append, List.flatMap_singleton]
      exact q5.back (e57.trans e9)
    · rintro v3 H7 σ' H8 e8 ⟨rfl, _⟩ ⟨x, m3, m5, m6, rfl, e9, q⟩
      exact s_ret (e_var (P := NL H (pairsOf things links)) q) fun x2 H9 eA d4 => k _ _ (e57.trans (e9.trans eA)) d4
end
end TK

namespace TK
open PySem L2 PySem.Spec PyProof.Rows
open Enc (enc)
/-! ### the names: the plain law -/
def cs (t k : Nat) : Nat := 97 + (t + 5 * k) % 26
def baseL (t : Nat) : List Nat := (List.range 7).map fun j => cs t (j + 4)
def nameL (t s k : Nat) : List Nat := (baseL t).take ((s + 3 * k) % 8) ++ [cs t k]
def nmL (l : List Nat) : Nm := if h : PyData.strOk ⟨l.toArray⟩ = true then ⟨⟨l.toArray⟩, h⟩ else nWalker
def namesOf (t s : Nat) : List Nm := (List.range 11).map fun k => nmL (nameL t s k)
def low (l : List Nat) : Bool := l.all fun c => decide (97 ≤ c) && decide (c < 123)
def nmChk (t s : Nat) : Bool := decide (((List.range 11).map (nameL t s)).Nodup) && ((List.range 11).map (nameL t s)).all fun l => decide (1 ≤ l.length) && decide (l.length ≤ 8) && low l
theorem nm_all : ((List.range 26).all fun t => (List.range 8).all fun s => nmChk t s) = true := by decide +kernel
theorem nmL_s {l : List Nat} (h : low l = true) : (nmL l).s = ⟨l.toArray⟩ := by
  have : PyData.strOk ⟨l.toArray⟩ = true := by
    unfold PyData.strOk
    simp only [List.all_toArray, List.all_eq_true]
    intro c hc
    have := List.all_eq_true.mp h c hc
    simp only [Bool.and_eq_true, decide_eq_true_eq] at this ⊢
    omega
  unfold nmL
  rw [dif_pos this]
theorem letters_at : ∀ j < 26, letters.cps.toList[j]? = some (97 + j) := by decide +kernel
theorem letters_mem {c : Nat} (h1 : 97 ≤ c) (h2 : c < 123) : c ∈ letters.cps.toList := by
  have := letters_at (c - 97) (by omega)
  have h3 := List.mem_of_getElem? this
  rwa [show 97 + (c - 97) = c by omega] at h3
theorem chk_of {t s : Nat} (ht : t < 26) (hs : s < 8) : nmChk t s = true := by
  have h1 := List.all_eq_true.mp nm_all t (List.mem_range.mpr ht)
  exact List.all_eq_true.mp h1 s (List.mem_range.mpr hs)
theorem nameL_low (t s k : Nat) : low (nameL t s k) = true := by
  unfold low nameL
  rw [List.all_eq_true]
  have hc : ∀ j, 97 ≤ cs t j ∧ cs t j < 123 := fun j => by unfold cs; omega
  intro c h
  simp only [Bool.and_eq_true, decide_eq_true_eq]
  rcases List.mem_append.mp h with q | q
  · have := List.mem_of_mem_take q
    unfold baseL at this
    obtain ⟨j, _, rfl⟩ := List.mem_map.mp this
    exact hc _
  · simp at q; subst q; exact hc _
theorem names_nd {t s : Nat} (ht : t < 26) (hs : s < 8) : (namesOf t s).Nodup := by
  have h := chk_of ht hs
  unfold nmChk at h
  rw [Bool.and_eq_true] at h
  have h1 := of_decide_eq_true h.1
  unfold namesOf
  have h2 : ((List.range 11).map (nameL t s)).map nmL = (List.range 11).map fun k => nmL (nameL t s k) := by rw [List.map_map]; rfl
  rw [← h2]
  unfold List.Nodup at h1 ⊢
  rw [List.pairwise_map]
  refine h1.imp_of_mem fun {x y} hx hy hne e => hne ?_
  obtain ⟨k, _, rfl⟩ := List.mem_map.mp hx
  obtain ⟨k', _, rfl⟩ := List.mem_map.mp hy
  have e2 := congrArg Nm.s e
  rw [nmL_s (nameL_low _ _ _), nmL_s (nameL_low _ _ _)] at e2
  injection e2 with e2
  simpa using e2
theorem names_nm {t s : Nat} (ht : t < 26) (hs : s < 8) : ∀ n ∈ namesOf t s, isNameS n.s = true := by
  have h := chk_of ht hs
  unfold nmChk at h
  rw [Bool.and_eq_true] at h
  intro n hn
  unfold namesOf at hn
  obtain ⟨k, hk, rfl⟩ := List.mem_map.mp hn
  have hl := nameL_low t s k
  have h2 := List.all_eq_true.mp h.2 (nameL t s k) (List.mem_map.mpr ⟨k, hk, rfl⟩)
  rw [nmL_s hl]
  simp only [Bool.and_eq_true, decide_eq_true_eq] at h2
  unfold isNameS
  have e1 : Str.length ⟨(nameL t s k).toArray⟩ = (nameL t s k).length := List.size_toArray
  rw [e1]
  simp only [Bool.and_eq_true, decide_eq_true_eq, List.filter_eq_nil_iff]
  refine ⟨⟨by omega, by omega⟩, fun c hc => ?_⟩
  have := List.all_eq_true.mp hl c hc
  simp only [Bool.and_eq_true, decide_eq_true_eq] at this
  rw [decide_eq_true (letters_mem this.1 this.2)]
  decide
theorem names_ok {t s i j : Nat} (ht : t < 26) (hs : s < 8) (hi : i ≤ 8) (hj : j ≤ 3) : NamesOk ((namesOf t s).take i) (((namesOf t s).drop 8).take j) where
  lw := by rw [List.length_take]; omega
  lt := by rw [List.length_take]; omega
  nd := by
    have h := names_nd ht hs
    rw [← List.take_append_drop 8 (namesOf t s)] at h
    refine h.sublist (List.Sublist.append ?_ (List.take_sublist _ _))
    have : (namesOf t s).take i = ((namesOf t s).take 8).take i := by rw [List.take_take, Nat.min_eq_left hi]
    rw [this]
    exact List.take_sublist _ _
  nm := fun n hn => names_nm ht hs n (by
    rcases List.mem_append.mp hn with q | q
    · exact List.mem_of_mem_take q
    · exact List.mem_of_mem_drop (List.mem_of_mem_take q))
theorem join_codes : ∀ l : List Nat, Txt.join (Str.ofString "") (l.map fun c => (⟨#[c]⟩ : Str)) = ⟨l.toArray⟩
  | [] => by rw [TL.join_eq]; rfl
  | [c] => by rw [TL.join_eq]; rfl
  | c :: d :: r => by
    have ih := join_codes (d :: r)
    rw [TL.join_eq] at ih ⊢
    show (⟨#[c]⟩ : Str) ++ Str.ofString "" ++ Str.join (Str.ofString "") (((d :: r).map fun c => (⟨#[c]⟩ : Str))) = _
    rw [ih]
    refine str_ext ?_
    show ((#[c] ++ #[]) ++ (d :: r).toArray).toList = _
    simp
section
variable {K : PySem.W.Frag} {a : Ad} {vs : List V} {H H' : Hp} {Q : VK} {E : XK}
theorem run_cons {te : TE} {ta : TA} {σ : L2.St} {R : List V → Hp → Prop} (h : te σ H fun v H1 => ta σ H1 fun r H2 => R (v :: r) H2) : tCons te ta σ H R := h
theorem run_op {r : R2} {ta tb : TE} {σ : L2.St} (h : ta σ H fun x H1 => tb σ H1 fun y H2 => r x y H2 Q) : tOp r ta tb σ H Q := h
theorem run_some {t : TE} {σ : L2.St} {R : Option Int → Hp → Prop} (h : t σ H fun x H1 => ∃ i, x = .int i ∧ R (some i) H1) : tSome t σ H R := h
theorem e_ixS {σ : L2.St} {ta tb : TE} {z : Str} {j c : Nat} (h1 : EV ta σ H (Is (.str z))) (h2 : EV tb σ H (D (j : Int))) (hz : z.length ≤ 10000) (hc : z.cps.toList[j]? = some c) : EV (tOp rIxS ta tb) σ H (Is (.str ⟨#[c]⟩)) := fun H1 e Q q =>
  h1 H1 e _ fun x H2 e2 p1 => h2 H2 (e.trans e2) _ fun y H3 e3 p2 => by
    cases p1
    cases p2.is_int
    exact ⟨z, (j : Int), c, rfl, rfl, sz_of (by omega), atI_nat hc, q _ H3 (e2.trans e3) rfl⟩
theorem cs_i (t k : Nat) : (((t : Int) + 5 * (k : Int)) % 26) = (((t + 5 * k) % 26 : Nat) : Int) := by omega
theorem sh_i (s k : Nat) : (((s : Int) + 3 * (k : Int)) % 8) = (((s + 3 * k) % 8 : Nat) : Int) := by omega
def signsOf (t : Nat) : List Nm := (List.range 11).map fun k => sign (cs t k)
theorem cs_lt (t k : Nat) : cs t k < 0x110000 := by unfold cs; omega
theorem signs_v (t : Nat) : (signsOf t).map (fun n => V.str n.s) = (List.range 11).map fun k => V.str ⟨#[cs t k]⟩ := by
  unfold signsOf
  rw [List.map_map]
  refine List.map_congr_left fun k _ => ?_
  show V.str (sign (cs t k)).s = _
  rw [sign_s (cs_lt t k)]
theorem cut4 {α : Type} (f : Nat → V) : cutV ((List.range 11).map f) (some 4) none = (List.range 7).map fun j => f (j + 4) := rfl
/-- ''.join(signs[4:]) -/
theorem e_base {σ : L2.St} {te : TE} {t : Nat} (h : EV te σ H (Ls (signsOf t))) : EV (tJoin K (tC (.str ("" : Str))) (tSl (rSlL K) te (tSome (tC (.int 4))) tNo)) σ H (Is (.str ⟨(baseL t).toArray⟩)) := fun H1 e Q q => by
  refine ⟨⟨_, rfl⟩, ?_⟩
  refine h H1 e _ fun v H2 e2 p => ?_
  obtain ⟨l, rfl, hl⟩ := ls_strs p
  rw [signs_v] at hl
  refine ⟨4, rfl, l, _, rfl, sq_of hl, fun p hp => ?_⟩
  rw [cut4 (α := Nat)]
  refine ⟨("" : Str), p, (baseL t).map fun c => (⟨#[c]⟩ : Str), rfl, rfl, Or.inl (sq_of ?_), ?_, ?_⟩
  · rw [upd_same, baseL, List.map_map, List.map_map]
    rfl
  · have h1 : ((baseL t).map fun c => (⟨#[c]⟩ : Str)).map (·.length) = (baseL t).map fun _ => 1 := by rw [List.map_map]; rfl
    rw [h1, show ((baseL t).map fun _ => 1) = [1, 1, 1, 1, 1, 1, 1] from rfl, List.length_map, show (baseL t).length = 7 from rfl]
    decide +kernel
  · rw [show ("" : Str) = Str.ofString "" from rfl, join_codes]
    exact q _ _ (e2.trans (Ex.new hp)) rfl
theorem cut_none {α : Type} (xs : List V) (j : Nat) : cutV xs none (some (j : Int)) = xs.take j := by
  unfold cutV
  rw [HT.sIx_none, HT.sIx_nat, List.drop_zero, Nat.sub_zero]
  by_cases h : j ≤ xs.length
  · rw [Nat.min_eq_left h]
  · rw [Nat.min_eq_right (by omega), List.take_of_length_le (Nat.le_refl _), List.take_of_length_le (by omega)]
/-- base[:..] + signs[k] -/
theorem e_name {σ : L2.St} {tb ti ts : TE} {t s k : Nat} (hb : EV tb σ H (Is (.str ⟨(baseL t).toArray⟩))) (hi : EV ti σ H (D ((((s + 3 * k) % 8 : Nat) : Nat) : Int))) (hs : EV ts σ H (D (sign (cs t k)))) :
    EV (tOp rAddS (tSl rSlS tb tNo (tSome ti)) ts) σ H (D (nmL (nameL t s k))) := fun H1 e Q q =>
  hb H1 e _ fun x H2 e2 p1 => hi H2 (e.trans e2) _ fun y H3 e3 p2 => by
    cases p1
    cases p2.is_int
    refine ⟨_, rfl, _, rfl, sz_of (by show (baseL t).toArray.size ≤ _; simp [baseL]), ?_⟩
    refine hs H3 ((e.trans e2).trans e3) _ fun z H4 e4 p3 => ?_
    cases p3.is_nm
    have hc : cutS ⟨(baseL t).toArray⟩ none (some ((((s + 3 * k) % 8 : Nat) : Nat) : Int)) = ⟨((baseL t).take ((s + 3 * k) % 8)).toArray⟩ := by
      unfold cutS
      rw [HT.sIx_none, HT.sIx_nat, List.drop_zero, Nat.sub_zero]
      have e1 : Str.length ⟨(baseL t).toArray⟩ = (baseL t).length := List.size_toArray
      rw [e1]
      by_cases h : (s + 3 * k) % 8 ≤ (baseL t).length
      · rw [Nat.min_eq_left h]
      · rw [Nat.min_eq_right (by omega), List.take_of_length_le (Nat.le_refl _), List.take_of_length_le (by omega)]
    have hn : cutS ⟨(baseL t).toArray⟩ none (some ((((s + 3 * k) % 8 : Nat) : Nat) : Int)) ++ (sign (cs t k)).s = (nmL (nameL t s k)).s := by
      rw [nmL_s (nameL_low t s k), hc, sign_s (cs_lt t k)]
      refine str_ext ?_
      show (((baseL t).take ((s + 3 * k) % 8)).toArray ++ #[cs t k]).toList = _
      simp [nameL]
    refine ⟨_, _, rfl, rfl, ?_, ?_⟩
    · rw [hc, sign_s (cs_lt t k)]
      have h1 : Str.length ⟨((baseL t).take ((s + 3 * k) % 8)).toArray⟩ ≤ 7 := by
        show Array.size _ ≤ 7
        rw [List.size_toArray, List.length_take]
        simp [baseL]
        omega
      have h2 : Str.length ⟨#[cs t k]⟩ = 1 := rfl
      exact sz_of (by omega)
    · rw [hn]
      exact q _ H4 ((e2.trans e3).trans e4) (D.of_nm _ _)
theorem len_w_names (K : PySem.W.Frag) (a : Ad) : ∀ vs H Q E, sp_w_names K a vs H Q E → vs.length = 1 := fun _ _ _ _ ⟨_, _, e, _⟩ => by rw [e]; rfl
theorem p_w_names (T : ClT K a) (h : sp_w_names K a vs H Q E) : t_w_names K a (FinQ Q) (start ["_law_row", "_law_turn", "_law_shift", "_law_signs", "_law_base", "_law_names_here", "_law_walkers", "_law_k"] vs) H := by
  obtain ⟨r, p0, rfl, R, k⟩ := h
  refine c_taken (many := 26) e_is e_int R (by decide) fun ti H1 t0 t1 c1 R1 => ?_
  obtain ⟨t, rfl⟩ := Int.eq_ofNat_of_zero_le t0
  show tSeq _ _ _ [some (.ref r), some (.int (t : Int)), none, none, none, none, none, none] H1
  refine c_taken (many := 8) e_is e_int R1 (by decide) fun si H2 s0 s1 c2 R2 => ?_
  obtain ⟨s, rfl⟩ := Int.eq_ofNat_of_zero_le s0
  have c12 := c1.trans c2
  show tSeq _ _ _ [some (.ref r), some (.int (t : Int)), some (.int (s : Int)), none, none, none, none, none] H2
  have ht : t < 26 := by omega
  have hs : s < 8 := by omega
  have hsg : EV (tLc (iRng1 (tCons (tC (.int 11)) tNil)) (gName 7) tYes (tOp rIxS (tC (.str ("abcdefghijklmnopqrstuvwxyz" : Str))) (tOp (rI (fun _ j => 0 < j) fun i j => .int (i % j)) (tOp (rI0 fun i j => .int (i + j)) (tVar 1) (tOp (rI CMul fun i j => .int (i * j)) (tC (.int 5)) (tVar 7))) (tC (.int 26)))) [7])
      [some (.ref r), some (.int (t : Int)), some (.int (s : Int)), none, none, none, none, none] H2 (NL H2 (signsOf t)) := by
    refine e_lcR (β := Nm) (n := 11) (fun k => sign (cs t k)) e_int (by decide) (by decide) (fun _ => rfl) fun i H3 hi e3 => ?_
    have hix : EV (tOp (rI (fun _ j => 0 < j) fun i j => .int (i % j)) (tOp (rI0 fun i j => .int (i + j)) (tVar 1) (tOp (rI CMul fun i j => .int (i * j)) (tC (.int 5)) (tVar 7))) (tC (.int 26))) [some (.ref r), some (.int (t : Int)), some (.int (s : Int)), none, none, none, none, some (.int (i : Int))] H3 (D (((t : Int) + 5 * (i : Int)) % 26)) :=
      e_I (C := fun _ j => 0 < j) (g := fun i j => i % j) (by decide) (e_I0 (g := fun i j => i + j) (e_intC _) (e_I (C := CMul) (g := fun i j => i * j) (Or.inl (by decide)) (e_int (i := 5)) (e_intC _))) (e_int (i := 26))
    rw [cs_i] at hix
    have hl := letters_at ((t + 5 * i) % 26) (Nat.mod_lt _ (by decide))
    refine (e_ixS (z := letters) e_c hix (by decide +kernel) hl).imp fun v H4 _ p => ?_
    cases p
    have := D.of_nm (sign (cs t i)) H4
    rw [sign_s (cs_lt t i)] at this
    exact this
  refine q_set hsg fun v3 H3 e3 p3 => ?_
  refine q_set (e_base (e_var p3.ls)) fun v4 H4 e4 p4 => ?_
  cases p4
  have p34 := p3.ls.ex e4
  have hnm : EV (tLc (iRng1 (tCons (tC (.int 11)) tNil)) (gName 7) tYes (tOp rAddS (tSl (rSlS) (tVar 4) tNo (tSome (tOp (rI (fun _ j => 0 < j) fun i j => .int (i % j)) (tOp (rI0 fun i j => .int (i + j)) (tVar 2) (tOp (rI CMul fun i j => .int (i * j)) (tC (.int 3)) (tVar 7))) (tC (.int 8))))) (tOp (rIxL K) (tVar 3) (tVar 7))) [7])
      [some (.ref r), some (.int (t : Int)), some (.int (s : Int)), some v3, some (.str ⟨(baseL t).toArray⟩), none, none, none] H4 (NL H4 (namesOf t s)) := by
    refine e_lcR (β := Nm) (n := 11) (fun k => nmL (nameL t s k)) e_int (by decide) (by decide) (fun _ => rfl) fun i H5 hi e5 => ?_
    have hix : EV (tOp (rI (fun _ j => 0 < j) fun i j => .int (i % j)) (tOp (rI0 fun i j => .int (i + j)) (tVar 2) (tOp (rI CMul fun i j => .int (i * j)) (tC (.int 3)) (tVar 7))) (tC (.int 8))) [some (.ref r), some (.int (t : Int)), some (.int (s : Int)), some v3, some (.str ⟨(baseL t).toArray⟩), none, none, some (.int (i : Int))] H5 (D (((s : Int) + 3 * (i : Int)) % 8)) :=
      e_I (C := fun _ j => 0 < j) (g := fun i j => i % j) (by decide) (e_I0 (g := fun i j => i + j) (e_intC _) (e_I (C := CMul) (g := fun i j => i * j) (Or.inl (by decide)) (e_int (i := 3)) (e_intC _))) (e_int (i := 8))
    rw [sh_i] at hix
    refine e_name (e_is (v := .str ⟨(baseL t).toArray⟩)) hix (e_ixL (α := Nm) (j := i) (e_var (p34.ex e5)) (e_intC _) (atI_nat ?_))
    unfold signsOf
    rw [List.getElem?_map, List.getElem?_range (by omega)]
    rfl
  refine q_set hnm fun v5 H5 e5 p5 => ?_
  have R5 := R2.ex (e3.trans (e4.trans e5))
  have c5 := c12.trans (Chg.of_ex (e3.trans (e4.trans e5)))
  have p5s := p5.ls
  clear hnm hsg p34 p3 R2 R1 R c12 c1 c2
  have hnl : (namesOf t s).length = 11 := by simp [namesOf]
  -- the walkers
  refine ⟨v5, rfl, V.ref r, rfl, ?_⟩
  refine run_cons (run_op ?_)
  refine (e_lst (α := Int) (xs := [9, 6]) (el_cons e_int (el_cons e_int el_nil)) (by decide)).run fun v96 H6 e6 p6 => ?_
  have R6 := R5.ex e6
  have c6 := c5.trans (Chg.of_ex e6)
  obtain ⟨q6, u6, rfl, q60, q61, q62⟩ := p6
  have hqr : q6 ≠ r := fun z => by
    obtain ⟨xs, hx⟩ := row_one R5
    rw [z, hx] at q60; cases q60
  refine c_taken (many := 2) e_is e_int R6 (by decide) fun b H7 b0 b1 c7 R7 => ?_
  have l7 : Ls ([9, 6] : List Int) (.ref q6) H7 := Ls.chg ⟨q6, u6, rfl, q61, q62⟩ c7 (by simpa using hqr)
  have p57 := (p5s.ex e6).row R6 c7
  have c67 := c6.trans c7
  obtain ⟨q7, e7, h7⟩ := ls_ints l7
  cases e7
  have hb : ∃ m : Int, atI [(9 : Int), 6] b = some m ∧ 0 < m ∧ m ≤ 9 := by
    have hb2 : b = 0 ∨ b = 1 := by omega
    rcases hb2 with rfl | rfl
    · exact ⟨9, rfl, by decide, by decide⟩
    · exact ⟨6, rfl, by decide, by decide⟩
  obtain ⟨m, hm, m0, m1⟩ := hb
  have hmv : atI ([(9 : Int), 6].map V.int) b = some (.int m) := by
    have hb2 : b = 0 ∨ b = 1 := by omega
    rcases hb2 with rfl | rfl
    · cases hm; rfl
    · cases hm; rfl
  refine ⟨q6, _, b, _, rfl, rfl, sq_of h7, hmv, ?_⟩
  refine ⟨r, _, m, rfl, R7, m0, fun i H8 i0 i1 c8 R8 => ⟨i, rfl, ?_⟩⟩
  have p58 := p57.row R7 c8
  have c68 := c67.trans c8
  obtain ⟨i, rfl⟩ := Int.eq_ofNat_of_zero_le i0
  obtain ⟨l5, rfl, h58⟩ := ls_strs p58
  refine ⟨l5, _, rfl, sq_of h58, fun lw hlw => ?_⟩
  rw [cut_none (α := Nat), ← List.map_take]
  have x9 : Ex H8 (upd H8 lw (.lst (((namesOf t s).take i).map fun n => V.str n.s))) := Ex.new hlw
  have w9 : Ls ((namesOf t s).take i) (.ref lw) (upd H8 lw (.lst (((namesOf t s).take i).map fun n => V.str n.s))) := ⟨lw, _, rfl, upd_same, tda_strs _ _⟩
  have p59 := p58.ex x9
  have R9 := R8.ex x9
  have c9 := c68.trans (Chg.of_ex x9)
  have hrr : ∃ o, H8 r = some o := let ⟨xs, q⟩ := row_one R8; ⟨_, q⟩
  have fw := c68.freeR hrr hlw
  generalize upd H8 lw (.lst (((namesOf t s).take i).map fun n => V.str n.s)) = H9 at w9 p59 R9 c9
  clear x9 hlw p58 p57 h58 c68 c67 c6 R8 R7 R6
  -- the weathers
  refine ⟨.ref lw, rfl, .ref l5, rfl, 8, rfl, ?_⟩
  refine run_some (run_op (run_tC ?_))
  refine c_taken (many := 4) e_is e_int R9 (by decide) fun j HA j0 j1 cA RA => ?_
  refine ⟨8, j, rfl, rfl, 8 + j, rfl, ?_⟩
  obtain ⟨j, rfl⟩ := Int.eq_ofNat_of_zero_le j0
  have p5A := p59.row R9 cA
  have wA := w9.row R9 cA
  obtain ⟨l5', e5', h5A⟩ := ls_strs p5A
  cases e5'
  refine ⟨l5, _, rfl, sq_of h5A, fun lt hlt => ?_⟩
  have hcut : cutV ((namesOf t s).map fun n => V.str n.s) (some 8) (some ((8 : Int) + (j : Int))) = (((namesOf t s).drop 8).take j).map fun n => V.str n.s := by
    unfold cutV
    have e1 : ((8 : Int) + (j : Int)) = ((8 + j : Nat) : Int) := by omega
    rw [e1, HT.sIx_nat, show (some (8 : Int)) = some ((8 : Nat) : Int) from rfl, HT.sIx_nat, List.length_map, hnl, List.map_take, List.map_drop]
    have e2 : min (8 + j) 11 - min 8 11 = j := by omega
    rw [e2]
    rfl
  rw [hcut]
  have xB : Ex HA (upd HA lt (.lst ((((namesOf t s).drop 8).take j).map fun n => V.str n.s))) := Ex.new hlt
  refine ⟨sz_of (by simp), fun tt htt => ?_⟩
  have xC := Ex.new (o := .tup [.ref lw, .ref lt]) htt
  have cB := c9.trans cA
  have hrA : ∃ o, HA r = some o := let ⟨xs, q⟩ := row_one RA; ⟨_, q⟩
  refine k tt lw lt ((namesOf t s).take i) (((namesOf t s).drop 8).take j) _ (names_ok ht hs (by omega) (by omega)) (cB.trans (Chg.of_ex (xB.trans xC))) (RA.ex (xB.trans xC)) upd_same fw (cB.freeR hrA hlt) (wA.ex (xB.trans xC)) ?_
  have : Ls (((namesOf t s).drop 8).take j) (.ref lt) (upd HA lt (.lst ((((namesOf t s).drop 8).take j).map fun n => V.str n.s))) := ⟨lt, _, rfl, upd_same, tda_strs _ _⟩
  exact this.ex xC
end
end TK

/-! TkS2: several grounds side by side. -/
namespace TK
open PySem L2 PySem.Spec PyProof.Rows
open Enc (enc)
section
variable {K : PySem.W.Frag} {a : Ad} {vs : List V} {H H' : Hp} {Q : VK} {E : XK}
structure Side where
  g : GS
  A : GA
  M : MA
abbrev Side.objs (s : Side) : List Addr := [s.A.p, s.A.df, s.A.dc, s.M.d, s.M.df, s.M.dc]
structure Sides (K : PySem.W.Frag) (p0 C r : Addr) (ss : List Side) (H : Hp) : Prop where
  row : RowAt K p0 r H
  w : ∀ s ∈ ss, LawW K p0 C r s.g s.g s.A s.M H ∧ GOk s.g
  dj : ss.Pairwise fun s u => ∀ x ∈ s.objs, x ∉ u.objs
section
variable {C r : Addr} {ss : List Side}
theorem Sides.ex (h : Sides K p0 C r ss H) (e : Ex H H') : Sides K p0 C r ss H' := ⟨h.row.ex e, fun s hs => ⟨(h.w s hs).1.ex e, (h.w s hs).2⟩, h.dj⟩
theorem Sides.byRow (h : Sides K p0 C r ss H) (c : Chg [r] H H') (R : RowAt K p0 r H') : Sides K p0 C r ss H' := ⟨R, fun s hs => ⟨(h.w s hs).1.byRow c R, (h.w s hs).2⟩, h.dj⟩
theorem LawW.objs {g gm : GS} {A : GA} {M : MA} (W : LawW K p0 C r g gm A M H) : ∀ x ∈ [A.p, A.df, A.dc, M.d, M.df, M.dc], ∃ o, H x = some o ∧ NoLst o := fun x hx => by
  have h1 := W.gr.objs
  have h2 := W.m.objs
  simp only [List.mem_cons, List.not_mem_nil, or_false] at hx h1 h2
  rcases hx with q | q | q | q | q | q
  · exact h1 x (Or.inl q)
  · exact h1 x (Or.inr (Or.inl q))
  · exact h1 x (Or.inr (Or.inr q))
  · exact h2 x (Or.inl q)
  · exact h2 x (Or.inr (Or.inl q))
  · exact h2 x (Or.inr (Or.inr q))
/-- others change, but for their names' lists -/
theorem LawW.far {g gm : GS} {A : GA} {M : MA} {S : List Addr} (W : LawW K p0 C r g gm A M H) (c : Chg S H H') (hS : ∀ s ∈ S, ∃ o, H s = some o ∧ NoLst o) (hd : ∀ x ∈ [A.p, A.df, A.dc, M.d, M.df, M.dc], x ∉ S) : LawW K p0 C r g gm A M H' := by
  refine ⟨W.row.chg c hS, W.gr.chg c fun s hs => ?_, W.m.chg c fun s hs => ?_, W.nd⟩
  · simp only [List.mem_cons, List.not_mem_nil, or_false] at hs
    rcases hs with rfl | rfl | rfl | rfl | rfl
    · exact hd _ (by simp)
    · exact hd _ (by simp)
    · exact hd _ (by simp)
    · exact W.gr.ws.nin hS
    · exact W.gr.ts.nin hS
  · simp only [List.mem_cons, List.not_mem_nil, or_false] at hs
    rcases hs with rfl | rfl | rfl | rfl | rfl
    · exact hd _ (by simp)
    · exact hd _ (by simp)
    · exact hd _ (by simp)
    · exact W.m.ws.nin hS
    · exact W.m.ts.nin hS
theorem Sides.act {l1 l2 : List Side} {s : Side} {g' : GS} (h : Sides K p0 C r (l1 ++ s :: l2) H) (c : Chg s.objs H H') (W : LawW K p0 C r g' g' s.A s.M H') (ok : GOk g') : Sides K p0 C r (l1 ++ ⟨g', s.A, s.M⟩ :: l2) H' := by
  have hs := (h.w s (by simp)).1
  have ho := hs.objs
  have dj := List.pairwise_append.mp h.dj
  have dj2 := List.pairwise_cons.mp dj.2.1
  refine ⟨W.row, fun u hu => ?_, ?_⟩
  · rcases List.mem_append.mp hu with q | q
    · exact ⟨(h.w u (by simp [q])).1.far c ho fun x hx => dj.2.2 u q s (by simp) x hx, (h.w u (by simp [q])).2⟩
    · rcases List.mem_cons.mp q with q | q
      · subst q; exact ⟨W, ok⟩
      · exact ⟨(h.w u (by simp [q])).1.far c ho fun x hx z => dj2.1 u q x z hx, (h.w u (by simp [q])).2⟩
  · refine List.pairwise_append.mpr ⟨dj.1, List.pairwise_cons.mpr ⟨dj2.1, dj2.2⟩, fun u hu v hv => ?_⟩
    rcases List.mem_cons.mp hv with q | q
    · subst q; exact dj.2.2 u hu s (by simp)
    · exact dj.2.2 u hu v (by simp [q])
theorem Sides.row0 (R : RowAt K p0 r H) : Sides K p0 C r [] H := ⟨R, by simp, by simp⟩
theorem Sides.snoc {s : Side} (h : Sides K p0 C r ss H) (W : LawW K p0 C r s.g s.g s.A s.M H) (ok : GOk s.g) (hd : ∀ u ∈ ss, ∀ x ∈ u.objs, x ∉ s.objs) : Sides K p0 C r (ss ++ [s]) H := by
  refine ⟨h.row, fun u hu => ?_, List.pairwise_append.mpr ⟨h.dj, by simp, fun u hu v hv => by simp at hv; subst hv; exact hd u hu⟩⟩
  rcases List.mem_append.mp hu with q | q
  · exact h.w u q
  · simp at q; subst q; exact ⟨W, ok⟩
end
/-- for x in a tuple of two dicts, emptied one by one: nothing that H knows is touched -/
theorem s_clear2 {σ : L2.St} {Z : Ends} {te : TE} {i : Nat} {n : Option V} (h : ∀ Q : VK, (∀ t df dc H1, Ex H H1 → H df = none → H dc = none → df ≠ dc → H1 t = some (.tup [.ref df, .ref dc]) → (∃ k, H1 df = some (.dK k)) → (∃ k, H1 dc = some (.dK k)) → Q (.ref t) H1) → te σ H Q) (hi : i < σ.length)
    (k : ∀ v H', Ex H H' → Z.nx (σ.set i v) H') (h0 : σ[i]? = some n) : tFor (iTup K te) (gName i) (tDrop (tBM0 K "dict" rDClear (tVar i))) Z σ H := by
  refine h _ fun t df dc H1 eb f0 c0 hne ht hf hc => ?_
  have ntf : t ≠ df := fun z => by obtain ⟨u, q⟩ := hf; rw [← z, ht] at q; cases q
  have ntc : t ≠ dc := fun z => by obtain ⟨u, q⟩ := hc; rw [← z, ht] at q; cases q
  refine ⟨t, rfl, ⟨_, st_of ht⟩, for_tup (K := K) (a := t) (xs := [.ref df, .ref dc]) (fun _ σ' H' => ∃ v, σ' = σ.set i v ∧ H' t = some (.tup [.ref df, .ref dc]) ∧ (∃ k, H' df = some (.dK k)) ∧ (∃ k, H' dc = some (.dK k)) ∧ Ex H H') ?_ ?_ ?_ ?_⟩
  · refine ⟨n, ?_, ht, hf, hc, eb⟩
    refine List.ext_getElem? fun j => ?_
    by_cases e : i = j
    · subst e; rw [List.getElem?_set_self hi]; exact h0
    · rw [List.getElem?_set_ne e]
  · rintro j σ' H' _ ⟨v, _, h1, _⟩
    exact st_of h1
  · rintro j x σ' H' hx ⟨v, rfl, h1, ⟨kf, h2⟩, ⟨kc, h3⟩, h4⟩
    have hxx : x = .ref df ∨ x = .ref dc := by
      match j, hx with
      | 0, hx => simp at hx; exact Or.inl hx.symm
      | 1, hx => simp at hx; exact Or.inr hx.symm
      | j + 2, hx => simp at hx
    refine run_gN ?_
    have hσ : ((σ.set i v).set i (some x))[i]? = some (some x) := by rw [List.getElem?_set_self (by simpa using hi)]
    have hss : (σ.set i v).set i (some x) = σ.set i (some x) := by rw [List.set_set]
    rcases hxx with rfl | rfl
    · refine ⟨.ref df, hσ, Or.inr (Or.inr (Or.inl ⟨rfl, Or.inl ⟨kf, h2⟩⟩)), df, kf, rfl, rfl, h2, ?_⟩
      exact ⟨_, hss, by rw [upd_ne ntf]; exact h1, ⟨_, upd_same⟩, ⟨kc, by rw [upd_ne (Ne.symm hne)]; exact h3⟩, h4.mut f0⟩
    · refine ⟨.ref dc, hσ, Or.inr (Or.inr (Or.inl ⟨rfl, Or.inl ⟨kc, h3⟩⟩)), dc, kc, rfl, rfl, h3, ?_⟩
      exact ⟨_, hss, by rw [upd_ne ntc]; exact h1, ⟨kf, by rw [upd_ne hne]; exact h2⟩, ⟨_, upd_same⟩, h4.mut c0⟩
  · rintro σ' H' ⟨v, rfl, _, _, _, h4⟩
    exact k v H' h4
/-- a new list grows by a number: nothing that H knows is touched -/
theorem q_appNew {α : Type} [DecidableEq α] [Enc α] {σ : L2.St} {Z : Ends} {tr : TS} {te : TE} {n : Int} {xs : List α} (h : EV te σ H (NL H xs)) (hz : xs.length < 100000) (k : ∀ H', Ex H H' → tr Z σ H') : tSeq (tDrop (tBM K "list" rAppend te (tCons (tC (.int n)) tNil))) tr Z σ H :=
  h.run fun v H1 e p => by
    obtain ⟨l, us, rfl, h0, h1, h2⟩ := p
    have hl := tda_len h2
    rw [List.length_map] at hl
    exact ⟨Or.inl ⟨rfl, us, sq_of h1⟩, l, us, .int n, rfl, rfl, h1, sz_lt (by omega), k _ (e.mut h0)⟩
theorem s_appNew {α : Type} [DecidableEq α] [Enc α] {σ : L2.St} {Z : Ends} {te : TE} {n : Int} {xs : List α} (h : EV te σ H (NL H xs)) (hz : xs.length < 100000) (k : ∀ H', Ex H H' → Z.nx σ H') : tDrop (tBM K "list" rAppend te (tCons (tC (.int n)) tNil)) Z σ H := q_appNew (tr := tNext) h hz k
/-! ### a law's own lists change -/
abbrev Side.addrs (s : Side) : List Addr := [s.A.p, s.A.df, s.A.dc, s.A.lw, s.A.lt, s.M.d, s.M.df, s.M.dc, s.M.lw, s.M.lt]
def Stat (K : PySem.W.Frag) (p : Addr) : Prop := ∃ ns : List Int, ∀ H : Hp, SqL K H p (ns.map V.int)
theorem RowAt.keep {p0 r : Addr} {S : List Addr} (R : RowAt K p0 r H) (c : Chg S H H') (hr : r ∉ S) (hp : p0 ∈ S → Stat K p0) : RowAt K p0 r H' := by
  obtain ⟨ns, i, x, h1, h2, h3⟩ := R
  by_cases q : p0 ∈ S
  · obtain ⟨ms, hm⟩ := hp q
    exact ⟨ms, i, x, c.keep _ _ hr h1, hm H', h3⟩
  · refine ⟨ns, i, x, c.keep _ _ hr h1, ?_, h3⟩
    rcases h2 with (h | ⟨o, h⟩) | h
    · exact Or.inl (Or.inl (c.keep _ _ q h))
    · exact Or.inl (Or.inr ⟨o, c.keep _ _ q h⟩)
    · exact Or.inr h
theorem Sides.keep {p0 C r : Addr} {ss : List Side} {S : List Addr} (h : Sides K p0 C r ss H) (c : Chg S H H') (hr : r ∉ S) (hp : p0 ∈ S → Stat K p0) (hd : ∀ s ∈ ss, ∀ x ∈ s.addrs, x ∉ S) : Sides K p0 C r ss H' := by
  refine ⟨h.row.keep c hr hp, fun s hs => ⟨?_, (h.w s hs).2⟩, h.dj⟩
  have W := (h.w s hs).1
  have q := hd s hs
  refine ⟨h.row.keep c hr hp, W.gr.chg c fun x hx => ?_, W.m.chg c fun x hx => ?_, W.nd⟩
  · refine q x ?_
    simp only [List.mem_cons, List.not_mem_nil, or_false] at hx ⊢
    rcases hx with e | e | e | e | e <;> simp [e]
  · refine q x ?_
    simp only [List.mem_cons, List.not_mem_nil, or_false] at hx ⊢
    rcases hx with e | e | e | e | e <;> simp [e]
theorem ls_known {α : Type} [DecidableEq α] [Enc α] {xs : List α} {l : Addr} (h : Ls xs (.ref l) H) : ∃ o, H l = some o := by
  obtain ⟨q, us, e, h1, _⟩ := h
  cases e
  exact ⟨_, h1⟩
theorem Sides.known {p0 C r : Addr} {ss : List Side} (h : Sides K p0 C r ss H) {s : Side} (hs : s ∈ ss) : ∀ x ∈ s.addrs, ∃ o, H x = some o := fun x hx => by
  have W := (h.w s hs).1
  simp only [List.mem_cons, List.not_mem_nil, or_false] at hx
  rcases hx with rfl | rfl | rfl | rfl | rfl | rfl | rfl | rfl | rfl | rfl
  · exact ⟨_, W.gr.ins⟩
  · obtain ⟨_, q, _⟩ := W.gr.fa; exact ⟨_, q⟩
  · obtain ⟨_, q, _⟩ := W.gr.cr; exact ⟨_, q⟩
  · exact ls_known W.gr.ws
  · exact ls_known W.gr.ts
  · exact ⟨_, W.m.dd⟩
  · obtain ⟨_, q, _⟩ := W.m.fa; exact ⟨_, q⟩
  · obtain ⟨_, q, _⟩ := W.m.cr; exact ⟨_, q⟩
  · exact ls_known W.m.ws
  · exact ls_known W.m.ts
/-- a list of references is none of the sides' -/
theorem Sides.nolist {p0 C r : Addr} {ss : List Side} (h : Sides K p0 C r ss H) {l : Addr} {xs : List V} (hl : H l = some (.lst xs)) (hx : ss = [] ∨ ∃ x tl, xs = .ref x :: tl) : ∀ s ∈ ss, ∀ x ∈ s.addrs, x ∉ [l] := fun s hs x hx' z => by
  have W := (h.w s hs).1
  rcases hx with e | ⟨y, tl, e⟩
  · rw [e] at hs; cases hs
  simp at z
  subst z
  subst e
  have nl : ∀ {ws : List Nm}, Ls ws (.ref x) H → False := fun q => by
    obtain ⟨l', e1, e2⟩ := ls_strs q
    cases e1
    rw [hl] at e2
    injection e2 with e2
    injection e2 with e2
    rename_i ws
    cases ws with
    | nil => cases e2
    | cons _ _ => cases e2
  have no := W.objs
  simp only [List.mem_cons, List.not_mem_nil, or_false] at hx'
  have nn : x ∈ [s.A.p, s.A.df, s.A.dc, s.M.d, s.M.df, s.M.dc] → False := fun m => by
    obtain ⟨o, q, n⟩ := no x m
    rw [hl] at q
    cases q
    exact n
  rcases hx' with q | q | q | q | q | q | q | q | q | q
  · exact nn (by simp [q])
  · exact nn (by simp [q])
  · exact nn (by simp [q])
  · exact nl (q ▸ W.gr.ws)
  · exact nl (q ▸ W.gr.ts)
  · exact nn (by simp [q])
  · exact nn (by simp [q])
  · exact nn (by simp [q])
  · exact nl (q ▸ W.m.ws)
  · exact nl (q ▸ W.m.ts)
/-- the account's display -/
def DispP (l1 l2 : Addr) (ws ths : List Nm) (H : Hp) : VP := fun v H1 => ∃ M : MA, v = .ref M.d ∧ M.lw = l1 ∧ M.lt = l2 ∧ H M.d = none ∧ H M.df = none ∧ H M.dc = none ∧ MAt (newG ws ths) M H1
instance {l1 l2 : Addr} {ws ths : List Nm} {H : Hp} : Mono (DispP l1 l2 ws ths H) := ⟨fun e ⟨M, a, b, c, d1, d2, d3, G⟩ => ⟨M, a, b, c, d1, d2, d3, G.ex e⟩⟩
theorem e_disp {σ : L2.St} {i j : Nat} {l1 l2 : Addr} {ws ths : List Nm} (h1 : σ[i]? = some (some (.ref l1))) (h2 : σ[j]? = some (some (.ref l2))) (s1 : Ls ws (.ref l1) H) (s2 : Ls ths (.ref l2) H) :
    EV (tDisp (((tC (.str ("walkers" : Str))), (tVar i)) :: (((tC (.str ("weathers" : Str))), (tVar j)) :: (((tC (.str ("facts" : Str))), tDNewK) :: (((tC (.str ("cross" : Str))), tDNewK) :: (((tC (.str ("given" : Str))), (tC (.int 0))) :: [])))))) σ H (DispP l1 l2 ws ths H) := fun H1 e Q q p hp => ⟨.ref l1, h1, .ref l2, h2, fun df hdf dc hdc => by
  have hdp : df ≠ p := fun z => by rw [z, upd_same] at hdf; cases hdf
  rw [upd_ne hdp] at hdf
  have hcd : dc ≠ df := fun z => by rw [z, upd_same] at hdc; cases hdc
  rw [upd_ne hcd] at hdc
  have hcp : dc ≠ p := fun z => by rw [z, upd_same] at hdc; cases hdc
  rw [upd_ne hcp] at hdc
  refine ⟨by rw [upd_ne (Ne.symm hcp), upd_ne (Ne.symm hdp), upd_same], mf ⟨p, df, dc, l1, l2⟩ 0, rfl, by simp [mf], ?_⟩
  rw [mf_merge]
  have e12 : Ex H1 (upd (upd (upd (upd H1 p (.dK [])) df (.dK [])) dc (.dK [])) p (.dK (mf ⟨p, df, dc, l1, l2⟩ 0))) := fun b o q => by
    rw [upd_ne (ne_of_none q hp), upd_ne (ne_of_none q hdc), upd_ne (ne_of_none q hdf), upd_ne (ne_of_none q hp)]; exact q
  refine q _ _ e12 ⟨⟨p, df, dc, l1, l2⟩, rfl, rfl, rfl, e.free hp, e.free hdf, e.free hdc, ⟨upd_same, s1.ex (e.trans e12), s2.ex (e.trans e12), ⟨[], ?_, .nil⟩, ⟨[], ?_, .nil⟩, ?_⟩⟩
  · show upd _ _ _ df = _
    rw [upd_ne hdp, upd_ne (Ne.symm hcd), upd_same]
  · show upd _ _ _ dc = _
    rw [upd_ne hcp, upd_same]
  · simp only [List.nodup_cons, List.mem_cons, List.not_mem_nil, or_false, not_or, List.nodup_nil, not_false_eq_true, and_true]
    exact ⟨⟨Ne.symm hdp, Ne.symm hcp⟩, Ne.symm hcd⟩⟩
end
end TK

namespace PySem
namespace TkNe
open PySem.Sem PySem.SeqAt
variable {prog : Program} {w : World}
/-- == of two tuples of one size whose items are all equal, within one model -/
theorem tup_eq_same (l b : Addr) (items items2 : Array Value) (n n2 : Nat) (dd dd2 : Option Addr) (sl sl2 : Array (Option Value)) (hz : items.size = items2.size) :
    MeetsIn prog w (Builtin.«tuple.__eq__» ⟨[.ref l, .ref b], []⟩)
      (fun A R s => s.heap.get? l = some { cls := .type "tuple", dict := dd, data := .seq items n, slots := sl } ∧ s.heap.get? b = some { cls := .type "tuple", dict := dd2, data := .seq items2 n2, slots := sl2 } ∧
        (∀ j (h1 : j < items.size) (h2 : j < items2.size), EqP prog w A.in1 s items[j] items2[j] true) ∧ R (.ok (.ret (.bool true))) s) := by
  intro A R s hyp
  obtain ⟨hp, g, d, tk, os⟩ := s
  obtain ⟨hl, hb, he, hR0⟩ := hyp
  have sub2 := AutoSeq1.sub_tuple_tuple
  have zl : (items.toList.zip items2.toList).length = items.size := by simp [hz]
  wp_walk using wpAny_loadPart' hl, wpAny_loadPart' hb, wpAny_forIn_list _ (fun rest b s' => b.1 = none ∧ s' = ⟨hp, g, d, tk, os⟩ ∧ ∃ i, rest = (items.toList.zip items2.toList).drop i) _
  case turn =>
    rintro ⟨y, x⟩ rest b s' ⟨hb', rfl, i, hq⟩
    have hi : i < (items.toList.zip items2.toList).length := by
      rcases Nat.lt_or_ge i (items.toList.zip items2.toList).length with q | q
      · exact q
      · rw [List.drop_of_length_le q] at hq; cases hq
    have h1 : i < items.size := zl ▸ hi
    have h2 : i < items2.size := hz ▸ h1
    rw [List.drop_eq_getElem_cons hi] at hq
    injection hq with hyx hrest
    have ey : y = items[i] := by have := congrArg Prod.fst hyx; simpa using this
    have ex : x = items2[i] := by have := congrArg Prod.snd hyx; simpa using this
    subst ey ex
    refine wpAny_bind (he i h1 h2 _ _ ?_)
    wp_walk
    exact ⟨rfl, rfl, i + 1, hrest⟩
  case fin =>
    rintro ⟨b1, b2⟩ s' ⟨hb', rfl, i, hq⟩
    simp only at hb'
    subst hb'
    wp_walk
    simpa [Builtin.Tuple.tupleCompareSizes, bne, hz] using hR0
  case h => exact ⟨rfl, rfl, 0, rfl⟩
theorem eq_tups {A : Around} {s : Shared} {l b : Addr} {items items2 : Array Value} (hl : PyProof.Rows.IsTup s.heap l items) (hb : PyProof.Rows.IsTup s.heap b items2) (hz : items.size = items2.size) (hu : A.units < cLine)
    (he : ∀ j (h1 : j < items.size) (h2 : j < items2.size), EqP prog w A.in1 s items[j] items2[j] true) (E Q : Value → Shared → Prop) (h : Q (.bool true) s) : wpAny (model prog w) A (richCompare .Eq (.ref l) (.ref b)) Q E s := by
  obtain ⟨⟨cls, dd, data, sl⟩, ho, hc, n, hd⟩ := id hl
  obtain ⟨⟨cls2, dd2, data2, sl2⟩, ho2, hc2, n2, hd2⟩ := id hb
  simp only at hc hd hc2 hd2
  subst hc hd hc2 hd2
  have ta : s.TypeIs (.ref l) "tuple" := ⟨_, ho, rfl⟩
  have tb : s.TypeIs (.ref b) "tuple" := ⟨_, ho2, rfl⟩
  exact wpAny_richCompare_same_room (op := .Eq) ta tb F.slot_tuple_eq (call_meetsIn F.slot_tuple_eq ta F.entry_tuple_eq (F.args_tuple_eq_2 _ _) (tup_eq_same l b items items2 n n2 dd dd2 sl sl2 hz)
    ⟨ho, ho2, he, show Value.bool true ≠ Value.notImplemented ∧ Q (.bool true) s from ⟨(fun x => nomatch x), h⟩⟩) hu
end TkNe
end PySem
namespace L2
open PySem PySem.Spec PyProof.Rows
/-- a tuple of dicts == a tuple of dicts, pair by pair the same keys with the same data -/
def rEqDs (K : PySem.W.Frag) : R2 := fun x y H Q => ∃ (a b : Addr) (xs ys : List V), x = .ref a ∧ y = .ref b ∧ SqT K H a xs ∧ SqT K H b ys ∧
  Paired (fun u v => ∃ p q ks ls, u = V.ref p ∧ v = V.ref q ∧ H p = some (.dK ks) ∧ H q = some (.dK ls) ∧ ks.length = ls.length ∧ ∀ z ∈ ks, ∃ t, valV ls z.1 = some t ∧ SameD K H z.2 t) xs ys ∧ Q (.bl true) H
section
variable {X : Cx}
theorem op_eqDs (hu : X.A.units + 70 < cLine) : OpR X (compareOp .Eq) (rEqDs X.K) := by
  intro pins s σ H x y v u Q I rx ry h
  obtain ⟨a, b, xs, ys, rfl, rfl, ha, hb, hp, q⟩ := h
  cases (show v = Value.ref a from rx)
  cases (show u = Value.ref b from ry)
  obtain ⟨us, r1, t1, _⟩ := I.tuple ha
  obtain ⟨ws, r2, t2, _⟩ := I.tuple hb
  have hl : us.length = ws.length := by rw [← r1.length, ← r2.length]; exact Paired.length hp
  have item : ∀ {xs ys : List V} {us ws : List Value}, Vals xs us → Vals ys ws → Paired (fun u v => ∃ p q ks ls, u = V.ref p ∧ v = V.ref q ∧ H p = some (.dK ks) ∧ H q = some (.dK ls) ∧ ks.length = ls.length ∧ ∀ z ∈ ks, ∃ t, valV ls z.1 = some t ∧ SameD X.K H z.2 t) xs ys →
      ∀ j (h1 : j < us.length) (h2 : j < ws.length), SeqAt.EqP X.prog X.w X.A.in1 s us[j] ws[j] true := by
    intro xs ys us ws r1 r2 hp
    induction hp generalizing us ws with
    | nil => cases r1; intro j h1; exact absurd h1 (Nat.not_lt_zero j)
    | cons hd _ ih =>
      cases r1 with
      | cons a1 b1 =>
        cases r2 with
        | cons a2 b2 =>
          intro j h1 h2
          cases j with
          | succ j => exact ih b1 b2 j (Nat.lt_of_succ_lt_succ h1) (Nat.lt_of_succ_lt_succ h2)
          | zero =>
            obtain ⟨p, q, ks, ls, rfl, rfl, hk, hl, hz, hall⟩ := hd
            cases a1
            cases a2
            show SeqAt.EqP X.prog X.w X.A.in1 s (.ref p) (.ref q) true
            by_cases e : p = q
            · subst e; exact (SeqAt.EqAt.same _).eqP
            · refine SeqAt.eqP_refs e fun E Q hQ => ?_
              obtain ⟨_, ya, va, ra, da⟩ := dk_of I.hok hk
              obtain ⟨_, yb, vb, rb, db⟩ := dk_of I.hok hl
              refine PySem.W.rcP_dicts (knd := mixKind X.prog X.w) (r := true) ya yb da db (by show X.A.units + 1 < cLine; omega) (fun _ => hits_run (fun x y v u hs rx ry => ?_) rb ra hall) E Q ?_
              · obtain ⟨d, d1, d2, sh, eq⟩ := hs
                obtain ⟨as, q1⟩ := Dp.reads I d x v d1 rx
                obtain ⟨bs, q2⟩ := Dp.reads I d y u d2 ry
                have z := SeqAt.eqAt_reads d d X.A.in1.in1 s v u as bs q1 q2 (SeqAt.canLay_of_shaped sh) (SeqAt.canLay_of_shaped sh) (by have := SeqAt.depth_of_shaped sh; show X.A.units + 1 + 1 + min d.depth d.depth < cLine; omega)
                rw [eq] at z
                exact z.eqP
              · have e2 : va.length = vb.length := by rw [← ra.length, ← rb.length]; exact hz
                rw [show (va.length == vb.length && true) = true from by rw [e2]; simp]
                exact hQ
  refine TkNe.eq_tups t1 t2 (by simpa using hl) (by omega) (fun j h1 h2 => ?_) _ _ ⟨.bl true, H, I, rfl, q⟩
  have := item r1 r2 hp j (by simpa using h1) (by simpa using h2)
  simpa using this
end
end L2
namespace L2
open PySem PySem.Spec PyProof.Rows
/-- a dict != an empty one -/
def rNeD0 : R2 := fun x y H Q => ∃ (a b : Addr) (ks : List (Key × V)), x = .ref a ∧ y = .ref b ∧ H a = some (.dK ks) ∧ H b = some (.dK []) ∧ Q (.bl (!decide (ks.length = 0))) H
section
variable {X : Cx}
theorem op_ne_dict0 (hu : X.A.units < cLine) : OpR X (compareOp .NotEq) rNeD0 := by
  intro pins s σ H x y v u Q I rx ry h
  obtain ⟨a, b, ks, rfl, rfl, ea, eb, q⟩ := h
  obtain rfl : v = Value.ref a := rx
  obtain rfl : u = Value.ref b := ry
  obtain ⟨_, ya, va, ra, da⟩ := (show ObjOk X.prog X.w H s.heap a (.dK ks) from I.hok a _ ea)
  obtain ⟨_, yb, vb, rb, db⟩ := (show ObjOk X.prog X.w H s.heap b (.dK []) from I.hok b _ eb)
  have la : ks.length = va.length := ra.length
  have lb : vb.length = 0 := rb.length.symm
  refine PySem.W.keq_ne (knd := mixKind X.prog X.w) (r := true) ya yb da db hu (fun hl => hits_all rb ra ?_) (fin_bl I q ?_)
  · intro p hp
    have : ks = [] := List.length_eq_zero_iff.mp (by omega)
    rw [this] at hp
    cases hp
  · rw [lb, ← la]
    by_cases h : ks.length = 0 <;> simp [h]
end
end L2
namespace L2
open PySem PySem.Spec PyProof.Rows
/-- a method's call within a try: what is raised is wished for at the slots -/
def tMethT (C : Addr) (m : Str) (sp : Sp) (E : St → XK) (ta : TE) (t : TA) : TE := fun σ H Q => ta σ H fun x H1 => ∃ a dx fs, x = .ref a ∧ H1 a = some (.ins C dx fs) ∧ fs.lookup m = none ∧ t σ H1 fun vs H2 => sp (x :: vs) H2 Q (E σ)
section
variable {X : Cx} {CX : CXT} {k j : Nat} {C : Addr} {m : Str} {sp : Sp} {W : St → XK} {pos apos : Pos} {e o : Expr} {es : List Expr} {ta : TE} {t : TA}
theorem pe_mmT {pl : Sem Bool} (c : Mt1 X.prog X.w X.K X.mg X.base CX k C m sp) (hr : Room j X.A) (hk : k ≤ j) (hx : ∀ σ, PassesAt CX X σ (W σ)) (he : PE X o ta) (ha : PA X (e :: es) t)
    (hst : starEach (e :: es) X.env = (false, eval e X.env) :: starEach es X.env := by rfl) (hpl : (backTo pos (starEach es X.env)).any (·.1) = false := by rfl)
    (ht : eval (.Call (.Attribute o m apos) (e :: es) [] pos) X.env = (do
      let rv ← eval o X.env
      standAt apos.atName
      let (g, first) ← holding [rv] (getMethod rv m pl)
      callWith pos g first (backTo pos (starEach (e :: es) X.env)) (backToKw pos (keywordEach [] X.env))) := by rfl) :
    PE X (.Call (.Attribute o m apos) (e :: es) [] pos) (tMethT C m sp W ta t) := by
  obtain ⟨f, fd, ps, hc, hm, F, b⟩ := c.ex
  refine ⟨fun pins s σ H Q I h => ?_⟩
  refine PySem.W.methodCall_KW (pl := pl) (thn (he.run pins s σ H _ I h) fun u s1 ⟨x, H1, I1, rx, a, dx, fs, ex, ea, l, q⟩ => ?_) ht
  subst ex
  obtain rfl : u = Value.ref a := rx
  refine getmeth_ok I1 ea hc hm l ?_
  refine PySem.W.callWith_K (first := [.ref a]) (h₀ := X.base) I.ok.mod.kin hm.kp (thn (ha.run pos pins s1 σ H1 _ I1 q) fun us s2 ⟨vs, H2, I2, r, q2⟩ => ⟨I2.kIn, ?_⟩) hst hpl
  exact run_fnS (us := .ref a :: us) (vs := .ref a :: vs) F (hr.mono hk) b (hx σ) I2 (.cons rfl r) q2
end
end L2

/-! TkS3: what several laws use. -/
namespace TK
open PySem L2 PySem.Spec PyProof.Rows
open Enc (enc)
section
variable {K : PySem.W.Frag} {a : Ad} {vs : List V} {H H' : Hp} {Q : VK} {E : XK}
theorem run_next {Z : Ends} {σ : L2.St} (h : Z.nx σ H) : tNext Z σ H := h
theorem run_seq {Z : Ends} {t u : TS} {σ : L2.St} (h : t { Z with nx := u Z } σ H) : tSeq t u Z σ H := h
theorem run_ret {Z : Ends} {σ : L2.St} {te : TE} (h : te σ H Z.rt) : tRet te Z σ H := h
theorem run_tup {ta : TA} {σ : L2.St} (h : ta σ H fun vs H' => vs.length ≤ sizeLine ∧ ∀ p, H' p = none → Q (.ref p) (upd H' p (.tup vs))) : tTup ta σ H Q := h
theorem e_mknown {σ : L2.St} {te : TE} {g : GS} {M : MA} (h : EV te σ H (Is (.ref M.d))) (G : MAt g M H) (ok : GOk g) : EV (tCall (sp_w_known K a) [] E0 (tCons te tNil)) σ H (NL H g.pairs) :=
  e_call1 (P1 := Is (.ref M.d)) h fun x HA eA px Q q => ⟨_, M, by rw [px], G.ex eA, ok, fun x HB eB n => q x HB eB (n.back eA)⟩
/-- a list grows that a heap from before does not know -/
theorem q_appOld {α : Type} [DecidableEq α] [Enc α] {Hb : Hp} {σ : L2.St} {Z : Ends} {tr : TS} {te : TE} {n : Int} {xs : List α} (e0 : Ex Hb H) (h : EV te σ H (NL Hb xs)) (hz : xs.length < 100000) (k : ∀ H', Ex Hb H' → tr Z σ H') : tSeq (tDrop (tBM K "list" rAppend te (tCons (tC (.int n)) tNil))) tr Z σ H :=
  h.run fun v H1 e p => by
    obtain ⟨l, us, rfl, h0, h1, h2⟩ := p
    have hl := tda_len h2
    rw [List.length_map] at hl
    exact ⟨Or.inl ⟨rfl, us, sq_of h1⟩, l, us, .int n, rfl, rfl, h1, sz_lt (by omega), k _ ((e0.trans e).mut h0)⟩
/-- for x in a list, read with changes -/
theorem s_forLX {α : Type} [DecidableEq α] [Enc α] {σ : L2.St} {Z : Ends} {tu : TS} {tl : TE} {gt : TG} {P : List α → VP} (h : ∀ Q : VK, (∀ xs v H1, P xs v H1 → Q v H1) → tl σ H Q) (hP : ∀ xs v H1, P xs v H1 → Ls xs v H1) (Inv : List α → Hp → V → List α → L2.St → Hp → Prop) (h0 : ∀ xs v H1, P xs v H1 → Inv xs H1 v [] σ H1)
    (hk : ∀ xs v H1 pre σ' H', P xs v H1 → Inv xs H1 v pre σ' H' → Ls xs v H')
    (hs : ∀ xs v H1 pre x post y σ' H', P xs v H1 → xs = pre ++ x :: post → Inv xs H1 v pre σ' H' → D x y H' → gt y σ' H' fun σ2 H2 => tu { Z with nx := Inv xs H1 v (pre ++ [x]), ct := Inv xs H1 v (pre ++ [x]), bk := Z.nx } σ2 H2)
    (hd : ∀ xs v H1 σ' H', P xs v H1 → Inv xs H1 v xs σ' H' → Z.nx σ' H') : tFor (iList K tl) gt tu Z σ H := by
  refine h _ fun xs v H1 p => ?_
  exact q_forX (K := K) (tl := fun _ _ Q => Q v H1) (σ := σ) (H := H) (g := gt) (xs := xs) (P := fun v' H' => v' = v ∧ H' = H1) (fun Q q => q v H1 ⟨rfl, rfl⟩) (fun v' H' ⟨a, b⟩ => by subst a; subst b; exact hP xs _ _ p) (fun H' v' => Inv xs H' v') (fun v' H' ⟨a, b⟩ => by subst a; subst b; exact h0 xs _ _ p)
    (fun v' H' pre σ' H2 ⟨a, b⟩ => by subst a; subst b; exact hk xs _ _ pre σ' H2 p) (fun v' H' pre x post y σ' H2 ⟨a, b⟩ => by subst a; subst b; exact hs xs _ _ pre x post y σ' H2 p) (fun v' H' σ' H2 ⟨a, b⟩ => by subst a; subst b; exact hd xs _ _ σ' H2 p)
/-- ground.told() == (m["facts"], m["cross"]) -/
theorem e_toldEq {σ : L2.St} {te tm : TE} {g : GS} {A : GA} {M : MA} (h1 : EV te σ H (Is (.ref A.p))) (h2 : EV tm σ H (Is (.ref M.d))) (G : GrAt a.cGround g A H) (GM : MAt g M H) (ok : GOk g) :
    EV (tOp (rEqDs K) (tMeth a.cGround "told" (sp_Ground_told K a) [] E0 te tNil) (tTup (tCons (tDGet tm (tC (.str ("facts" : Str)))) (tCons (tDGet tm (tC (.str ("cross" : Str)))) tNil)))) σ H (Is (.bl true)) := fun H1 e Q q =>
  h1 H1 e _ fun v H2 e2 p1 => by
    cases p1
    have e02 := e.trans e2
    have G2 := G.ex e02
    refine ⟨A.p, A.dx, _, rfl, G2.ins, gm_no _ _, g, A, rfl, G2, fun t df dc HA eA ht hdf hdc hne hT hF hC => ?_⟩
    have e0A := e02.trans eA
    refine (e_mfa (h2.ex e0A) (GM.ex e0A)).run fun x HB eB px => ?_
    refine (e_mcr (h2.ex (e0A.trans eB)) (GM.ex (e0A.trans eB))).run fun y HC eC py => ?_
    cases px
    cases py
    refine ⟨sz_of (by simp), fun u hu => ?_⟩
    have eAu := eB.trans (eC.trans (Ex.new (o := .tup [.ref M.df, .ref M.dc]) hu))
    have WD := GM.ex (e0A.trans eAu)
    have nk := List.nodup_append.mp ok.keys
    obtain ⟨ks1, ls1, q1, q2, q3, q4⟩ := same_dk (K := K) nk.1 (hF.ex eAu) WD.fa (by decide)
    obtain ⟨ks2, ls2, r1, r2, r3, r4⟩ := same_dk (K := K) nk.2.1 (hC.ex eAu) WD.cr (by decide)
    exact ⟨t, u, _, _, rfl, rfl, st_of (eAu _ _ hT), st_of upd_same, .cons ⟨df, M.df, ks1, ls1, rfl, rfl, q1, q2, q3, q4⟩ (.cons ⟨dc, M.dc, ks2, ls2, rfl, rfl, r1, r2, r3, r4⟩ .nil), q _ _ (e2.trans (eA.trans eAu)) rfl⟩
/-- ground.told() != (m["facts"], m["cross"]), the same -/
theorem b_toldSame {σ : L2.St} {te tm : TE} {C : Addr} {g : GS} {A : GA} {M : MA} (h1 : EV te σ H (Is (.ref A.p))) (h2 : EV tm σ H (Is (.ref M.d))) (G : GrAt a.cGround g A H) (GM : MAt g M H) (ok : GOk g) :
    EB (tTest (tOp (rNeDs K) (tMeth a.cGround "told" (sp_Ground_told K a) [] E0 te tNil) (tTup (tCons (tDGet tm (tC (.str ("facts" : Str)))) (tCons (tDGet tm (tC (.str ("cross" : Str)))) tNil))))) σ H false := fun H1 e Q q =>
  h1 H1 e _ fun v H2 e2 p1 => by
    cases p1
    have e02 := e.trans e2
    have G2 := G.ex e02
    refine ⟨A.p, A.dx, _, rfl, G2.ins, gm_no _ _, g, A, rfl, G2, fun t df dc HA eA ht hdf hdc hne hT hF hC => ?_⟩
    have e0A := e02.trans eA
    refine (e_mfa (h2.ex e0A) (GM.ex e0A)).run fun x HB eB px => ?_
    refine (e_mcr (h2.ex (e0A.trans eB)) (GM.ex (e0A.trans eB))).run fun y HC eC py => ?_
    cases px
    cases py
    refine ⟨sz_of (by simp), fun u hu => ?_⟩
    have eAu := eB.trans (eC.trans (Ex.new (o := .tup [.ref M.df, .ref M.dc]) hu))
    have WD := GM.ex (e0A.trans eAu)
    have nk := List.nodup_append.mp ok.keys
    obtain ⟨ks1, ls1, q1, q2, q3, q4⟩ := same_dk (K := K) nk.1 (hF.ex eAu) WD.fa (by decide)
    obtain ⟨ks2, ls2, r1, r2, r3, r4⟩ := same_dk (K := K) nk.2.1 (hC.ex eAu) WD.cr (by decide)
    exact ⟨t, u, _, _, rfl, rfl, st_of (eAu _ _ hT), st_of upd_same, .cons ⟨df, M.df, ks1, ls1, rfl, rfl, q1, q2, q3, q4⟩ (.cons ⟨dc, M.dc, ks2, ls2, rfl, rfl, r1, r2, r3, r4⟩ .nil), false, rfl, q _ (e2.trans (eA.trans eAu))⟩
theorem e_gpairs {σ : L2.St} {te : TE} {g : GS} {A : GA} (h : EV te σ H (Is (.ref A.p))) (G : GrAt a.cGround g A H) (ok : GOk g) : EV (tMeth a.cGround "pairs" (sp_Ground_pairs K a) [] E0 te tNil) σ H (NL H g.pairs) :=
  e_meth0 h G.ins (gm_no _ _) fun HA eA Q q => ⟨_, A, rfl, G.ex eA, ok, fun x HB eB n => q x HB eB (n.back eA)⟩
theorem NL.ner {α : Type} [DecidableEq α] [Enc α] {xs : List α} {v : V} {r : Addr} (h : NL H xs v H') (R : RowAt K p0 r H) : ∃ l, v = .ref l ∧ l ≠ r ∧ Ls xs (.ref l) H' ∧ H l = none := by
  obtain ⟨l, us, rfl, h0, h1, h2⟩ := h
  refine ⟨l, rfl, fun z => ?_, ⟨l, us, rfl, h1, h2⟩, h0⟩
  obtain ⟨xs, q⟩ := row_one R
  rw [z, q] at h0; cases h0
theorem Ls.chg1 {α : Type} [DecidableEq α] [Enc α] {xs : List α} {l r : Addr} (h : Ls xs (.ref l) H) (c : Chg [r] H H') (n : l ≠ r) : Ls xs (.ref l) H' := h.chg c (by simpa using n)
end
end TK

/-! TkX07: what leans on a fact, what is needless, what is kept. -/
namespace TK
open PySem L2 PySem.Spec PyProof.Rows
open Enc (enc)
noncomputable def lessOf (g : GS) (wo : List Int) : List PairT := pairsOf g.things (allLinks g wo)
noncomputable def leansOf (g : GS) (n : Int) : List PairT := g.pairs.filter fun p => !memB p (lessOf g [n])
noncomputable def needlessOf (g : GS) : List Int := (sortI (keysA g.facts)).filter fun n => decide (leansOf g n = [])
noncomputable def outOf (g : GS) (ns : List Int) : List Int := ns.foldl (fun out n => if lessOf g (out ++ [n]) = g.pairs then out ++ [n] else out) []
noncomputable def keptOf (g : GS) : List Int := (sortI (keysA g.facts)).filter fun n => !memB n (outOf g (sortI (keysA g.facts)))
def sp_Ground_leans (K : PySem.W.Frag) (a : Ad) : Sp := fun vs H Q E => ∃ (g : GS) (A : GA) (n : Int), vs = [.ref A.p, .int n] ∧ GrAt a.cGround g A H ∧ GOk g ∧ (n ∈ keysA g.facts → ∀ x H', Ex H H' → NL H (leansOf g n) x H' → Q x H') ∧ (n ∉ keysA g.facts → ∀ H', Ex H H' → E (.ref a.cNoSuch) none H')
def sp_Ground_needless (K : PySem.W.Frag) (a : Ad) : Sp := fun vs H Q _ => ∃ (g : GS) (A : GA), vs = [.ref A.p] ∧ GrAt a.cGround g A H ∧ GOk g ∧ ∀ x H', Ex H H' → NL H (needlessOf g) x H' → Q x H'
def sp_Ground_kept (K : PySem.W.Frag) (a : Ad) : Sp := fun vs H Q _ => ∃ (g : GS) (A : GA), vs = [.ref A.p] ∧ GrAt a.cGround g A H ∧ GOk g ∧ ∀ x H', Ex H H' → NL H (keptOf g) x H' → Q x H'
def sp_w_without (K : PySem.W.Frag) (a : Ad) : Sp := fun vs H Q _ => ∃ (g : GS) (M : MA) (wo : List Int) (v : V), vs = [.ref M.d, v] ∧ MAt g M H ∧ GOk g ∧ Ls wo v H ∧ ∀ x H', Ex H H' → NL H (lessOf g wo) x H' → Q x H'
def sp_w_none (K : PySem.W.Frag) (a : Ad) : Sp := fun vs H Q _ => ∃ (g : GS) (A : GA) (n : Int), vs = [.ref A.p, .int n] ∧ GrAt a.cGround g A H ∧ GOk g ∧ n ∉ keysA g.facts ∧ ∀ H', Ex H H' → Q (.bl true) H'
def sp_w_kept (K : PySem.W.Frag) (a : Ad) : Sp := fun vs H Q _ => ∃ (g : GS) (M : MA) (v : V), vs = [.ref M.d, v] ∧ MAt g M H ∧ GOk g ∧ Ls g.pairs v H ∧ ∀ x H', Ex H H' → NL H (keptOf g) x H' → Q x H'
def t_w_without (K : PySem.W.Frag) (a : Ad) : TS :=
  (tRet (tCall (sp_w_pairs K a) [] E0 (tCons (tCall (sp_w_things K a) [] E0 (tCons (tVar 0) tNil)) (tCons (tCall (sp_w_all_links K a) [] E0 (tCons (tVar 0) (tCons (tVar 1) tNil))) tNil))))
def t_Ground_leans (K : PySem.W.Frag) (a : Ad) (E : XK) : TS :=
  (tSeq (tIfS (tB (tDNotIn (tVar 1) (tFld K (tVar 0) "facts"))) (fun _ σ H => E (.ref a.cNoSuch) none H) tNext) (tSeq (tAsg (tCall (sp_known_pairs K a) [] E0 (tCons (tMeth a.cGround "net" (sp_Ground_net K a) [] E0 (tVar 0) (tCons (tLst (tCons (tVar 1) tNil)) tNil)) (tCons (tMeth a.cGround "things" (sp_Ground_things K a) [] E0 (tVar 0) tNil) tNil))) (gName 2)) (tRet (tLc (iList K (tMeth a.cGround "pairs" (sp_Ground_pairs K a) [] E0 (tVar 0) tNil)) (gName 3) (tTest (tOp (rNotInD K) (tVar 3) (tVar 2))) (tVar 3) [3]))))
def t_Ground_kept (K : PySem.W.Frag) (a : Ad) : TS :=
  (tSeq (tAsg (tMeth a.cGround "pairs" (sp_Ground_pairs K a) [] E0 (tVar 0) tNil) (gName 1)) (tSeq (tAsg (tLst tNil) (gName 2)) (tSeq (tFor (iList K (tCB (rSorted K) (tCons (tCB (rListD0) (tCons (tFld K (tVar 0) "facts") tNil)) tNil))) (gName 3) (tIfS (tTest (tOp (rEqD K) (tCall (sp_known_pairs K a) [] E0 (tCons (tMeth a.cGround "net" (sp_Ground_net K a) [] E0 (tVar 0) (tCons (tOp rCat (tVar 2) (tLst (tCons (tVar 3) tNil))) tNil)) (tCons (tMeth a.cGround "things" (sp_Ground_things K a) [] E0 (tVar 0) tNil) tNil))) (tVar 1))) (tDrop (tBM K "list" (rAppend) (tVar 2) (tCons (tVar 3) tNil))) tNext)) (tRet (tLc (iList K (tCB (rSorted K) (tCons (tCB (rListD0) (tCons (tFld K (tVar 0) "facts") tNil)) tNil))) (gName 3) (tTest (tOp (rNotInD K) (tVar 3) (tVar 2))) (tVar 3) [3])))))
def t_Ground_needless (K : PySem.W.Frag) (a : Ad) : TS :=
  (tRet (tLc (iList K (tCB (rSorted K) (tCons (tCB (rListD0) (tCons (tFld K (tVar 0) "facts") tNil)) tNil))) (gName 1) (tTest (tOp (rEqD K) (tMeth a.cGround "leans" (sp_Ground_leans K a) [] E0 (tVar 0) (tCons (tVar 1) tNil)) (tLst tNil))) (tVar 1) [1]))
def t_w_kept (K : PySem.W.Frag) (a : Ad) : TS :=
  (tSeq (tAsg (tLst tNil) (gName 2)) (tSeq (tFor (iList K (tCB (rSortedDI) (tCons (tDGet (tVar 0) (tC (.str ("facts" : Str)))) tNil))) (gName 3) (tIfS (tTest (tOp (rEqD K) (tCall (sp_w_without K a) [] E0 (tCons (tVar 0) (tCons (tOp rCat (tVar 2) (tLst (tCons (tVar 3) tNil))) tNil))) (tVar 1))) (tDrop (tBM K "list" (rAppend) (tVar 2) (tCons (tVar 3) tNil))) tNext)) (tRet (tLc (iList K (tCB (rSortedDI) (tCons (tDGet (tVar 0) (tC (.str ("facts" : Str)))) tNil))) (gName 3) (tTest (tOp (rNotInD K) (tVar 3) (tVar 2))) (tVar 3) [3]))))
section
variable {K : PySem.W.Frag} {a : Ad} {vs : List V} {H H' : Hp} {Q : VK} {E : XK}
theorem len_Ground_leans (K : PySem.W.Frag) (a : Ad) : ∀ vs H Q E, sp_Ground_leans K a vs H Q E → vs.length = 2 := fun _ _ _ _ ⟨_, _, _, e, _⟩ => by rw [e]; rfl
theorem e_less (T : ClT K a) {σ : L2.St} {te tw : TE} {g : GS} {A : GA} {wo : List Int} (h : EV te σ H (Is (.ref A.p))) (hw : EV tw σ H (Ls wo)) (G : GrAt a.cGround g A H) (ok : GOk g) :
    EV (tCall (sp_known_pairs K a) [] E0 (tCons (tMeth a.cGround "net" (sp_Ground_net K a) [] E0 te (tCons tw tNil)) (tCons (tMeth a.cGround "things" (sp_Ground_things K a) [] E0 te tNil) tNil))) σ H (NL H (lessOf g wo)) :=
  e_call2 (e_gnet T (wo := wo) h hw (fun _ _ p => p) G ok) (e_gthings T h G ok) fun x y H1 e p1 p2 Q q => by
    obtain ⟨p, rfl, _, n⟩ := p1
    exact ⟨p, g.things, allLinks g wo, y, rfl, n, p2.ls, ok.ndT, fun k hk => (ok.links hk).2, by have := ok.lenT; omega, fun r H2 e2 nn => q r H2 e2 (nn.back e)⟩
theorem gpairs_len {g : GS} (ok : GOk g) : g.pairs.length ≤ 196 := by
  have h1 := pairsOf_len g.things g.things (allLinks g [])
  have h2 := ok.lenT
  have h3 : g.things.length * g.things.length ≤ 14 * 14 := Nat.mul_le_mul h2 h2
  show (pairsOf _ _).length ≤ _
  unfold pairsOf
  omega
theorem e_gpairs' {σ : L2.St} {te : TE} {g : GS} {A : GA} (h : EV te σ H (Is (.ref A.p))) (G : GrAt a.cGround g A H) (ok : GOk g) : EV (tMeth a.cGround "pairs" (sp_Ground_pairs K a) [] E0 te tNil) σ H (NL H g.pairs) :=
  e_meth0 h G.ins (gm_no _ _) fun HA eA Q q => ⟨_, A, rfl, G.ex eA, ok, fun x HB eB n => q x HB eB (n.back eA)⟩
theorem p_Ground_leans (T : ClT K a) (h : sp_Ground_leans K a vs H Q E) : t_Ground_leans K a E (FinQ Q) (start ["self", "number", "less", "pair"] vs) H := by
  obtain ⟨g, A, n, rfl, G, ok, k1, k2⟩ := h
  refine q_if (b_dnotin (k := n) (e_intC n) (e_gf e_is G T.gr T.facts (gf_facts _ _)) G.fa) (fun c H1 e1 => ?_) fun c H1 e1 => ?_
  · exact k2 (fun z => by rw [memB_iff.mpr z] at c; cases c) H1 e1
  have hm : n ∈ keysA g.facts := by simpa [memB_iff] using c
  have G1 := G.ex e1
  refine q_set (e_less T (wo := [n]) e_is (e_l1 (e_intC n)).ls G1 ok) fun v2 H2 e2 p2 => ?_
  have G2 := G1.ex e2
  refine s_ret (P := NL H2 (leansOf g n)) ?_ fun x H3 e3 p3 => k1 hm x H3 (e1.trans (e2.trans e3)) (p3.back (e1.trans e2))
  have h1 := e_lc (K := K) (α := PairT) (β := PairT) (j := 3) (vs := [3]) (tt := tTest (tOp (rNotInD K) (tVar 3) (tVar 2))) (te := tVar 3) (σ := [some (.ref A.p), some (.int n), some v2, none]) (fun t => t) (fun p => !memB p (lessOf g [n])) (e_gpairs' (K := K) (a := a) (te := tVar 0) e_is G2 ok).ls (by have := gpairs_len ok; omega) (fun _ => rfl)
    (fun x y H3 _ e d => b_notin (α := PairT) (e_var d) (e_var (P := Ls (lessOf g [n])) (p2.ls.ex e))) (fun x y H3 _ _ _ d => e_var d)
  rwa [List.map_id'] at h1
theorem len_Ground_needless (K : PySem.W.Frag) (a : Ad) : ∀ vs H Q E, sp_Ground_needless K a vs H Q E → vs.length = 1 := fun _ _ _ _ ⟨_, _, e, _⟩ => by rw [e]; rfl
theorem e_gkeys {σ : L2.St} (T : ClT K a) {te : TE} {g : GS} {A : GA} (h : EV te σ H (Is (.ref A.p))) (G : GrAt a.cGround g A H) (ok : GOk g) : EV (tCB (rSorted K) (tCons (tCB (rListD0) (tCons (tFld K te "facts") tNil)) tNil)) σ H (NL H (sortI (keysA g.facts))) :=
  e_sortedI (e_listD (e_gf h G T.gr T.facts (gf_facts _ _)) G.fa).ls (by have := ok.lenF; rw [keysA, List.length_map]; omega)
theorem keys_len {g : GS} (ok : GOk g) : (sortI (keysA g.facts)).length ≤ 60 := by rw [(sortI_perm _).length_eq, keysA, List.length_map]; exact ok.lenF
theorem keys_mem {g : GS} {n : Int} : n ∈ sortI (keysA g.facts) ↔ n ∈ keysA g.facts := (sortI_perm _).mem_iff
theorem e_leans {σ : L2.St} {te tn : TE} {g : GS} {A : GA} {n : Int} {E : XK} (h : EV te σ H (Is (.ref A.p))) (hn : EV tn σ H (D n)) (G : GrAt a.cGround g A H) (ok : GOk g) (hm : n ∈ keysA g.facts) : EV (tMeth a.cGround "leans" (sp_Ground_leans K a) [] E te (tCons tn tNil)) σ H (NL H (leansOf g n)) :=
  e_meth1 (P1 := D n) h G.ins (gm_no _ _) hn fun x H1 e p Q q => ⟨g, A, n, by rw [p.is_int], G.ex e, ok, fun _ x H' e' nn => q x H' e' (nn.back e), fun z => absurd hm z⟩
theorem p_Ground_needless (T : ClT K a) (h : sp_Ground_needless K a vs H Q E) : t_Ground_needless K a (FinQ Q) (start ["self", "number"] vs) H := by
  obtain ⟨g, A, rfl, G, ok, k⟩ := h
  refine s_ret (P := NL H (needlessOf g)) ?_ fun x H3 e3 p3 => k x H3 e3 p3
  have h1 := e_lc (K := K) (α := Int) (β := Int) (j := 1) (vs := [1]) (tt := tTest (tOp (rEqD K) (tMeth a.cGround "leans" (sp_Ground_leans K a) [] E0 (tVar 0) (tCons (tVar 1) tNil)) (tLst tNil))) (te := tVar 1) (σ := [some (.ref A.p), none]) (fun t => t) (fun n => decide (leansOf g n = [])) (e_gkeys T (te := tVar 0) e_is G ok).ls (by have := keys_len ok; omega) (fun _ => rfl)
    (fun n y H3 hn e d => b_eqL (α := PairT) (e_leans (K := K) (a := a) e_is (e_var d) (G.ex e) ok (keys_mem.mp hn)).ls e_nil.ls) (fun x y H3 _ _ _ d => e_var d)
  rwa [List.map_id'] at h1
theorem len_Ground_kept (K : PySem.W.Frag) (a : Ad) : ∀ vs H Q E, sp_Ground_kept K a vs H Q E → vs.length = 1 := fun _ _ _ _ ⟨_, _, e, _⟩ => by rw [e]; rfl
theorem outOf_snoc (g : GS) (ns : List Int) (n : Int) : outOf g (ns ++ [n]) = if lessOf g (outOf g ns ++ [n]) = g.pairs then outOf g ns ++ [n] else outOf g ns := by
  unfold outOf
  rw [List.foldl_append]
  rfl
theorem outOf_len (g : GS) (ns : List Int) : (outOf g ns).length ≤ ns.length := by
  suffices h : ∀ (m : Nat) (ns : List Int), ns.length = m → (outOf g ns).length ≤ m from h _ ns rfl
  intro m
  induction m with
  | zero => intro ns h; rw [List.length_eq_zero_iff.mp h]; simp [outOf]
  | succ m ih =>
    intro ns h
    have hne : ns ≠ [] := fun z => by rw [z] at h; cases h
    rw [← List.dropLast_concat_getLast hne, outOf_snoc]
    have := ih ns.dropLast (by rw [List.length_dropLast]; omega)
    split
    · rw [List.length_append]; simp; omega
    · omega
theorem p_Ground_kept (T : ClT K a) (h : sp_Ground_kept K a vs H Q E) : t_Ground_kept K a (FinQ Q) (start ["self", "every", "out", "number"] vs) H := by
  obtain ⟨g, A, rfl, G, ok, k⟩ := h
  refine q_set (e_gpairs' (K := K) (a := a) e_is G ok) fun v1 H1 e1 p1 => ?_
  refine q_set (e_nil (α := Int)) fun v2 H2 e2 p2 => ?_
  obtain ⟨lo, uo, rfl, ho0, ho1, huo⟩ := p2
  have e12 := e1.trans e2
  have hoH : H lo = none := e1.free ho0
  have hkl := keys_len ok
  have p1k : ∀ {HX : Hp}, Ex H1 HX → Ls g.pairs v1 HX := fun e => p1.ls.ex e
  refine q_for (α := Int) (xs := sortI (keysA g.facts)) (P := NL H2 (sortI (keysA g.facts))) (e_gkeys T e_is (G.ex e12) ok) (fun _ _ p => p.ls)
    (fun H3 v3 pre σ' H' => ∃ (n3 : Option V), σ' = [some (.ref A.p), some v1, some (.ref lo), n3] ∧ Ex H1 H' ∧ Ls (sortI (keysA g.facts)) v3 H' ∧ v3 ≠ .ref lo ∧ Ls (outOf g pre) (.ref lo) H') ?_ ?_ ?_ ?_
  · intro v3 H3 e3 p3
    refine ⟨none, rfl, e2.trans e3, p3.ls, fun z => ?_, Ls.ex ⟨lo, uo, rfl, ho1, huo⟩ e3⟩
    obtain ⟨l, us, e, h0, _⟩ := p3
    rw [z] at e
    cases e
    rw [ho1] at h0
    cases h0
  · rintro v3 H3 pre σ' H' e3 p3 ⟨n3, rfl, e4, q1, q2, q3⟩
    exact q1
  · rintro v3 H3 pre n post w σ' H' e3 p3 hsp ⟨n3, rfl, e4, q1, q2, q3⟩ dw
    cases dw.is_int
    have hpl : pre.length ≤ 60 := by rw [hsp, List.length_append] at hkl; omega
    have hol := outOf_len g pre
    have G4 := (G.ex e1).ex e4
    refine run_gN ?_
    have hcat : EV (tOp rCat (tVar 2) (tLst (tCons (tVar 3) tNil))) [some (.ref A.p), some v1, some (.ref lo), some (.int n)] H' (NL H' (outOf g pre ++ [n])) := e_cat (e_var q3) (e_l1 (e_intC n)).ls (by simp; omega)
    refine s_if (b_eqL (α := PairT) (e_less T (te := tVar 0) e_is hcat.ls G4 ok).ls (e_var (P := Ls g.pairs) (p1k e4))) (fun c H5 e5 => ?_) fun c H5 e5 => ?_
    · have hc := of_decide_eq_true c
      refine s_App (α := Int) (x := n) e_is (e_intC n) (q3.ex e5) (by omega) fun H6 H7 e6 c7 s7 h7 => ?_
      have e15 := e4.trans (e5.trans e6)
      refine ⟨_, rfl, c7.exB e15 (by simp [ho0]), ?_, q2, ?_⟩
      · obtain ⟨l, us, rfl, a1, a2⟩ := q1.ex (e5.trans e6)
        have q : Ls (sortI (keysA g.facts)) (.ref l) H6 := ⟨l, us, rfl, a1, a2⟩
        exact q.chg c7 (by simp; exact fun z => q2 (by rw [z]))
      · rw [outOf_snoc, if_pos hc]; exact h7
    · refine ⟨_, rfl, e4.trans e5, q1.ex e5, q2, ?_⟩
      rw [outOf_snoc, if_neg (of_decide_eq_false c)]
      exact q3.ex e5
  · rintro v3 H3 σ' H' e3 p3 ⟨n3, rfl, e4, q1, q2, q3⟩
    have G4 := (G.ex e1).ex e4
    refine s_ret (P := NL H' (keptOf g)) ?_ fun x H5 e5 p5 => k x H5 (e1.trans (e4.trans e5)) (p5.back (e1.trans e4))
    have h1 := e_lc (K := K) (α := Int) (β := Int) (j := 3) (vs := [3]) (tt := tTest (tOp (rNotInD K) (tVar 3) (tVar 2))) (te := tVar 3) (σ := [some (.ref A.p), some v1, some (.ref lo), n3]) (fun t => t) (fun n => !memB n (outOf g (sortI (keysA g.facts)))) (e_gkeys T (te := tVar 0) e_is G4 ok).ls (by omega) (fun _ => rfl)
      (fun n y H5 hn e d => b_notin (α := Int) (e_var d) (e_var (P := Ls (outOf g (sortI (keysA g.facts)))) (q3.ex e))) (fun x y H5 _ _ _ d => e_var d)
    rwa [List.map_id'] at h1
theorem links_wo {g : GS} {wo : List Int} {k : LinkT} (h : k ∈ allLinks g wo) : k ∈ allLinks g [] := by
  unfold allLinks at h ⊢
  rcases List.mem_append.mp h with q | q
  · exact List.mem_append_left _ q
  · refine List.mem_append_right _ ?_
    obtain ⟨n, hn, q⟩ := List.mem_flatMap.mp q
    refine List.mem_flatMap.mpr ⟨n, hn, ?_⟩
    split at q
    · cases q
    · rw [if_neg (by simp)]; exact q
theorem step_wo {g : GS} {wo : List Int} {x y : Thing} (h : Step (allLinks g wo) x y) : Step (allLinks g []) x y := let ⟨n, hn⟩ := h; ⟨n, links_wo hn⟩
theorem len_w_without (K : PySem.W.Frag) (a : Ad) : ∀ vs H Q E, sp_w_without K a vs H Q E → vs.length = 2 := fun _ _ _ _ ⟨_, _, _, _, e, _⟩ => by rw [e]; rfl
theorem p_w_without (T : ClT K a) (h : sp_w_without K a vs H Q E) : t_w_without K a (FinQ Q) (start ["_law_m", "_law_numbers"] vs) H := by
  obtain ⟨g, M, wo, v, rfl, G, ok, hv, k⟩ := h
  refine s_ret (P := NL H (lessOf g wo)) (e_call2 (P1 := NL H g.things) (P2 := NL H (allLinks g wo)) (e_wthings e_is G ok) (e_wlinks e_is (e_var hv) G ok) fun x y H1 e p1 p2 Q q => ?_) fun x H1 e p => k x H1 e p
  exact ⟨g.things, allLinks g wo, x, y, rfl, p1.ls, p2.ls, ok.ndT, fun k hk => ok.links hk, fun x hx => ok.acyc x (reach_mono (fun _ _ s => step_wo s) hx), by have := ok.lenT; omega, by have := ok.lenA wo; omega, fun r H2 e2 n => q r H2 e2 (n.back e)⟩
theorem len_w_kept (K : PySem.W.Frag) (a : Ad) : ∀ vs H Q E, sp_w_kept K a vs H Q E → vs.length = 2 := fun _ _ _ _ ⟨_, _, _, e, _⟩ => by rw [e]; rfl
theorem e_mkeys {σ : L2.St} {te : TE} {g : GS} {M : MA} (h : EV te σ H (Is (.ref M.d))) (G : MAt g M H) (ok : GOk g) : EV (tCB (rSortedDI) (tCons (tDGet te (tC (.str ("facts" : Str)))) tNil)) σ H (NL H (sortI (keysA g.facts))) :=
  e_sortedDI (e_mfa h G) G.fa (by have := ok.lenF; omega)
theorem e_without {σ : L2.St} {te tw : TE} {g : GS} {M : MA} {wo : List Int} (h : EV te σ H (Is (.ref M.d))) (hw : EV tw σ H (Ls wo)) (G : MAt g M H) (ok : GOk g) : EV (tCall (sp_w_without K a) [] E0 (tCons te (tCons tw tNil))) σ H (NL H (lessOf g wo)) :=
  e_call2 (P1 := Is (.ref M.d)) (P2 := Ls wo) h hw fun x y H1 e p1 p2 Q q => ⟨g, M, wo, y, by rw [p1], G.ex e, ok, p2, fun r H2 e2 n => q r H2 e2 (n.back e)⟩
theorem p_w_kept (T : ClT K a) (h : sp_w_kept K a vs H Q E) : t_w_kept K a (FinQ Q) (start ["_law_m", "_law_known_here", "_law_out", "_law_number"] vs) H := by
  obtain ⟨g, M, v1, rfl, G, ok, p1, k⟩ := h
  refine q_set (e_nil (α := Int)) fun v2 H2 e2 p2 => ?_
  obtain ⟨lo, uo, rfl, ho0, ho1, huo⟩ := p2
  have hkl := keys_len ok
  refine q_for (α := Int) (xs := sortI (keysA g.facts)) (P := NL H2 (sortI (keysA g.facts))) (e_mkeys e_is (G.ex e2) ok) (fun _ _ p => p.ls)
    (fun H3 v3 pre σ' H' => ∃ (n3 : Option V), σ' = [some (.ref M.d), some v1, some (.ref lo), n3] ∧ Ex H H' ∧ Ls (sortI (keysA g.facts)) v3 H' ∧ v3 ≠ .ref lo ∧ Ls (outOf g pre) (.ref lo) H') ?_ ?_ ?_ ?_
  · intro v3 H3 e3 p3
    refine ⟨none, rfl, e2.trans e3, p3.ls, fun z => ?_, Ls.ex ⟨lo, uo, rfl, ho1, huo⟩ e3⟩
    obtain ⟨l, us, e, h0, _⟩ := p3
    rw [z] at e
    cases e
    rw [ho1] at h0
    cases h0
  · rintro v3 H3 pre σ' H' e3 p3 ⟨n3, rfl, e4, q1, q2, q3⟩
    exact q1
  · rintro v3 H3 pre n post w σ' H' e3 p3 hsp ⟨n3, rfl, e4, q1, q2, q3⟩ dw
    cases dw.is_int
    have hpl : pre.length ≤ 60 := by rw [hsp, List.length_append] at hkl; omega
    have hol := outOf_len g pre
    have G4 := G.ex e4
    refine run_gN ?_
    have hcat : EV (tOp rCat (tVar 2) (tLst (tCons (tVar 3) tNil))) [some (.ref M.d), some v1, some (.ref lo), some (.int n)] H' (NL H' (outOf g pre ++ [n])) := e_cat (e_var q3) (e_l1 (e_intC n)).ls (by simp; omega)
    refine s_if (b_eqL (α := PairT) (e_without (K := K) (a := a) (te := tVar 0) e_is hcat.ls G4 ok).ls (e_var (P := Ls g.pairs) (p1.ex e4))) (fun c H5 e5 => ?_) fun c H5 e5 => ?_
    · have hc := of_decide_eq_true c
      refine s_App (α := Int) (x := n) e_is (e_intC n) (q3.ex e5) (by omega) fun H6 H7 e6 c7 s7 h7 => ?_
      have e15 := e4.trans (e5.trans e6)
      refine ⟨_, rfl, c7.exB e15 (by simp [ho0]), ?_, q2, ?_⟩
      · obtain ⟨l, us, rfl, a1, a2⟩ := q1.ex (e5.trans e6)
        have q : Ls (sortI (keysA g.facts)) (.ref l) H6 := ⟨l, us, rfl, a1, a2⟩
        exact q.chg c7 (by simp; exact fun z => q2 (by rw [z]))
      · rw [outOf_snoc, if_pos hc]; exact h7
    · refine ⟨_, rfl, e4.trans e5, q1.ex e5, q2, ?_⟩
      rw [outOf_snoc, if_neg (of_decide_eq_false c)]
      exact q3.ex e5
  · rintro v3 H3 σ' H' e3 p3 ⟨n3, rfl, e4, q1, q2, q3⟩
    have G4 := G.ex e4
    refine s_ret (P := NL H' (keptOf g)) ?_ fun x H5 e5 p5 => k x H5 (e4.trans e5) (p5.back e4)
    have h1 := e_lc (K := K) (α := Int) (β := Int) (j := 3) (vs := [3]) (tt := tTest (tOp (rNotInD K) (tVar 3) (tVar 2))) (te := tVar 3) (σ := [some (.ref M.d), some v1, some (.ref lo), n3]) (fun t => t) (fun n => !memB n (outOf g (sortI (keysA g.facts)))) (e_mkeys (te := tVar 0) e_is G4 ok).ls (by omega) (fun _ => rfl)
      (fun n y H5 hn e d => b_notin (α := Int) (e_var d) (e_var (P := Ls (outOf g (sortI (keysA g.facts)))) (q3.ex e))) (fun x y H5 _ _ _ d => e_var d)
    rwa [List.map_id'] at h1
end
end TK

/-! TkRules6: sorted of pairs of texts. -/
namespace SrtO
open PySem PyProof.Rows Srt
def lexS (p q : PySem.Str × PySem.Str) : Bool := if p.1 = q.1 then decide (p.2.cps.toList < q.2.cps.toList) else decide (p.1.cps.toList < q.1.cps.toList)
theorem lexS_no {p q : PySem.Str × PySem.Str} : lexS p q = false ↔ (q.1.cps.toList < p.1.cps.toList ∨ (p.1 = q.1 ∧ q.2.cps.toList ≤ p.2.cps.toList)) := by
  unfold lexS
  by_cases e : p.1 = q.1
  · rw [if_pos e, decide_eq_false_iff_not, List.not_lt]
    constructor
    · exact fun h => Or.inr ⟨e, h⟩
    · rintro (h | h)
      · rw [e] at h; exact absurd h (List.lt_irrefl _)
      · exact h.2
  · rw [if_neg e, decide_eq_false_iff_not, List.not_lt]
    constructor
    · intro h
      rcases List.le_iff_lt_or_eq.mp h with q | q
      · exact Or.inl q
      · exact absurd (TK.str_ext q).symm e
    · rintro (h | h)
      · exact List.le_of_lt h
      · exact absurd h.1 e
theorem lexS_yes {p q : PySem.Str × PySem.Str} : lexS p q = true ↔ (p.1.cps.toList < q.1.cps.toList ∨ (p.1 = q.1 ∧ p.2.cps.toList < q.2.cps.toList)) := by
  unfold lexS
  by_cases e : p.1 = q.1
  · rw [if_pos e, decide_eq_true_iff]
    constructor
    · exact fun h => Or.inr ⟨e, h⟩
    · rintro (h | h)
      · rw [e] at h; exact absurd h (List.lt_irrefl _)
      · exact h.2
  · rw [if_neg e, decide_eq_true_iff]
    constructor
    · exact fun h => Or.inl h
    · rintro (h | h)
      · exact h
      · exact absurd h.1 e
theorem swo_lexS {α : Type} (k : α → PySem.Str × PySem.Str) : Swo fun v u => lexS (k v) (k u) := by
  refine ⟨fun x y h => ?_, fun x y z h1 h2 => ?_⟩
  · have a := lexS_yes.mp h
    refine lexS_no.mpr ?_
    rcases a with a | ⟨a, b⟩
    · exact Or.inl a
    · exact Or.inr ⟨a.symm, List.le_of_lt b⟩
  · have a := lexS_no.mp h1
    have b := lexS_no.mp h2
    refine lexS_no.mpr ?_
    rcases a with a | ⟨a, a'⟩
    · rcases b with b | ⟨b, b'⟩
      · exact Or.inl (List.lt_trans a b)
      · exact Or.inl (by rw [b]; exact a)
    · rcases b with b | ⟨b, b'⟩
      · exact Or.inl (by rw [← a]; exact b)
      · exact Or.inr ⟨b.trans a, List.le_trans a' b'⟩
def IsPairS (h : Heap) (v : Value) (x y : PySem.Str) : Prop := ∃ a o t u n, v = .ref a ∧ h.get? a = some o ∧ o.cls = .type "tuple" ∧ o.data = .seq #[.str x t, .str y u] n
theorem IsPairS.keeps {h h' : Heap} {v : Value} {x y : PySem.Str} (p : IsPairS h v x y) (k : ∀ b o, h.get? b = some o → o.cls = .type "tuple" → h'.get? b = some o) : IsPairS h' v x y := by
  obtain ⟨a, o, t, u, n, e, ho, hc, hd⟩ := p
  exact ⟨a, o, t, u, n, e, k _ _ ho hc, hc, hd⟩
section
variable {prog : Program} {w : World} {A : Around} {s : Shared}
theorem pairS_cmp {vs : List Value} {k : Value → PySem.Str × PySem.Str} (hp : ∀ v ∈ vs, IsPairS s.heap v (k v).1 (k v).2) : Cmp prog w A s (tuples' true) (fun p => p.1 ∈ vs) (lt2 fun v u => lexS (k v) (k u)) := by
  intro p q hm hm'
  have h1 := hp _ hm
  have h2 := hp _ hm'
  show wpAny (model prog w) A (keyLt' (tuples' true) p.1 q.1) (fun r s' => s' = s ∧ r = lexS (k p.1) (k q.1)) (fun _ _ => False) s
  unfold lexS
  generalize (k p.1).1 = x at h1 ⊢
  generalize (k p.1).2 = y at h1 ⊢
  generalize (k q.1).1 = x' at h2 ⊢
  generalize (k q.1).2 = y' at h2 ⊢
  obtain ⟨a, o, t, u, n, e, ho, hc, hd⟩ := h1
  obtain ⟨a', o', t', u', n', e', ho', hc', hd'⟩ := h2
  rw [e, e']
  refine PySem.W.kat_lt ho hd ho' hd' ?_
  show PySem.W.KatLex prog w A true (decide (2 < 2)) _ [(.str x t, .str x' t'), (.str y u, .str y' u')] 0 s
  refine PySem.W.kat_cons (SeqAt.EqAt.str_str x t x' t' prog w _ _ ?_)
  refine PySem.W.kat_go (fun e1 => ?_) (fun e1 => ?_)
  · have ex : x = x' := by simpa using e1
    refine PySem.W.kat_yes (PySem.W.kat_cons (SeqAt.EqAt.str_str y u y' u' prog w _ _ ?_))
    refine PySem.W.kat_go (fun e2 => ?_) (fun e2 => ?_)
    · have ey : y = y' := by simpa using e2
      have e3 : (if x = x' then decide (y.cps.toList < y'.cps.toList) else decide (x.cps.toList < x'.cps.toList)) = false := by
        rw [if_pos ex, ey]
        exact decide_eq_false (List.lt_irrefl _)
      exact PySem.W.kat_yes (PySem.W.kat_nil ⟨rfl, e3.symm⟩)
    · have e3 : (if x = x' then decide (y.cps.toList < y'.cps.toList) else decide (x.cps.toList < x'.cps.toList)) = decide (y.cps.toList < y'.cps.toList) := if_pos ex
      refine PySem.W.kat_no (PySem.W.kat_one _ _ (PyProof.Rows.lt_str ?_))
      exact (show s = s ∧ decide (y.cps.toList < y'.cps.toList) = (if x = x' then decide (y.cps.toList < y'.cps.toList) else decide (x.cps.toList < x'.cps.toList)) from ⟨rfl, e3.symm⟩)
  · have ex : ¬ x = x' := by simpa using e1
    have e3 : (if x = x' then decide (y.cps.toList < y'.cps.toList) else decide (x.cps.toList < x'.cps.toList)) = decide (x.cps.toList < x'.cps.toList) := if_neg ex
    exact PySem.W.kat_no (oneLt_str ⟨rfl, e3.symm⟩)
theorem firstsS {h : Heap} : ∀ {vs : List Value}, (∀ v ∈ vs, ∃ x y, IsPairS h v x y) → ∃ fs : List Value, PySem.W.KatTups h vs fs ∧ fs.length = vs.length ∧ ∀ f ∈ fs, ∃ x t, f = Value.str x t
  | [], _ => ⟨[], PySem.W.KatTups.nil, rfl, fun _ hm => by simp at hm⟩
  | v :: vs, hp => by
    obtain ⟨fs, h1, h2, h3⟩ := firstsS (vs := vs) fun v' hm => hp v' (List.mem_cons_of_mem _ hm)
    obtain ⟨x, y, a, o, t, u, n, e, ho, hc, hd⟩ := hp v (List.mem_cons_self ..)
    subst e
    refine ⟨.str x t :: fs, PySem.W.KatTups.cons ho hc hd rfl h1, by rw [List.length_cons, List.length_cons, h2], fun f hm => ?_⟩
    rcases List.mem_cons.mp hm with rfl | hm
    · exact ⟨x, t, rfl⟩
    · exact h3 f hm
theorem pairsS_sortable {a : Addr} {vs : List Value} {k : Value → PySem.Str × PySem.Str} (h0 : 0 < vs.length) (hp : ∀ v ∈ vs, IsPairS s.heap v (k v).1 (k v).2) (ha : ∀ o, s.heap.get? a = some o → o.cls ≠ .type "tuple") : SortableO prog w A s a vs fun v u => lexS (k v) (k u) := by
  intro h' keep
  have hp' : ∀ v ∈ vs, IsPairS h' v (k v).1 (k v).2 := fun v hm => (hp v hm).keeps fun b o e c => keep b o (fun z => by subst z; exact ha o e c) e
  obtain ⟨fs, h1, h2, h3⟩ := firstsS fun v hm => ⟨_, _, hp' v hm⟩
  refine ⟨tuples' true, fun Q E hq => ?_, pairS_cmp hp'⟩
  refine PySem.W.kat_kind (T := .type "str") h1 (by omega) (fun f hm => ?_) (by rfl) ?_
  · obtain ⟨x, t, rfl⟩ := h3 f hm
    exact PySem.W.Looks.now
  · have e : (Value.type "str" != Value.type "tuple") = true := by first | decide +kernel | rfl | decide
    rw [e]
    exact hq
theorem sorted_pairsS {l : Addr} {vs : List Value} {k : Value → PySem.Str × PySem.Str} {Q : Value → Shared → Prop} {E : Value → Shared → Prop} (hl : s.heap.IsList l vs.toArray) (hz : vs.length ≤ sizeLine) (hp : ∀ v ∈ vs, IsPairS s.heap v (k v).1 (k v).2)
    (h : ∀ (h' : Heap) (d : Addr) (out : List Value), Srtd (fun v u => lexS (k v) (k u)) out → Stb (fun v u => lexS (k v) (k u)) out vs → (∀ b o, s.heap.get? b = some o → h'.get? b = some o) → s.heap.objs.size ≤ d → (∃ n, h'.get? d = some (seqObj "list" out.toArray n)) → Q (.ref d) { s with heap := h' }) :
    wpAny (model prog w) A (call (.builtin "sorted") [.ref l]) Q E s := by
  refine sorted_ord (swo_lexS k) hl hz (fun h2 h₁ a ha kk => ?_) fun out hs hb => ?_
  · refine pairsS_sortable (s := { s with heap := h₁ }) (by omega) (fun v hm => (hp v hm).keeps fun b o e _ => (kk b o e).2) fun o e => ?_
    have e' : some o = some (seqObj "list" vs.toArray 0) := e.symm.trans ha
    cases e'
    intro c
    exact absurd (Value.type.inj c) (by decide)
  · exact h _ _ out hs hb (fun b o e => sortedAll_old e) (Nat.le_succ _) (sortedAll_at s.heap vs out.toArray)
end
end SrtO
namespace L2
open PySem PySem.Spec PyProof.Rows
abbrev ltS (k : V → Str × Str) (x y : V) : Bool := SrtO.lexS (k x) (k y)
/-- sorted(xs), xs a list of pairs of texts (k says which) -/
def rSortedTh (K : PySem.W.Frag) : List V → Hp → VK → Prop := fun vs H Q => ∃ (a : Addr) (xs : List V) (k : V → Str × Str), vs = [V.ref a] ∧ SqL K H a xs ∧ (∀ x ∈ xs, ∃ t, x = V.ref t ∧ H t = some (.tup [.str (k x).1, .str (k x).2])) ∧
  ∀ ys p, SrtO.Srtd (ltS k) ys → ys.Perm xs → H p = none → Q (.ref p) (upd H p (.lst ys))
section
variable {X : Cx}
theorem cr_sortedTh : CallR X (.builtin "sorted") (rSortedTh X.K) := by
  intro pins s σ H vs us Q I r h
  obtain ⟨a, xs, k, rfl, hs, hx, q⟩ := h
  obtain ⟨its, rv, hl, hz⟩ := I.list hs
  obtain ⟨u, rfl, ru⟩ := vals1 r
  obtain rfl : u = Value.ref a := ru
  obtain ⟨e1, e2⟩ := refs_back rv fun x m => by
    obtain ⟨t, e, _⟩ := hx x m
    exact ⟨t, e⟩
  refine SrtO.sorted_pairsS (k := fun u => k (backV u)) hl.isList (by rw [← rv.length]; exact hz) (fun v hv => ?_) fun h' d out h1 h2 kp hd hn => ?_
  · obtain ⟨t, rfl⟩ := e2 v hv
    have hm : V.ref t ∈ xs := by rw [e1]; exact List.mem_map.mpr ⟨_, hv, rfl⟩
    obtain ⟨t', e, ht⟩ := hx _ hm
    cases e
    obtain ⟨_, its2, r2, o, ho, hc, n, hd⟩ := I.hok _ _ ht
    obtain ⟨u1, u2, rfl, ri, rj⟩ := vals2 r2
    obtain ⟨t1, rfl⟩ := ri
    obtain ⟨t2, rfl⟩ := rj
    exact ⟨t, o, t1, t2, n, rfl, ho, hc, hd⟩
  · have h3 : ∀ u ∈ out, ∃ a, u = Value.ref a := fun u hu => e2 u (h2.perm.mem_iff.mp hu)
    obtain ⟨n, hn⟩ := hn
    have hb : (out.map backV).Perm xs := by
      rw [e1]
      exact h2.perm.map backV
    refine ⟨.ref d, upd H d (.lst (out.map backV)), I.laid (t' := s.toks) kp hd ⟨?_, out, n, vals_back h3, hn⟩, rfl, q _ d (SrtO.srtd_map h1) hb (I.hok.fresh hd)⟩
    rw [hb.length_eq]
    exact hz
end
end L2
namespace TK
open PySem L2
open Enc (enc)
def leT (a b : Thing) : Bool := !SrtO.lexS (b.1.s, b.2.s) (a.1.s, a.2.s)
def sortT (ts : List Thing) : List Thing := ts.mergeSort leT
theorem leT_anti {a b : Thing} (h1 : leT a b = true) (h2 : leT b a = true) : a = b := by
  unfold leT at h1 h2
  rw [Bool.not_eq_true', SrtO.lexS_no] at h1 h2
  dsimp only at h1 h2
  rcases h1 with h1 | ⟨h1, h1'⟩
  · rcases h2 with h2 | ⟨h2, h2'⟩
    · exact absurd (List.lt_trans h1 h2) (List.lt_irrefl _)
    · rw [h2] at h1; exact absurd h1 (List.lt_irrefl _)
  · rcases h2 with h2 | ⟨h2, h2'⟩
    · rw [h1] at h2; exact absurd h2 (List.lt_irrefl _)
    · exact Prod.ext (Nm.ext' h2) (Nm.ext' (str_ext (List.le_antisymm h1' h2')))
theorem leT_swo : SrtO.Swo (fun a b : Thing => SrtO.lexS (a.1.s, a.2.s) (b.1.s, b.2.s)) := SrtO.swo_lexS fun t : Thing => (t.1.s, t.2.s)
theorem sortT_perm (ts : List Thing) : (sortT ts).Perm ts := List.mergeSort_perm ts _
theorem sortT_pw (ts : List Thing) : (sortT ts).Pairwise (fun a b => leT a b = true) := by
  refine List.pairwise_mergeSort (le := leT) (fun a b c h1 h2 => ?_) (fun a b => ?_) ts
  · unfold leT at h1 h2 ⊢
    rw [Bool.not_eq_true'] at h1 h2 ⊢
    exact leT_swo.tr a b c h1 h2
  · unfold leT
    cases h : SrtO.lexS (b.1.s, b.2.s) (a.1.s, a.2.s) with
    | false => rfl
    | true =>
      have := leT_swo.asym b a h
      rw [this]; rfl
theorem sortT_is {ts ys : List Thing} (p : ys.Perm ts) (h : ys.Pairwise (fun a b => leT a b = true)) : ys = sortT ts :=
  List.Perm.eq_of_pairwise (fun a b _ _ x y => leT_anti x y) h (sortT_pw ts) (p.trans (sortT_perm ts).symm)
theorem tda_pair {H : Hp} : ∀ {vs : List V} {ts : List Thing}, TdA H vs (ts.map enc) → ∀ {ys : List V}, ys.Perm vs → ∃ us : List Thing, us.Perm ts ∧ TdA H ys (us.map enc) := by
  intro vs ts h ys p
  have z := tda_len h
  rw [List.length_map] at z
  -- by a permutation of the zip
  have hz : ∃ ps : List (V × Thing), vs = ps.map (·.1) ∧ ts = ps.map (·.2) ∧ ∀ q ∈ ps, Td H q.1 (enc q.2) := by
    clear p z ys
    induction ts generalizing vs with
    | nil => cases h; exact ⟨[], rfl, rfl, by simp⟩
    | cons t ts ih =>
      cases h with
      | cons a b =>
        obtain ⟨ps, h1, h2, h3⟩ := ih b
        refine ⟨(_, t) :: ps, by rw [List.map_cons, ← h1], by rw [List.map_cons, ← h2], fun q hq => ?_⟩
        rcases List.mem_cons.mp hq with e | e
        · subst e; exact a
        · exact h3 q e
  obtain ⟨ps, h1, h2, h3⟩ := hz
  subst h1
  subst h2
  have key : ∀ {ys zs : List V}, ys.Perm zs → ∀ ps : List (V × Thing), zs = ps.map (·.1) → ∃ qs : List (V × Thing), ys = qs.map (·.1) ∧ qs.Perm ps := by
    intro ys zs p
    induction p with
    | nil => intro ps e; exact ⟨ps, e, List.Perm.refl _⟩
    | @cons x l1 l2 p ih =>
      intro ps e
      cases ps with
      | nil => cases e
      | cons q ps =>
        rw [List.map_cons] at e
        injection e with e1 e2
        obtain ⟨qs, a, b⟩ := ih ps e2
        exact ⟨q :: qs, by rw [List.map_cons, ← a, e1], b.cons q⟩
    | swap x y l =>
      intro ps e
      match ps, e with
      | q1 :: q2 :: ps, e =>
        rw [List.map_cons, List.map_cons] at e
        injection e with e1 e2
        injection e2 with e2 e3
        exact ⟨q2 :: q1 :: ps, by rw [List.map_cons, List.map_cons, ← e1, ← e2, ← e3], List.Perm.swap _ _ _⟩
    | trans p1 p2 ih1 ih2 =>
      intro ps e
      obtain ⟨qs, a, b⟩ := ih2 ps e
      obtain ⟨rs, c, d⟩ := ih1 qs a
      exact ⟨rs, c, d.trans b⟩
  obtain ⟨qs, a, b⟩ := key p ps rfl
  refine ⟨qs.map (·.2), b.map _, ?_⟩
  rw [a]
  have h4 : ∀ q ∈ qs, Td H q.1 (enc q.2) := fun q hq => h3 q (b.mem_iff.mp hq)
  clear a b p h3 z h key
  induction qs with
  | nil => exact .nil
  | cons q qs ih => exact .cons (h4 q (by simp)) (ih fun r hr => h4 r (by simp [hr]))
section
variable {K : PySem.W.Frag} {H : Hp} {σ : St} {te : TE}
/-- what a tracked pair of texts tells -/
noncomputable def keyV (H : Hp) (v : V) : Str × Str := match v with
  | .ref t => match H t with
    | some (.tup [.str x, .str y]) => (x, y)
    | _ => ("", "")
  | _ => ("", "")
theorem keyV_thing {t : Thing} {v : V} {H : Hp} (h : D t v H) : ∃ b, v = .ref b ∧ H b = some (.tup [.str t.1.s, .str t.2.s]) ∧ keyV H v = (t.1.s, t.2.s) := by
  obtain ⟨b, rfl, hb⟩ := h.key
  have hb' : H b = some (.tup [.str t.1.s, .str t.2.s]) := hb
  refine ⟨b, rfl, hb', ?_⟩
  unfold keyV
  dsimp only
  rw [hb']
theorem srtd_things {H : Hp} : ∀ {ys : List V} {us : List Thing}, TdA H ys (us.map enc) → SrtO.Srtd (ltS (keyV H)) ys → us.Pairwise (fun a b => leT a b = true)
  | _, [], _, _ => List.Pairwise.nil
  | _, u :: us, .cons a b, h => by
    have h' := List.pairwise_cons.mp h
    refine List.pairwise_cons.mpr ⟨fun w hw => ?_, srtd_things b h'.2⟩
    obtain ⟨i, hi⟩ := List.getElem?_of_mem hw
    obtain ⟨v, hv, hd⟩ := tda_at (i := i) b (by rw [List.getElem?_map, hi]; rfl)
    have := h'.1 v (List.mem_of_getElem? hv)
    obtain ⟨_, _, _, k1⟩ := keyV_thing (t := u) a
    obtain ⟨_, _, _, k2⟩ := keyV_thing (t := w) hd
    unfold leT
    rw [Bool.not_eq_true']
    have h2 : SrtO.lexS (keyV H v) (keyV H _) = false := this
    rw [k1, k2] at h2
    exact h2
theorem e_sortedTh {ts : List Thing} (h : EV te σ H (Ls ts)) : EV (tCB (rSortedTh K) (tCons te tNil)) σ H (NL H (sortT ts)) := fun H1 e Q q =>
  h H1 e _ fun v H2 e2 p => by
    obtain ⟨l, us, rfl, hp, ha⟩ := p
    refine ⟨l, us, keyV H2, rfl, sq_of hp, fun x hx => ?_, fun ys d so pm hd => ?_⟩
    · obtain ⟨i, hi⟩ := List.getElem?_of_mem hx
      obtain ⟨dd, hd, ht⟩ := tda_get ha hi
      rw [List.getElem?_map] at hd
      cases hts : ts[i]? with
      | none => rw [hts] at hd; cases hd
      | some t =>
        rw [hts] at hd
        have : enc t = dd := Option.some.inj hd
        subst this
        obtain ⟨b, e1, e2, e3⟩ := keyV_thing (t := t) ht
        exact ⟨b, e1, by rw [e3]; exact e2⟩
    · obtain ⟨us', p1, p2⟩ := tda_pair ha pm
      rw [sortT_is p1 (srtd_things p2 so)] at p2
      exact q _ _ (e2.trans (Ex.new hd)) ⟨d, ys, rfl, e.free (e2.free hd), upd_same, tda_t (Ex.new hd).t _ p2⟩
end
end TK

/-! TkX04: orders of all things. -/
namespace TK
open PySem L2 PySem.Spec PyProof.Rows
open Enc (enc)
structure OrdOk (things : List Thing) (pairs : List PairT) (o : List Thing) : Prop where
  pm : o.Perm things
  ok : o.Pairwise fun x y => (y, x) ∉ pairs
structure PrOk (things : List Thing) (pairs : List PairT) : Prop where
  nd : things.Nodup
  mem : ∀ p ∈ pairs, p.1 ∈ things ∧ p.2 ∈ things
  rk : ∃ r : Thing → Nat, ∀ p ∈ pairs, r p.1 < r p.2
  lt : things.length ≤ 100
  lp : pairs.length ≤ 10000
structure DlAt (f : Thing → List Thing) (things : List Thing) (Hb H : Hp) (d : Addr) : Prop where
  ex : ∃ ls : List Addr, H d = some (.dT (netD things ls)) ∧ ls.length = things.length ∧ ls.Nodup ∧ (∀ (i : Nat) (t : Thing) (l : Addr), things[i]? = some t → ls[i]? = some l → Ls (f t) (.ref l) H) ∧ Hb d = none ∧ ∀ l ∈ ls, Hb l = none
theorem DlAt.ex' {f : Thing → List Thing} {things : List Thing} {Hb H H' : Hp} {d : Addr} (h : DlAt f things Hb H d) (e : Ex H H') : DlAt f things Hb H' d :=
  let ⟨ls, h1, h2, h3, h4, h5, h6⟩ := h.ex
  ⟨ls, e _ _ h1, h2, h3, fun i t l a b => (h4 i t l a b).ex e, h5, h6⟩
def aheadOf (pairs : List PairT) (t : Thing) : List Thing := (pairs.filter fun p => decide (p.2 = t)).map (·.1)
theorem aheadOf_snoc (pre : List PairT) (p : PairT) (t : Thing) : aheadOf (pre ++ [p]) t = aheadOf pre t ++ if p.2 = t then [p.1] else [] := by
  unfold aheadOf
  rw [List.filter_append, List.map_append]
  congr 1
  by_cases h : p.2 = t
  · rw [List.filter_cons_of_pos (by simpa using h), if_pos h]; rfl
  · rw [List.filter_cons_of_neg (by simpa using h), if_neg h]; rfl
theorem aheadOf_mem {pairs : List PairT} {x t : Thing} : x ∈ aheadOf pairs t ↔ (x, t) ∈ pairs := by
  unfold aheadOf
  simp only [List.mem_map, List.mem_filter, decide_eq_true_eq]
  constructor
  · rintro ⟨p, ⟨h1, rfl⟩, rfl⟩; exact h1
  · exact fun h => ⟨(x, t), ⟨h, rfl⟩, rfl⟩
theorem aheadOf_len (pairs : List PairT) (t : Thing) : (aheadOf pairs t).length ≤ pairs.length := by
  unfold aheadOf
  rw [List.length_map]
  exact List.length_filter_le _ _
/-- two neighbours that may change places -/
def LooseP (o : List Thing) (pairs : List PairT) (k : Int) : Prop :=
  (k = -1 ∧ ∀ (i : Nat) x y, o[i]? = some x → o[i + 1]? = some y → (x, y) ∈ pairs) ∨ ∃ l1 x y l2, o = l1 ++ x :: y :: l2 ∧ k = (l1.length : Int) ∧ (x, y) ∉ pairs
def sp_sooner (K : PySem.W.Frag) (a : Ad) : Sp := fun vs H Q _ => ∃ (things : List Thing) (pairs : List PairT) (v w : V), vs = [v, w] ∧ Ls things v H ∧ Ls pairs w H ∧ things.Nodup ∧ (∀ p ∈ pairs, p.2 ∈ things) ∧ things.length ≤ 1000 ∧ pairs.length ≤ 10000 ∧
  ∀ d H', Ex H H' → DlAt (aheadOf pairs) things H H' d → Q (.ref d) H'
def sp_first_order (K : PySem.W.Frag) (a : Ad) : Sp := fun vs H Q _ => ∃ (things : List Thing) (pairs : List PairT) (v w : V), vs = [v, w] ∧ Ls things v H ∧ Ls pairs w H ∧ PrOk things pairs ∧ ∀ o x H', OrdOk things pairs o → Ex H H' → NL H o x H' → Q x H'
def sp_loose_place (K : PySem.W.Frag) (a : Ad) : Sp := fun vs H Q _ => ∃ (o : List Thing) (pairs : List PairT) (v w : V), vs = [v, w] ∧ Ls o v H ∧ Ls pairs w H ∧ o.length ≤ 100 ∧ ∀ k H', LooseP o pairs k → Ex H H' → Q (.int k) H'
def sp_exchanged (K : PySem.W.Frag) (a : Ad) : Sp := fun vs H Q _ => ∃ (l1 : List Thing) (x y : Thing) (l2 : List Thing) (v : V), vs = [v, .int (l1.length : Int)] ∧ Ls (l1 ++ x :: y :: l2) v H ∧ (l1 ++ x :: y :: l2).length ≤ 100 ∧ ∀ r H', Ex H H' → NL H (l1 ++ y :: x :: l2) r H' → Q r H'
/-- what order() tells -/
def OrdAns (g : GS) (H : Hp) (t : Addr) (H' : Hp) : Prop :=
  (∃ o l, H' t = some (.tup [.str ("one" : Str), .ref l]) ∧ OrdOk g.things g.pairs o ∧ (∀ (i : Nat) x y, o[i]? = some x → o[i + 1]? = some y → (x, y) ∈ g.pairs) ∧ NL H o (.ref l) H') ∨
  (∃ l1 x y l2 la lb, H' t = some (.tup [.str ("parted" : Str), .ref la, .ref lb]) ∧ OrdOk g.things g.pairs (l1 ++ x :: y :: l2) ∧ (x, y) ∉ g.pairs ∧ NL H (l1 ++ x :: y :: l2) (.ref la) H' ∧ NL H (l1 ++ y :: x :: l2) (.ref lb) H' ∧ la ≠ lb)
def sp_Ground_order (K : PySem.W.Frag) (a : Ad) : Sp := fun vs H Q _ => ∃ (g : GS) (A : GA), vs = [.ref A.p] ∧ GrAt a.cGround g A H ∧ GOk g ∧ ∀ t H', Ex H H' → H t = none → OrdAns g H t H' → Q (.ref t) H'
def t_sooner (K : PySem.W.Frag) (a : Ad) : TS :=
  (tSeq (tAsg tDNewT (gName 2)) (tSeq (tFor (iList K (tVar 0)) (gName 3) (sDPut (tVar 2) (tVar 3) (tLst tNil))) (tSeq (tFor (iList K (tVar 1)) (gTup K 2 (gCons (gName 4) (gCons (gName 5) gNil))) (tDrop (tBM K "list" (rAppend) (tDGet (tVar 2) (tVar 5)) (tCons (tVar 4) tNil)))) (tRet (tVar 2)))))
def t_first_order (K : PySem.W.Frag) (a : Ad) : TS :=
  (tSeq (tAsg (tCall (sp_sooner K a) [] E0 (tCons (tVar 0) (tCons (tVar 1) tNil))) (gName 2)) (tSeq (tAsg (tLst tNil) (gName 3)) (tSeq (tWhile (tTest (tOp (rI0 fun i j => .bl (decide (i < j))) (tCB (rLen K) (tCons (tVar 3) tNil)) (tCB (rLen K) (tCons (tVar 0) tNil)))) (tFor (iList K (tVar 0)) (gName 4) (tIfS (tAnd (tTest (tOp (rNotInD K) (tVar 4) (tVar 3))) (tTest (tOp (rEqD K) (tLc (iList K (tDGet (tVar 2) (tVar 4))) (gName 5) (tTest (tOp (rNotInD K) (tVar 5) (tVar 3))) (tVar 5) [5]) (tLst tNil)))) (tSeq (tDrop (tBM K "list" (rAppend) (tVar 3) (tCons (tVar 4) tNil))) tBreak) tNext))) (tRet (tVar 3)))))
def t_loose_place (K : PySem.W.Frag) (a : Ad) : TS :=
  (tSeq (tFor (iRng1 (tCons (tOp (rI0 fun i j => .int (i - j)) (tCB (rLen K) (tCons (tVar 0) tNil)) (tC (.int 1))) tNil)) (gName 2) (tIfS (tTest (tOp (rNotInD K) (tTup (tCons (tOp (rIxL K) (tVar 0) (tVar 2)) (tCons (tOp (rIxL K) (tVar 0) (tOp (rI0 fun i j => .int (i + j)) (tVar 2) (tC (.int 1)))) tNil))) (tVar 1))) (tRet (tVar 2)) tNext)) (tRet (tUn (rU fun i => .int (-i)) (tC (.int 1)))))
def t_exchanged (K : PySem.W.Frag) (a : Ad) : TS :=
  (tRet (tOp rCat (tOp rCat (tSl (rSlL K) (tVar 0) tNo (tSome (tVar 1))) (tLst (tCons (tOp (rIxL K) (tVar 0) (tOp (rI0 fun i j => .int (i + j)) (tVar 1) (tC (.int 1)))) (tCons (tOp (rIxL K) (tVar 0) (tVar 1)) tNil)))) (tSl (rSlL K) (tVar 0) (tSome (tOp (rI0 fun i j => .int (i + j)) (tVar 1) (tC (.int 2)))) tNo)))
def t_Ground_order (K : PySem.W.Frag) (a : Ad) : TS :=
  (tSeq (tAsg (tMeth a.cGround "pairs" (sp_Ground_pairs K a) [] E0 (tVar 0) tNil) (gName 1)) (tSeq (tAsg (tCall (sp_first_order K a) [] E0 (tCons (tMeth a.cGround "things" (sp_Ground_things K a) [] E0 (tVar 0) tNil) (tCons (tVar 1) tNil))) (gName 2)) (tSeq (tAsg (tCall (sp_loose_place K a) [] E0 (tCons (tVar 2) (tCons (tVar 1) tNil))) (gName 3)) (tSeq (tIfS (tTest (tOp (rI0 fun i j => .bl (decide (i < j))) (tVar 3) (tC (.int 0)))) (tRet (tTup (tCons (tC (.str ("one" : Str))) (tCons (tVar 2) tNil)))) tNext) (tRet (tTup (tCons (tC (.str ("parted" : Str))) (tCons (tVar 2) (tCons (tCall (sp_exchanged K a) [] E0 (tCons (tVar 2) (tCons (tVar 3) tNil))) tNil)))))))))

section
variable {K : PySem.W.Frag} {a : Ad} {vs : List V} {H H' : Hp} {Q : VK} {E : XK}
theorem nd_inj {α : Type} {xs : List α} (nd : xs.Nodup) {i j : Nat} {x : α} (hi : xs[i]? = some x) (hj : xs[j]? = some x) : i = j := by
  obtain ⟨h1, e1⟩ := List.getElem?_eq_some_iff.mp hi
  obtain ⟨h2, e2⟩ := List.getElem?_eq_some_iff.mp hj
  have p := List.pairwise_iff_getElem.mp nd
  rcases Nat.lt_trichotomy i j with h | h | h
  · exact absurd (e1.trans e2.symm) (p i j h1 h2 h)
  · exact h
  · exact absurd (e2.trans e1.symm) (p j i h2 h1 h)
theorem len_sooner (K : PySem.W.Frag) (a : Ad) : ∀ vs H Q E, sp_sooner K a vs H Q E → vs.length = 2 := fun _ _ _ _ ⟨_, _, _, _, e, _⟩ => by rw [e]; rfl
theorem p_sooner (T : ClT K a) (h : sp_sooner K a vs H Q E) : t_sooner K a (FinQ Q) (start ["things", "pairs", "found", "thing", "one", "other"] vs) H := by
  obtain ⟨things, pairs, v, w, rfl, hv, hw, nd, hm, hz, hzp, k⟩ := h
  refine q_set e_dnewT fun vd H1 e1 ⟨d, rd, hd0, hd⟩ => ?_
  subst rd
  refine q_for (α := Thing) (P := fun x H2 => x = v ∧ Ex H H2) (xs := things) (e_v rfl fun H2 e => ⟨rfl, e1.trans e⟩) (fun x H2 q => by rw [q.1]; exact hv.ex q.2)
    (fun H2 v2 pre σ' H' => ∃ (n : Option V) (ls : List Addr), σ' = [some v, some w, some (.ref d), n, none, none] ∧ Ex H H' ∧ H' d = some (.dT (netD pre ls)) ∧ ls.length = pre.length ∧ ls.Nodup ∧ ∀ l ∈ ls, H l = none ∧ H' l = some (.lst [])) ?_ ?_ ?_ ?_
  · intro v2 H2 e2 p2
    exact ⟨none, [], rfl, e1.trans e2, e2 _ _ hd, rfl, List.nodup_nil, fun l hl => by cases hl⟩
  · rintro v2 H2 pre σ' H' e2 p2 ⟨n, ls, rfl, e5, h2, h3, h4, h5⟩
    rw [p2.1]
    exact hv.ex e5
  · rintro v2 H2 pre x post y σ' H' e2 p2 hsp ⟨n, ls, rfl, e5, h2, h3, h4, h5⟩ dy
    have hl : pre.length ≤ 1000 := by rw [hsp, List.length_append] at hz; omega
    have hx : x ∉ pre := fun z => by
      rw [hsp] at nd
      exact (List.nodup_append.mp nd).2.2 x z x (by simp) rfl
    refine s_tput (e_nil (α := Thing)) e_is (e_var dy) h2 (by simp [netD]; omega) fun w' H4 e6 p4 => ?_
    obtain ⟨l, us, rfl, hl0, hl1, hu⟩ := p4
    have hu' : us = [] := by cases hu; rfl
    subst hu'
    have hld : l ≠ d := by intro z; subst z; rw [h2] at hl0; cases hl0
    have hnew : ∀ m ∈ ls, m ≠ l := fun m hm z => by have := (h5 m hm).2; rw [z, hl0] at this; cases this
    refine ⟨_, ls ++ [l], rfl, (e5.trans e6).mut hd0, ?_, by simp [h3], List.nodup_append.mpr ⟨h4, by simp, fun m hm n hn => by simp at hn; rw [hn]; exact hnew m hm⟩, fun m hm => ?_⟩
    · rw [upd_same, putK_new _ (by rw [netD_keys h3]; exact fun z => hx (keyT_mem.mp z))]
      simp only [netD]
      rw [List.zipWith_append h3.symm]
      rfl
    · rcases List.mem_append.mp hm with q | q
      · refine ⟨(h5 m q).1, ?_⟩
        have : m ≠ d := by intro z; have := (h5 m q).2; rw [z, h2] at this; cases this
        rw [upd_ne this]; exact e6 _ _ (h5 m q).2
      · simp at q
        subst q
        exact ⟨e5.free hl0, by rw [upd_ne hld]; exact hl1⟩
  rintro v2 H2 σ' H' e2 p2 ⟨n3, ls, rfl, e5, h2, h3, h4, h5⟩
  refine q_for (α := PairT) (P := fun x H2 => x = w ∧ Ex H H2) (xs := pairs) (e_v rfl fun H2 e => ⟨rfl, e5.trans e⟩) (fun x H2 q => by rw [q.1]; exact hw.ex q.2)
    (fun H3 v3 pre σ' H4 => ∃ (n4 n5 : Option V), σ' = [some v, some w, some (.ref d), n3, n4, n5] ∧ Ex H H4 ∧ H4 d = some (.dT (netD things ls)) ∧ ∀ (i : Nat) (t : Thing) (l : Addr), things[i]? = some t → ls[i]? = some l → Ls (aheadOf pre t) (.ref l) H4) ?_ ?_ ?_ ?_
  · intro v3 H3 e3 p3
    exact ⟨none, none, rfl, e5.trans e3, e3 _ _ h2, fun i t l hi hl => ⟨l, [], rfl, e3 _ _ (h5 l (List.mem_of_getElem? hl)).2, .nil⟩⟩
  · rintro v3 H3 pre σ' H4 e3 p3 ⟨n4, n5, rfl, e6, h6, h7⟩
    rw [p3.1]
    exact hw.ex e6
  · rintro v3 H3 pre p post y σ' H4 e3 p3 hsp ⟨n4, n5, rfl, e6, h6, h7⟩ dy
    refine g_pair (a := p.1) (b := p.2) dy fun x1 x2 d1 d2 => ?_
    have hp2 : p.2 ∈ things := hm p (by rw [hsp]; simp)
    have hpl : pre.length ≤ 10000 := by rw [hsp, List.length_append] at hzp; omega
    obtain ⟨i, hi⟩ := List.getElem?_of_mem hp2
    have hil : i < ls.length := by rw [h3]; exact (List.getElem?_eq_some_iff.mp hi).1
    have hli : ls[i]? = some ls[i] := List.getElem?_eq_getElem hil
    have hL := h7 i _ _ hi hli
    show tDrop _ _ [some v, some w, some (.ref d), n3, some x1, some x2] H4
    refine s_App (α := Thing) (x := p.1) (e_tget e_is (e_var d2) h6 (netD_val nd hi hli)) (e_var d1) hL (by have := aheadOf_len pre p.2; omega) fun H5 H6 e7 c7 s7 h8 => ?_
    have hb : H ls[i] = none := (h5 _ (List.getElem_mem hil)).1
    refine ⟨_, _, rfl, c7.exB (e6.trans e7) (by simpa using hb), ?_, fun j t l hj hl => ?_⟩
    · have hdl : d ≠ ls[i] := fun z => by
        obtain ⟨o, us, ee, hq, _⟩ := hL
        cases ee
        rw [← z, h6] at hq; cases hq
      rw [s7 d hdl]; exact e7 _ _ h6
    · rw [aheadOf_snoc]
      by_cases e : p.2 = t
      · rw [if_pos e]
        subst e
        have hij : i = j := nd_inj nd hi hj
        subst hij
        rw [hli] at hl
        cases hl
        exact h8
      · rw [if_neg e, List.append_nil]
        refine ((h7 j t l hj hl).ex e7).chg c7 ?_
        intro z
        simp at z
        have hij : i = j := nd_inj h4 hli (by rw [hl, z])
        subst hij
        rw [hi] at hj
        exact e (Option.some.inj hj)
  · rintro v3 H3 σ' H4 e3 p3 ⟨n4, n5, rfl, e6, h6, h7⟩
    refine s_ret (P := Is (.ref d)) e_is fun x H5 e7 p7 => ?_
    cases p7
    exact k d H5 (e6.trans e7) (DlAt.ex' ⟨ls, h6, h3, h4, h7, hd0, fun l hl => (h5 l hl).1⟩ e7)
/-! ### the first order -/
structure GoodO (things : List Thing) (pairs : List PairT) (f : List Thing) : Prop where
  nd : f.Nodup
  sub : ∀ x ∈ f, x ∈ things
  ok : f.Pairwise fun x y => (y, x) ∉ pairs
  cl : ∀ x ∈ f, ∀ y, (y, x) ∈ pairs → y ∈ f
theorem nodup_len {α : Type} [DecidableEq α] : ∀ {xs ys : List α}, xs.Nodup → (∀ x ∈ xs, x ∈ ys) → xs.length ≤ ys.length
  | [], _, _, _ => by simp
  | x :: xs, ys, nd, h => by
    have n := List.nodup_cons.mp nd
    have h1 := nodup_len (ys := ys.erase x) n.2 fun z hz => (List.mem_erase_of_ne (fun e => n.1 (by rw [← e]; exact hz))).mpr (h z (by simp [hz]))
    have h2 := List.length_erase_of_mem (h x (by simp))
    have h3 : 0 < ys.length := List.length_pos_of_mem (h x (by simp))
    simp only [List.length_cons]
    omega
theorem GoodO.step {things : List Thing} {pairs : List PairT} {f : List Thing} (g : GoodO things pairs f) {x : Thing} (hx : x ∈ things) (hn : x ∉ f) (hc : ∀ y, (y, x) ∈ pairs → y ∈ f) : GoodO things pairs (f ++ [x]) := by
  refine ⟨List.nodup_append.mpr ⟨g.nd, by simp, fun a ha b hb => by simp at hb; subst hb; exact fun e => hn (e ▸ ha)⟩, fun z hz => ?_, List.pairwise_append.mpr ⟨g.ok, by simp, fun z hz y hy => ?_⟩, fun z hz y hy => ?_⟩
  · rcases List.mem_append.mp hz with q | q
    · exact g.sub z q
    · simp at q; subst q; exact hx
  · simp at hy; subst hy
    exact fun h => hn (g.cl z hz _ h)
  · rcases List.mem_append.mp hz with q | q
    · exact List.mem_append_left _ (g.cl z q y hy)
    · simp at q; subst q; exact List.mem_append_left _ (hc y hy)
theorem GoodO.next {things : List Thing} {pairs : List PairT} {f : List Thing} (ok : PrOk things pairs) (hl : f.length < things.length) : ∃ x ∈ things, x ∉ f ∧ ∀ y, (y, x) ∈ pairs → y ∈ f := by
  obtain ⟨r, hr⟩ := ok.rk
  have hex : ∃ x ∈ things, x ∉ f := by
    refine Classical.byContradiction fun h => ?_
    have : ∀ x ∈ things, x ∈ f := fun x hx => Classical.byContradiction fun n => h ⟨x, hx, n⟩
    have := nodup_len ok.nd this
    omega
  have ind : ∀ n x, x ∈ things → x ∉ f → r x ≤ n → ∃ x ∈ things, x ∉ f ∧ ∀ y, (y, x) ∈ pairs → y ∈ f := by
    intro n
    induction n with
    | zero =>
      intro x hx hn h0
      refine ⟨x, hx, hn, fun y hy => ?_⟩
      have := hr _ hy
      dsimp only at this
      omega
    | succ n ih =>
      intro x hx hn h0
      by_cases hq : ∀ y, (y, x) ∈ pairs → y ∈ f
      · exact ⟨x, hx, hn, hq⟩
      · obtain ⟨y, hy⟩ := Classical.not_forall.mp hq
        obtain ⟨h1, h2⟩ := Classical.not_imp.mp hy
        have := hr _ h1
        dsimp only at this
        exact ih y (ok.mem _ h1).1 h2 (by omega)
  obtain ⟨x, hx, hn⟩ := hex
  exact ind _ x hx hn (Nat.le_refl _)
theorem GoodO.done {things : List Thing} {pairs : List PairT} {f : List Thing} (g : GoodO things pairs f) (ok : PrOk things pairs) (hl : ¬ f.length < things.length) : OrdOk things pairs f := by
  refine ⟨(List.perm_ext_iff_of_nodup g.nd ok.nd).mpr fun x => ⟨g.sub x, fun hx => Classical.byContradiction fun hn => ?_⟩, g.ok⟩
  have := nodup_len (xs := x :: f) (ys := things) (List.nodup_cons.mpr ⟨hn, g.nd⟩) fun z hz => by
    rcases List.mem_cons.mp hz with q | q
    · subst q; exact hx
    · exact g.sub z q
  simp only [List.length_cons] at this
  omega
theorem len_first_order (K : PySem.W.Frag) (a : Ad) : ∀ vs H Q E, sp_first_order K a vs H Q E → vs.length = 2 := fun _ _ _ _ ⟨_, _, _, _, e, _⟩ => by rw [e]; rfl
theorem p_first_order (T : ClT K a) (h : sp_first_order K a vs H Q E) : t_first_order K a (FinQ Q) (start ["things", "pairs", "ahead", "found", "thing", "one"] vs) H := by
  obtain ⟨things, pairs, v, w, rfl, hv, hw, ok, k⟩ := h
  have hlt := ok.lt
  refine q_set (P := fun x H1 => ∃ d, x = .ref d ∧ DlAt (aheadOf pairs) things H H1 d) (e_call2 (P1 := Ls things) (P2 := Ls pairs) (e_var hv) (e_var hw) fun x y H1 e p1 p2 Q q => ⟨things, pairs, x, y, rfl, p1, p2, ok.nd, fun p hp => (ok.mem p hp).2, by omega, ok.lp, fun d H2 e2 D2 => q _ H2 e2 ⟨d, rfl, ?_⟩⟩) fun vd H1 e1 ⟨d, hd, D1⟩ => ?_
  · obtain ⟨ls, a1, a2, a3, a4, a5, a6⟩ := D2.ex
    exact ⟨ls, a1, a2, a3, a4, e.free a5, fun l hl => e.free (a6 l hl)⟩
  subst hd
  refine q_set (e_nil (α := Thing)) fun vf H2 e2 pf => ?_
  obtain ⟨lf, uf, rfl, hf0, hf1, huf⟩ := pf
  refine q_while (fun m σ' H' => ∃ (n4 n5 : Option V) (f : List Thing), σ' = [some v, some w, some (.ref d), some (.ref lf), n4, n5] ∧ m = things.length - f.length ∧ Ex H1 H' ∧ Ls f (.ref lf) H' ∧ GoodO things pairs f) things.length ⟨none, none, [], rfl, rfl, e2, ⟨lf, uf, rfl, hf1, huf⟩, ⟨List.nodup_nil, fun x h => (by cases h), List.Pairwise.nil, fun x h => (by cases h)⟩⟩ ?_
  rintro m σ' H' ⟨n4, n5, f, rfl, rfl, e3, hf, gf⟩
  have hv3 := hv.ex (e1.trans e3)
  have hfl : f.length ≤ things.length := nodup_len gf.nd gf.sub
  refine ⟨decide ((f.length : Int) < (things.length : Int)), b_I0 (g := fun i j => decide (i < j)) (e_len (e_var hf)) (e_len (e_var hv3)), fun hc H4 e4 => ?_, fun hc H4 e4 => ?_⟩
  · have hlt2 : f.length < things.length := by have := of_decide_eq_true hc; omega
    refine s_for (α := Thing) (P := fun x H5 => x = v ∧ Ex H H5) (xs := things) (e_v rfl fun H5 e => ⟨rfl, (e1.trans e3).trans (e4.trans e)⟩) (fun x H5 q => by rw [q.1]; exact hv.ex q.2)
      (fun H5 v5 pre σ' H6 => ∃ (n4 n5 : Option V), σ' = [some v, some w, some (.ref d), some (.ref lf), n4, n5] ∧ Ex H1 H6 ∧ Ls f (.ref lf) H6 ∧ ∀ t ∈ pre, t ∈ f ∨ ∃ y, (y, t) ∈ pairs ∧ y ∉ f) ?_ ?_ ?_ ?_
    · intro v5 H5 e5 p5
      exact ⟨n4, n5, rfl, e3.trans (e4.trans e5), hf.ex (e4.trans e5), by simp⟩
    · rintro v5 H5 pre σ' H6 e5 p5 ⟨n4, n5, rfl, e6, hf6, hp6⟩
      rw [p5.1]; exact hv.ex (e1.trans e6)
    · rintro v5 H5 pre x post y σ' H6 e5 p5 hsp ⟨n4, n5, rfl, e6, hf6, hp6⟩ dy
      refine run_gN ?_
      show tIfS _ _ _ _ [some v, some w, some (.ref d), some (.ref lf), some y, n5] H6
      have hx : x ∈ things := by rw [hsp]; simp
      obtain ⟨ls, a1, a2, a3, a4, a5, a6⟩ := (D1.ex' e6).ex
      obtain ⟨i, hi⟩ := List.getElem?_of_mem hx
      have hil : i < ls.length := by rw [a2]; exact (List.getElem?_eq_some_iff.mp hi).1
      have hli : ls[i]? = some ls[i] := List.getElem?_eq_getElem hil
      have hlc := e_lc (K := K) (α := Thing) (β := Thing) (j := 5) (vs := [5]) (tl := tDGet (tVar 2) (tVar 4)) (tt := tTest (tOp (rNotInD K) (tVar 5) (tVar 3))) (te := tVar 5) (σ := [some v, some w, some (.ref d), some (.ref lf), some y, n5]) (H := H6) (fun t => t) (fun q => !memB q f)
        ((e_tget e_is (e_var dy) a1 (netD_val ok.nd hi hli)).imp fun u H7 e7 p7 => by cases p7; exact (a4 i x _ hi hli).ex e7) (by have := aheadOf_len pairs x; have := ok.lp; omega) (fun _ => rfl)
        (fun x y H9 _ e9 d => b_notin (α := Thing) (e_var d) (e_var (P := Ls f) (hf6.ex e9))) (fun x y H9 _ _ _ d => e_var d)
      rw [List.map_id'] at hlc
      refine s_if (b_and (b_notin (α := Thing) (e_var dy) (e_var (P := Ls f) hf6)) fun _ => b_eqL (α := Thing) hlc.ls e_nil.ls) (fun c H7 e7 => ?_) fun c H7 e7 => ?_
      · rw [Bool.and_eq_true] at c
        have c1 : x ∉ f := memB_no.mp (by simpa using c.1)
        have c2 := List.filter_eq_nil_iff.mp (of_decide_eq_true c.2)
        have c3 : ∀ y, (y, x) ∈ pairs → y ∈ f := fun y hy => by
          have := c2 y (aheadOf_mem.mpr hy)
          exact memB_iff.mp (by simpa using this)
        refine q_App (α := Thing) (x := x) e_is (e_var (dy.ex e7)) (hf6.ex e7) (by omega) fun H8 H9 e8 c9 s9 h9 => ?_
        show ∃ m', m' < things.length - f.length ∧ _
        refine ⟨things.length - (f ++ [x]).length, by simp; omega, _, _, f ++ [x], rfl, rfl, c9.exB (e6.trans (e7.trans e8)) (by simp [hf0]), h9, gf.step hx c1 c3⟩
      · refine ⟨_, _, rfl, e6.trans e7, hf6.ex e7, fun t ht => ?_⟩
        rcases List.mem_append.mp ht with q | q
        · exact hp6 t q
        · simp at q
          subst q
          rw [Bool.and_eq_false_iff] at c
          rcases c with c | c
          · exact Or.inl (memB_iff.mp (by simpa using c))
          · have c := of_decide_eq_false c
            rw [List.filter_eq_nil_iff] at c
            obtain ⟨y, hy⟩ := Classical.not_forall.mp c
            obtain ⟨h1, h2⟩ := Classical.not_imp.mp hy
            exact Or.inr ⟨y, aheadOf_mem.mp h1, memB_no.mp (by simpa using h2)⟩
    · rintro v5 H5 σ' H6 e5 p5 ⟨n4, n5, rfl, e6, hf6, hp6⟩
      exfalso
      obtain ⟨x, hx, h1, h2⟩ := GoodO.next ok hlt2
      rcases hp6 x hx with q | ⟨y, q1, q2⟩
      · exact h1 q
      · exact q2 (h2 y q1)
  · have hge : ¬ f.length < things.length := by have := of_decide_eq_false hc; omega
    refine s_ret (P := Is (.ref lf)) e_is fun x H5 e5 p5 => ?_
    cases p5
    obtain ⟨l', us, e', q1, q2⟩ := hf.ex (e4.trans e5)
    cases e'
    exact k f _ H5 (gf.done ok hge) (e1.trans (e3.trans (e4.trans e5))) ⟨lf, us, rfl, e1.free hf0, q1, q2⟩
theorem len_loose_place (K : PySem.W.Frag) (a : Ad) : ∀ vs H Q E, sp_loose_place K a vs H Q E → vs.length = 2 := fun _ _ _ _ ⟨_, _, _, _, e, _⟩ => by rw [e]; rfl
theorem p_loose_place (T : ClT K a) (h : sp_loose_place K a vs H Q E) : t_loose_place K a (FinQ Q) (start ["order", "pairs", "k"] vs) H := by
  obtain ⟨o, pairs, v, w, rfl, hv, hw, hz, k⟩ := h
  refine q_forR (n := (o.length : Int) - 1) (e_I0 (g := fun i j => i - j) (e_len (K := K) (e_var hv)) (e_int (i := 1))) (by omega) (by omega)
    (fun i σ' H' => ∃ n2 : Option V, σ' = [some v, some w, n2] ∧ Ex H H' ∧ ∀ j < i, ∀ x y, o[j]? = some x → o[j + 1]? = some y → (x, y) ∈ pairs) ?_ ?_ ?_
  · exact fun H1 e1 => ⟨none, rfl, e1, by omega⟩
  · rintro i σ' H' hi ⟨n2, rfl, e1, hp⟩
    show tIfS _ _ _ _ [some v, some w, some (.int (i : Int))] H'
    have h1 : o[i]? = some o[i] := List.getElem?_eq_getElem (by omega)
    have h2 : o[i + 1]? = some o[i + 1] := List.getElem?_eq_getElem (by omega)
    have h3 : atI o ((i : Int) + 1) = some o[i + 1] := by
      have e3 : (i : Int) + 1 = ((i + 1 : Nat) : Int) := by omega
      rw [e3]
      exact atI_nat h2
    refine s_if (b_notin (α := PairT) (a := (o[i], o[i + 1])) (e_pair (e_ixL (j := i) (e_var (hv.ex e1)) (e_intC _) (atI_nat h1)) (e_ixL (j := i + 1) (x := o[i + 1]) (e_var (hv.ex e1)) (e_I0 (g := fun i j => i + j) (e_intC _) (e_int (i := 1))) h3)) (e_var (hw.ex e1))) (fun c H2 e2 => ?_) fun c H2 e2 => ?_
    · have c1 : (o[i], o[i + 1]) ∉ pairs := memB_no.mp (by simpa using c)
      refine s_ret (P := Is (.int (i : Int))) e_is fun x H3 e3 p3 => ?_
      cases p3
      refine k _ H3 (Or.inr ⟨o.take i, o[i], o[i + 1], o.drop (i + 2), ?_, by rw [List.length_take]; omega, c1⟩) (e1.trans (e2.trans e3))
      have a1 := (List.drop_eq_getElem_cons (by omega : i < o.length))
      have a2 := (List.drop_eq_getElem_cons (by omega : i + 1 < o.length))
      rw [← a2, ← a1, List.take_append_drop]
    · refine ⟨_, rfl, e1.trans e2, fun j hj x y hx hy => ?_⟩
      by_cases e : j = i
      · subst e
        rw [h1] at hx
        rw [h2] at hy
        cases hx; cases hy
        exact memB_iff.mp (by simpa using c)
      · exact hp j (by omega) x y hx hy
  · rintro σ' H' ⟨n2, rfl, e1, hp⟩
    refine s_ret (P := Is (.int (-1))) (fun H1 e Q q => ⟨1, rfl, q _ H1 (Ex.refl _) rfl⟩) fun x H3 e3 p3 => ?_
    cases p3
    refine k _ H3 (Or.inl ⟨rfl, fun i x y hx hy => hp i ?_ x y hx hy⟩) (e1.trans e3)
    have := (List.getElem?_eq_some_iff.mp hy).1
    omega
theorem len_exchanged (K : PySem.W.Frag) (a : Ad) : ∀ vs H Q E, sp_exchanged K a vs H Q E → vs.length = 2 := fun _ _ _ _ ⟨_, _, _, _, _, e, _⟩ => by rw [e]; rfl
theorem e_slTo {α : Type} [DecidableEq α] [Enc α] {σ : L2.St} {te ti : TE} {xs : List α} {k : Nat} (h : EV te σ H (Ls xs)) (hi : EV ti σ H (D (k : Int))) : EV (tSl (rSlL K) te tNo (tSome ti)) σ H (NL H (xs.take k)) := fun H1 e Q q =>
  h H1 e _ fun v H2 e2 p => hi H2 (e.trans e2) _ fun y H3 e3 p3 => by
    cases p3.is_int
    obtain ⟨l, us, rfl, h1, h2⟩ := p.ex e3
    refine ⟨_, rfl, l, us, rfl, sq_of h1, fun x hx => ?_⟩
    rw [cut_none (α := α)]
    refine q _ _ (e2.trans (e3.trans (Ex.new hx))) ⟨x, _, rfl, e.free (e2.free (e3.free hx)), upd_same, ?_⟩
    rw [List.map_take]
    exact tda_take k (tda_t (Ex.new hx).t _ h2)
theorem cut_from (xs : List V) (j : Nat) : cutV xs (some (j : Int)) none = xs.drop j := by
  unfold cutV
  rw [HT.sIx_none, HT.sIx_nat]
  by_cases h : j ≤ xs.length
  · rw [Nat.min_eq_left h, List.take_of_length_le (by rw [List.length_drop]; omega)]
  · rw [Nat.min_eq_right (by omega), List.drop_of_length_le (Nat.le_refl _), List.drop_of_length_le (by omega)]
    exact List.take_nil
theorem e_slFrom {α : Type} [DecidableEq α] [Enc α] {σ : L2.St} {te ti : TE} {xs : List α} {k : Nat} (h : EV te σ H (Ls xs)) (hi : EV ti σ H (D (k : Int))) : EV (tSl (rSlL K) te (tSome ti) tNo) σ H (NL H (xs.drop k)) := fun H1 e Q q =>
  h H1 e _ fun v H2 e2 p => hi H2 (e.trans e2) _ fun y H3 e3 p3 => by
    cases p3.is_int
    obtain ⟨l, us, rfl, h1, h2⟩ := p.ex e3
    refine ⟨_, rfl, l, us, rfl, sq_of h1, fun x hx => ?_⟩
    rw [cut_from]
    refine q _ _ (e2.trans (e3.trans (Ex.new hx))) ⟨x, _, rfl, e.free (e2.free (e3.free hx)), upd_same, ?_⟩
    rw [List.map_drop]
    exact tda_drop k (tda_t (Ex.new hx).t _ h2)
theorem p_exchanged (T : ClT K a) (h : sp_exchanged K a vs H Q E) : t_exchanged K a (FinQ Q) (start ["order", "k"] vs) H := by
  obtain ⟨l1, x, y, l2, v, rfl, hv, hz, k⟩ := h
  have i0 : (l1 ++ x :: y :: l2)[l1.length]? = some x := by rw [List.getElem?_append_right (Nat.le_refl _)]; simp
  have i1 : (l1 ++ x :: y :: l2)[l1.length + 1]? = some y := by rw [List.getElem?_append_right (by omega)]; simp
  have e1 : (l1.length : Int) + 1 = ((l1.length + 1 : Nat) : Int) := by omega
  have e2 : (l1.length : Int) + 2 = ((l1.length + 2 : Nat) : Int) := by omega
  refine s_ret (P := NL H (l1 ++ y :: x :: l2)) ?_ fun r H1 e p => k r H1 e p
  have s1 : EV (tSl (rSlL K) (tVar 0) tNo (tSome (tVar 1))) [some v, some (.int (l1.length : Int))] H (NL H l1) := by
    have := e_slTo (K := K) (α := Thing) (te := tVar 0) (ti := tVar 1) (σ := [some v, some (.int (l1.length : Int))]) (k := l1.length) (e_var hv) (e_intC _)
    rwa [List.take_left] at this
  have s2 : EV (tLst (tCons (tOp (rIxL K) (tVar 0) (tOp (rI0 fun i j => .int (i + j)) (tVar 1) (tC (.int 1)))) (tCons (tOp (rIxL K) (tVar 0) (tVar 1)) tNil))) [some v, some (.int (l1.length : Int))] H (NL H [y, x]) :=
    e_l2 (e_ixL (j := l1.length + 1) (e_var hv) (e_I0 (g := fun i j => i + j) (e_intC _) (e_int (i := 1))) (by show atI _ ((l1.length : Int) + 1) = _; rw [e1]; exact atI_nat i1)) (e_ixL (j := l1.length) (e_var hv) (e_intC _) (atI_nat i0))
  have s3 : EV (tSl (rSlL K) (tVar 0) (tSome (tOp (rI0 fun i j => .int (i + j)) (tVar 1) (tC (.int 2)))) tNo) [some v, some (.int (l1.length : Int))] H (NL H l2) := by
    have q : EV (tOp (rI0 fun i j => .int (i + j)) (tVar 1) (tC (.int 2))) [some v, some (.int (l1.length : Int))] H (D ((l1.length + 2 : Nat) : Int)) := by
      rw [← e2]
      exact e_I0 (g := fun i j => i + j) (e_intC _) (e_int (i := 2))
    have := e_slFrom (K := K) (α := Thing) (te := tVar 0) (σ := [some v, some (.int (l1.length : Int))]) (k := l1.length + 2) (e_var hv) q
    rwa [show (l1 ++ x :: y :: l2).drop (l1.length + 2) = l2 by rw [List.drop_append, List.drop_of_length_le (by omega)]; simp] at this
  have h1 := e_cat (e_cat s1.ls s2.ls (by simp at hz ⊢; omega)).ls s3.ls (by simp at hz ⊢; omega)
  rwa [show (l1 ++ [y, x]) ++ l2 = l1 ++ y :: x :: l2 by simp] at h1
/-! ### all that follows, as pairs -/
theorem pairsOf_nd {things : List Thing} {links : List LinkT} (nd : things.Nodup) : (pairsOf things links).Nodup := by
  unfold pairsOf
  have key : ∀ pre : List Thing, pre.Nodup → (pre.flatMap fun x => (things.filter fun y => reachB links x y).map fun y => (x, y)).Nodup := by
    intro pre
    induction pre with
    | nil => intro _; simp
    | cons x xs ih =>
      intro hn
      have n := List.nodup_cons.mp hn
      rw [List.flatMap_cons]
      refine List.nodup_append.mpr ⟨?_, ih n.2, fun p hp q hq e => ?_⟩
      · have h1 : (things.filter fun y => reachB links x y).Nodup := nd.sublist List.filter_sublist
        exact List.pairwise_map.mpr (h1.imp fun h e => h (congrArg Prod.snd e))
      · subst e
        obtain ⟨y, _, rfl⟩ := List.mem_map.mp hp
        obtain ⟨x', hx', q⟩ := List.mem_flatMap.mp hq
        obtain ⟨y', _, q⟩ := List.mem_map.mp q
        have : x' = x := congrArg Prod.fst q
        subst this
        exact n.1 hx'
  exact key things nd
theorem gpairs_lenY {g : GS} (ok : GOk g) : g.pairs.length ≤ 196 := by
  have h1 := pairsOf_len g.things g.things (allLinks g [])
  have h2 := ok.lenT
  have h3 : g.things.length * g.things.length ≤ 14 * 14 := Nat.mul_le_mul h2 h2
  show (pairsOf _ _).length ≤ _
  unfold pairsOf
  omega
theorem GOk.prOk {g : GS} (ok : GOk g) : PrOk g.things g.pairs where
  nd := ok.ndT
  mem := fun p hp => ⟨(pairsOf_mem.mp hp).1, (pairsOf_mem.mp hp).2.1⟩
  rk := by
    refine ⟨fun t => (g.things.filter fun y => reachB (allLinks g []) y t).length, fun p hp => ?_⟩
    obtain ⟨h1, h2, h3⟩ := pairsOf_mem.mp hp
    have a1 : p.1 ∉ g.things.filter fun y => reachB (allLinks g []) y p.1 := fun z => by
      have := (List.mem_filter.mp z).2
      exact ok.acyc _ (reachB_iff.mp this)
    have a2 := nodup_len (xs := p.1 :: g.things.filter fun y => reachB (allLinks g []) y p.1) (ys := g.things.filter fun y => reachB (allLinks g []) y p.2) (List.nodup_cons.mpr ⟨a1, ok.ndT.sublist List.filter_sublist⟩) fun z hz => by
      rcases List.mem_cons.mp hz with q | q
      · subst q
        exact List.mem_filter.mpr ⟨h1, reachB_iff.mpr h3⟩
      · obtain ⟨q1, q2⟩ := List.mem_filter.mp q
        exact List.mem_filter.mpr ⟨q1, reachB_iff.mpr (Relation.TransGen.trans (reachB_iff.mp q2) h3)⟩
    simp only [List.length_cons] at a2
    exact a2
  lt := by have := ok.lenT; omega
  lp := by have := gpairs_lenY ok; omega
theorem len_Ground_order (K : PySem.W.Frag) (a : Ad) : ∀ vs H Q E, sp_Ground_order K a vs H Q E → vs.length = 1 := fun _ _ _ _ ⟨_, _, e, _⟩ => by rw [e]; rfl
theorem p_Ground_order (T : ClT K a) (h : sp_Ground_order K a vs H Q E) : t_Ground_order K a (FinQ Q) (start ["self", "pairs", "found", "k"] vs) H := by
  obtain ⟨g, A, rfl, G, ok, k⟩ := h
  refine q_set (e_gpairs (K := K) (a := a) e_is G ok) fun v1 H1 e1 p1 => ?_
  refine q_set (P := fun x H2 => ∃ o, OrdOk g.things g.pairs o ∧ NL H1 o x H2) (e_call2 (P1 := Ls g.things) (P2 := Ls g.pairs) (e_gthings T e_is (G.ex e1) ok).ls (e_var p1.ls) fun x y H2 e pa pb Q q => ⟨g.things, g.pairs, x, y, rfl, pa, pb, ok.prOk, fun o x H3 h3 e3 n => q x H3 e3 ⟨o, h3, n.back e⟩⟩) fun v2 H2 e2 ⟨o, ho, p2⟩ => ?_
  have hol : o.length ≤ 14 := by rw [ho.pm.length_eq]; exact ok.lenT
  refine q_set (P := fun x H3 => ∃ kk, LooseP o g.pairs kk ∧ x = .int kk) (e_call2 (P1 := Ls o) (P2 := Ls g.pairs) (e_var p2.ls) (e_var (p1.ls.ex e2)) fun x y H2 e pa pb Q q => ⟨o, g.pairs, x, y, rfl, pa, pb, by omega, fun kk H3 h3 e3 => q _ H3 e3 ⟨kk, h3, rfl⟩⟩) fun v3 H3 e3 ⟨kk, hk, p3⟩ => ?_
  subst p3
  have e0 := e1.trans (e2.trans e3)
  obtain ⟨lo, uo, rfl, hlo0, hlo1, hlou⟩ := p2
  rcases hk with ⟨rfl, hcons⟩ | ⟨l1, x, y, l2, rfl, rfl, hnp⟩
  · refine q_if (b_I0 (g := fun i j => decide (i < j)) (e_intC (-1)) (e_int (i := 0))) (fun _ H4 e4 => ?_) fun c => by simp at c
    refine run_ret (run_tup (run_cons (run_tC ?_)))
    refine ⟨.ref lo, rfl, sz_of (by simp), fun t ht => ?_⟩
    refine k t _ (e0.trans (e4.trans (Ex.new ht))) (e0.free (e4.free ht)) (Or.inl ⟨o, lo, upd_same, ho, hcons, lo, uo, rfl, e1.free hlo0, ?_, ?_⟩)
    · exact ((e3.trans e4).trans (Ex.new ht)) _ _ hlo1
    · exact tda_t ((e3.trans e4).trans (Ex.new ht)).t _ hlou
  · refine q_if (b_I0 (g := fun i j => decide (i < j)) (e_intC _) (e_int (i := 0))) (fun c => by simp at c; omega) fun _ H4 e4 => ?_
    have p24 : Ls (l1 ++ x :: y :: l2) (.ref lo) H4 := Ls.ex ⟨lo, uo, rfl, hlo1, hlou⟩ (e3.trans e4)
    refine run_ret (run_tup (run_cons (run_tC ?_)))
    refine ⟨.ref lo, rfl, ?_⟩
    refine run_cons ?_
    have hx : EV (tCall (sp_exchanged K a) [] E0 (tCons (tVar 2) (tCons (tVar 3) tNil))) [some (.ref A.p), some v1, some (.ref lo), some (.int (l1.length : Int))] H4 (NL H4 (l1 ++ y :: x :: l2)) :=
      e_call2 (P1 := Ls (l1 ++ x :: y :: l2)) (P2 := D (l1.length : Int)) (e_var p24) (e_intC _) fun u z H5 e5 pa pb Q q => ⟨l1, x, y, l2, u, by rw [pb.is_int], pa, by omega, fun r H6 e6 n => q r H6 e6 (n.back e5)⟩
    refine hx.run fun v4 H5 e5 p5 => ?_
    obtain ⟨lb, ub, rfl, hb0, hb1, hbu⟩ := p5
    refine ⟨sz_of (by simp), fun t ht => ?_⟩
    have e45 := e4.trans (e5.trans (Ex.new (o := .tup [.str ("parted" : Str), .ref lo, .ref lb]) ht))
    refine k t _ (e0.trans e45) (e0.free (e4.free (e5.free ht))) (Or.inr ⟨l1, x, y, l2, lo, lb, upd_same, ho, hnp, ⟨lo, uo, rfl, e1.free hlo0, (e3.trans e45) _ _ hlo1, tda_t (e3.trans e45).t _ hlou⟩, ⟨lb, ub, rfl, e0.free (e4.free hb0), (Ex.new ht) _ _ hb1, tda_t (Ex.new ht).t _ hbu⟩, fun z => ?_⟩)
    rw [← z, (e3.trans e4) _ _ hlo1] at hb0
    cases hb0
end
end TK

/-! TkX03: which of two comes ahead. -/
namespace TK
open PySem L2 PySem.Spec PyProof.Rows
open Enc (enc)
def sp_order_with (K : PySem.W.Frag) (a : Ad) : Sp := fun vs H Q _ => ∃ (things : List Thing) (pairs : List PairT) (one other : Thing) (v1 v2 v3 v4 : V), vs = [v1, v2, v3, v4] ∧ Ls things v1 H ∧ Ls pairs v2 H ∧ D one v3 H ∧ D other v4 H ∧ PrOk things pairs ∧ pairs.Nodup ∧ (∀ x y z, (x, y) ∈ pairs → (y, z) ∈ pairs → (x, z) ∈ pairs) ∧
  things.length ≤ 14 ∧ pairs.length ≤ 196 ∧ one ∈ things ∧ other ∈ things ∧ one ≠ other ∧ (other, one) ∉ pairs ∧ ∀ o more x H', OrdOk things more o → (∀ p ∈ pairs, p ∈ more) → (one, other) ∈ more → Ex H H' → NL H o x H' → Q x H'
def sp_Ground_need_thing (K : PySem.W.Frag) (a : Ad) : Sp := fun vs H Q E => ∃ (g : GS) (A : GA) (t : Thing) (v : V), vs = [.ref A.p, v] ∧ GrAt a.cGround g A H ∧ GOk g ∧ D t v H ∧ (t ∈ g.things → ∀ H', Ex H H' → Q .non H') ∧ (t ∉ g.things → ∀ H', Ex H H' → E (.ref a.cNoSuch) none H')
/-- what before() tells -/
def BefAns (g : GS) (one other : Thing) (H : Hp) (t : Addr) (H' : Hp) : Prop :=
  (∃ u l, H' t = some (.tup [.str ("yes" : Str), .ref l]) ∧ (one, other) ∈ g.pairs ∧ Short (allLinks g []) one other u ∧ NL H u (.ref l) H') ∨
  (∃ u l, H' t = some (.tup [.str ("no" : Str), .ref l]) ∧ (one, other) ∉ g.pairs ∧ (other, one) ∈ g.pairs ∧ Short (allLinks g []) other one u ∧ NL H u (.ref l) H') ∨
  (∃ o1 o2 m1 m2 la lb, H' t = some (.tup [.str ("open" : Str), .ref la, .ref lb]) ∧ (one, other) ∉ g.pairs ∧ (other, one) ∉ g.pairs ∧ OrdOk g.things m1 o1 ∧ (∀ p ∈ g.pairs, p ∈ m1) ∧ (one, other) ∈ m1 ∧ OrdOk g.things m2 o2 ∧ (∀ p ∈ g.pairs, p ∈ m2) ∧ (other, one) ∈ m2 ∧ NL H o1 (.ref la) H' ∧ NL H o2 (.ref lb) H')
def sp_Ground_before (K : PySem.W.Frag) (a : Ad) : Sp := fun vs H Q E => ∃ (g : GS) (A : GA) (one other : Thing) (v w : V), vs = [.ref A.p, v, w] ∧ GrAt a.cGround g A H ∧ GOk g ∧ D one v H ∧ D other w H ∧
  ((one ∈ g.things ∧ other ∈ g.things ∧ one ≠ other) → ∀ t H', Ex H H' → H t = none → BefAns g one other H t H' → Q (.ref t) H') ∧
  (¬ (one ∈ g.things ∧ other ∈ g.things ∧ one ≠ other) → ∀ H', Ex H H' → E (.ref a.cNoSuch) none H')
def t_order_with (K : PySem.W.Frag) (a : Ad) : TS :=
  (tSeq (tAsg (tCB (rListS K) (tCons (tVar 1) tNil)) (gName 4)) (tSeq (tFor (iList K (tOp rCat (tLst (tCons (tVar 2) tNil)) (tLc (iList K (tVar 1)) (gName 7) (tTest (tOp (rEqD K) (tOp (rIxT K) (tVar 7) (tC (.int 1))) (tVar 2))) (tOp (rIxT K) (tVar 7) (tC (.int 0))) [7]))) (gName 5) (tFor (iList K (tOp rCat (tLst (tCons (tVar 3) tNil)) (tLc (iList K (tVar 1)) (gName 7) (tTest (tOp (rEqD K) (tOp (rIxT K) (tVar 7) (tC (.int 0))) (tVar 3))) (tOp (rIxT K) (tVar 7) (tC (.int 1))) [7]))) (gName 6) (tIfS (tTest (tOp (rNotInD K) (tTup (tCons (tVar 5) (tCons (tVar 6) tNil))) (tVar 4))) (tDrop (tBM K "list" (rAppend) (tVar 4) (tCons (tTup (tCons (tVar 5) (tCons (tVar 6) tNil))) tNil))) tNext))) (tRet (tCall (sp_first_order K a) [] E0 (tCons (tVar 0) (tCons (tVar 4) tNil))))))
def t_Ground_need_thing (K : PySem.W.Frag) (a : Ad) (E : XK) : TS :=
  (tIfS (tTest (tOp (rNotInD K) (tVar 1) (tMeth a.cGround "things" (sp_Ground_things K a) [] E0 (tVar 0) tNil))) (fun _ σ H => E (.ref a.cNoSuch) none H) tNext)
def t_Ground_before (K : PySem.W.Frag) (a : Ad) (E : XK) : TS :=
  (tSeq (tDrop (tMeth a.cGround "need_thing" (sp_Ground_need_thing K a) [] E (tVar 0) (tCons (tVar 1) tNil))) (tSeq (tDrop (tMeth a.cGround "need_thing" (sp_Ground_need_thing K a) [] E (tVar 0) (tCons (tVar 2) tNil))) (tSeq (tIfS (tTest (tOp (rEqD K) (tVar 1) (tVar 2))) (fun _ σ H => E (.ref a.cNoSuch) none H) tNext) (tSeq (tAsg (tMeth a.cGround "net" (sp_Ground_net K a) [] E0 (tVar 0) (tCons (tLst tNil) tNil)) (gName 3)) (tSeq (tAsg (tMeth a.cNet "way" (sp_Net_way K a) [] E0 (tVar 3) (tCons (tVar 1) (tCons (tVar 2) tNil))) (gName 4)) (tSeq (tIfS (tB (tNotN (tVar 4))) (tRet (tTup (tCons (tC (.str ("yes" : Str))) (tCons (tVar 4) tNil)))) tNext) (tSeq (tAsg (tMeth a.cNet "way" (sp_Net_way K a) [] E0 (tVar 3) (tCons (tVar 2) (tCons (tVar 1) tNil))) (gName 4)) (tSeq (tIfS (tB (tNotN (tVar 4))) (tRet (tTup (tCons (tC (.str ("no" : Str))) (tCons (tVar 4) tNil)))) tNext) (tSeq (tAsg (tMeth a.cGround "pairs" (sp_Ground_pairs K a) [] E0 (tVar 0) tNil) (gName 5)) (tSeq (tAsg (tMeth a.cGround "things" (sp_Ground_things K a) [] E0 (tVar 0) tNil) (gName 6)) (tRet (tTup (tCons (tC (.str ("open" : Str))) (tCons (tCall (sp_order_with K a) [] E0 (tCons (tVar 6) (tCons (tVar 5) (tCons (tVar 1) (tCons (tVar 2) tNil))))) (tCons (tCall (sp_order_with K a) [] E0 (tCons (tVar 6) (tCons (tVar 5) (tCons (tVar 2) (tCons (tVar 1) tNil))))) tNil)))))))))))))))
section
variable {K : PySem.W.Frag} {a : Ad} {vs : List V} {H H' : Hp} {Q : VK} {E : XK}
/-! ### order_with: the plain law -/
def leftsOf (pairs : List PairT) (one : Thing) : List Thing := [one] ++ (pairs.filter fun p => decide (p.2 = one)).map (·.1)
def rightsOf (pairs : List PairT) (other : Thing) : List Thing := [other] ++ (pairs.filter fun p => decide (p.1 = other)).map (·.2)
theorem lefts_mem {pairs : List PairT} {one x : Thing} : x ∈ leftsOf pairs one ↔ x = one ∨ (x, one) ∈ pairs := by
  unfold leftsOf
  simp only [List.mem_append, List.mem_singleton, List.mem_map, List.mem_filter, decide_eq_true_eq]
  constructor
  · rintro (h | ⟨p, ⟨h1, h2⟩, rfl⟩)
    · exact Or.inl h
    · exact Or.inr (by rw [← h2]; exact h1)
  · rintro (h | h)
    · exact Or.inl h
    · exact Or.inr ⟨_, ⟨h, rfl⟩, rfl⟩
theorem rights_mem {pairs : List PairT} {other x : Thing} : x ∈ rightsOf pairs other ↔ x = other ∨ (other, x) ∈ pairs := by
  unfold rightsOf
  simp only [List.mem_append, List.mem_singleton, List.mem_map, List.mem_filter, decide_eq_true_eq]
  constructor
  · rintro (h | ⟨p, ⟨h1, h2⟩, rfl⟩)
    · exact Or.inl h
    · exact Or.inr (by rw [← h2]; exact h1)
  · rintro (h | h)
    · exact Or.inl h
    · exact Or.inr ⟨_, ⟨h, rfl⟩, rfl⟩
structure Mid (pairs : List PairT) (one other : Thing) (M : List PairT) : Prop where
  nd : M.Nodup
  sub : ∀ p ∈ pairs, p ∈ M
  fr : ∀ p ∈ M, p ∈ pairs ∨ (p.1 ∈ leftsOf pairs one ∧ p.2 ∈ rightsOf pairs other)
theorem Mid.put {pairs M : List PairT} {one other l r : Thing} (m : Mid pairs one other M) (hl : l ∈ leftsOf pairs one) (hr : r ∈ rightsOf pairs other) (hn : (l, r) ∉ M) : Mid pairs one other (M ++ [(l, r)]) :=
  ⟨List.nodup_append.mpr ⟨m.nd, by simp, fun p hp q hq => by simp at hq; subst hq; exact fun e => hn (by rw [← e]; exact hp)⟩, fun p hp => List.mem_append_left _ (m.sub p hp), fun p hp => by
    rcases List.mem_append.mp hp with q | q
    · exact m.fr p q
    · simp at q; subst q; exact Or.inr ⟨hl, hr⟩⟩
structure WithOk (things : List Thing) (pairs : List PairT) (one other : Thing) : Prop where
  pr : PrOk things pairs
  tr : ∀ x y z, (x, y) ∈ pairs → (y, z) ∈ pairs → (x, z) ∈ pairs
  l14 : things.length ≤ 14
  m1 : one ∈ things
  m2 : other ∈ things
  ne : one ≠ other
  np : (other, one) ∉ pairs
theorem lefts_in {things : List Thing} {pairs : List PairT} {one other x : Thing} (w : WithOk things pairs one other) (h : x ∈ leftsOf pairs one) : x ∈ things := by
  rcases lefts_mem.mp h with q | q
  · rw [q]; exact w.m1
  · exact (w.pr.mem _ q).1
theorem rights_in {things : List Thing} {pairs : List PairT} {one other x : Thing} (w : WithOk things pairs one other) (h : x ∈ rightsOf pairs other) : x ∈ things := by
  rcases rights_mem.mp h with q | q
  · rw [q]; exact w.m2
  · exact (w.pr.mem _ q).2
theorem Mid.mem {things : List Thing} {pairs M : List PairT} {one other : Thing} (m : Mid pairs one other M) (w : WithOk things pairs one other) : ∀ p ∈ M, p.1 ∈ things ∧ p.2 ∈ things := fun p hp => by
  rcases m.fr p hp with q | q
  · exact w.pr.mem p q
  · exact ⟨lefts_in w q.1, rights_in w q.2⟩
theorem Mid.len {things : List Thing} {pairs M : List PairT} {one other : Thing} (m : Mid pairs one other M) (w : WithOk things pairs one other) : M.length ≤ 196 := by
  have h := nodup_len m.nd (ys := things.flatMap fun x => things.map fun y => (x, y)) fun p hp => by
    have := m.mem w p hp
    exact List.mem_flatMap.mpr ⟨p.1, this.1, List.mem_map.mpr ⟨p.2, this.2, rfl⟩⟩
  have h2 : (things.flatMap fun x => things.map fun y => (x, y)).length = things.length * things.length := by
    rw [List.length_flatMap]
    simp [List.map_const', List.sum_replicate_nat]
  have h3 : things.length * things.length ≤ 14 * 14 := Nat.mul_le_mul w.l14 w.l14
  omega
theorem bound_of (r : Thing → Nat) : ∀ ts : List Thing, ∃ N, ∀ t ∈ ts, r t < N
  | [] => ⟨0, fun t h => nomatch h⟩
  | t :: ts => by
    obtain ⟨N, h⟩ := bound_of r ts
    refine ⟨N + r t + 1, fun u hu => ?_⟩
    rcases List.mem_cons.mp hu with q | q
    · subst q; omega
    · have := h u q; omega
theorem Mid.pr {things : List Thing} {pairs M : List PairT} {one other : Thing} (m : Mid pairs one other M) (w : WithOk things pairs one other) : PrOk things M where
  nd := w.pr.nd
  mem := m.mem w
  lt := w.pr.lt
  lp := Nat.le_trans (m.len w) (by decide)
  rk := by
    obtain ⟨r, hr⟩ := w.pr.rk
    obtain ⟨N, hN⟩ := bound_of r things
    refine ⟨fun t => if memB t (rightsOf pairs other) = true then N + r t else r t, fun p hp => ?_⟩
    dsimp only
    rcases m.fr p hp with q | ⟨q1, q2⟩
    · have h0 := hr p q
      have h1 := hN _ (w.pr.mem p q).1
      by_cases c : memB p.1 (rightsOf pairs other) = true
      · have c2 : memB p.2 (rightsOf pairs other) = true := memB_iff.mpr (rights_mem.mpr (Or.inr (by
          rcases rights_mem.mp (memB_iff.mp c) with z | z
          · rw [← z]; exact q
          · exact w.tr _ _ _ z q)))
        rw [if_pos c, if_pos c2]; omega
      · rw [if_neg c]
        split
        · omega
        · exact h0
    · have c1 : ¬ memB p.1 (rightsOf pairs other) = true := fun c => by
        rcases rights_mem.mp (memB_iff.mp c) with z | z
        · rcases lefts_mem.mp q1 with y | y
          · exact w.ne (y.symm.trans z)
          · rw [z] at y; exact w.np y
        · rcases lefts_mem.mp q1 with y | y
          · rw [y] at z; exact w.np z
          · exact w.np (w.tr _ _ _ z y)
      rw [if_neg c1, if_pos (memB_iff.mpr q2)]
      have h1 := hN _ (lefts_in w q1)
      omega
/-! ### order_with: the walk -/
theorem len_order_with (K : PySem.W.Frag) (a : Ad) : ∀ vs H Q E, sp_order_with K a vs H Q E → vs.length = 4 := fun _ _ _ _ ⟨_, _, _, _, _, _, _, _, e, _⟩ => by rw [e]; rfl
theorem p_order_with (T : ClT K a) (h : sp_order_with K a vs H Q E) : t_order_with K a (FinQ Q) (start ["things", "pairs", "one", "other", "more", "left", "right", "pair"] vs) H := by
  obtain ⟨things, pairs, one, other, v1, v2, v3, v4, rfl, h1, h2, d3, d4, ok, nd, tr, l14, lp, m1, m2, ne, np, k⟩ := h
  have w : WithOk things pairs one other := ⟨ok, tr, l14, m1, m2, ne, np⟩
  show tSeq _ _ _ [some v1, some v2, some v3, some v4, none, none, none, none] H
  refine q_set (e_list (K := K) (e_var (P := Ls pairs) h2)) fun vm H1 e1 p1 => ?_
  obtain ⟨lo, um, rfl, l0, l1, l2⟩ := p1
  show tSeq _ _ _ [some v1, some v2, some v3, some v4, some (.ref lo), none, none, none] H1
  have mid0 : Mid pairs one other pairs := ⟨nd, fun p hp => hp, fun p hp => Or.inl hp⟩
  have hlefts : EV (tOp rCat (tLst (tCons (tVar 2) tNil)) (tLc (iList K (tVar 1)) (gName 7) (tTest (tOp (rEqD K) (tOp (rIxT K) (tVar 7) (tC (.int 1))) (tVar 2))) (tOp (rIxT K) (tVar 7) (tC (.int 0))) [7])) [some v1, some v2, some v3, some v4, some (.ref lo), none, none, none] H1 (NL H1 (leftsOf pairs one)) :=
    e_cat (e_l1 (e_var (d3.ex e1))).ls (e_lc (K := K) (α := PairT) (β := Thing) (fun p => p.1) (fun p => decide (p.2 = one)) (e_var (h2.ex e1)) (by omega) (fun _ => rfl) (fun x v H2 _ e d => b_eq (α := Thing) (e_ixP1 (K := K) (a := x.1) (b := x.2) (e_var d)) (e_var (d3.ex (e1.trans e))))
      fun x v H2 _ _ e d => e_ixP0 (K := K) (a := x.1) (b := x.2) (e_var d)).ls (by have := List.length_filter_le (fun p : PairT => decide (p.2 = one)) pairs; rw [List.length_map]; simp only [List.length_cons, List.length_nil]; omega)
  refine q_for (α := Thing) (xs := leftsOf pairs one) (P := NL H1 (leftsOf pairs one)) hlefts (fun _ _ p => p.ls)
    (fun H2 v5 pre σ' H' => ∃ (n5 n6 n7 : Option V) (M : List PairT), σ' = [some v1, some v2, some v3, some v4, some (.ref lo), n5, n6, n7] ∧ Ex H H' ∧ Ls (leftsOf pairs one) v5 H' ∧ v5 ≠ .ref lo ∧ Mid pairs one other M ∧ Ls M (.ref lo) H' ∧ ∀ l ∈ pre, (l, other) ∈ M) ?_ ?_ ?_ ?_
  · intro v5 H2 e2 p2
    refine ⟨none, none, none, pairs, rfl, e1.trans e2, p2.ls, fun z => ?_, mid0, Ls.ex ⟨lo, um, rfl, l1, l2⟩ e2, fun l hl => nomatch hl⟩
    obtain ⟨l, us, e, h0, _⟩ := p2
    rw [z] at e
    cases e
    rw [l1] at h0
    cases h0
  · rintro v5 H2 pre σ' H' e2 p2 ⟨n5, n6, n7, M, rfl, e3, q1, q2, q3, q4, q5⟩
    exact q1
  · rintro v5 H2 pre left post y σ' H' e2 p2 hsp ⟨n5, n6, n7, M, rfl, e3, q1, q2, q3, q4, q5⟩ dy
    have hleft : left ∈ leftsOf pairs one := by rw [hsp]; simp
    refine run_gN ?_
    show tFor _ _ _ _ [some v1, some v2, some v3, some v4, some (.ref lo), some y, n6, n7] H'
    have hrights : EV (tOp rCat (tLst (tCons (tVar 3) tNil)) (tLc (iList K (tVar 1)) (gName 7) (tTest (tOp (rEqD K) (tOp (rIxT K) (tVar 7) (tC (.int 0))) (tVar 3))) (tOp (rIxT K) (tVar 7) (tC (.int 1))) [7])) [some v1, some v2, some v3, some v4, some (.ref lo), some y, n6, n7] H' (NL H' (rightsOf pairs other)) :=
      e_cat (e_l1 (e_var (d4.ex e3))).ls (e_lc (K := K) (α := PairT) (β := Thing) (fun p => p.2) (fun p => decide (p.1 = other)) (e_var (h2.ex e3)) (by omega) (fun _ => rfl) (fun x v H2 _ e d => b_eq (α := Thing) (e_ixP0 (K := K) (a := x.1) (b := x.2) (e_var d)) (e_var (d4.ex (e3.trans e))))
        fun x v H2 _ _ e d => e_ixP1 (K := K) (a := x.1) (b := x.2) (e_var d)).ls (by have := List.length_filter_le (fun p : PairT => decide (p.1 = other)) pairs; rw [List.length_map]; simp only [List.length_cons, List.length_nil]; omega)
    obtain ⟨lm, us0, z0, zm, zu⟩ := q4
    cases z0
    refine s_for (α := Thing) (xs := rightsOf pairs other) (P := NL H' (rightsOf pairs other)) hrights (fun _ _ p => p.ls)
      (fun H3 v6 pre2 σ' H4 => ∃ (n6 n7 : Option V) (M2 : List PairT), σ' = [some v1, some v2, some v3, some v4, some (.ref lo), some y, n6, n7] ∧ Ex H H4 ∧ Ls (leftsOf pairs one) v5 H4 ∧ D left y H4 ∧ Ls (rightsOf pairs other) v6 H4 ∧ v6 ≠ .ref lo ∧ Mid pairs one other M2 ∧ Ls M2 (.ref lo) H4 ∧ (∀ p ∈ M, p ∈ M2) ∧ ∀ r ∈ pre2, (left, r) ∈ M2) ?_ ?_ ?_ ?_
    · intro v6 H3 e4 p4
      refine ⟨n6, n7, M, rfl, e3.trans e4, q1.ex e4, dy.ex e4, p4.ls, fun z => ?_, q3, Ls.ex ⟨lo, us0, rfl, zm, zu⟩ e4, fun p hp => hp, fun r hr => nomatch hr⟩
      obtain ⟨l, us, e, h0, _⟩ := p4
      rw [z] at e
      cases e
      rw [zm] at h0
      cases h0
    · rintro v6 H3 pre2 σ' H4 e4 p4 ⟨n6, n7, M2, rfl, e5, r1, r2, r3, r4, r5, r6, r7, r8⟩
      exact r3
    · rintro v6 H3 pre2 right post2 y2 σ' H4 e4 p4 hsp2 ⟨n6, n7, M2, rfl, e5, r1, r2, r3, r4, r5, r6, r7, r8⟩ dy2
      have hright : right ∈ rightsOf pairs other := by rw [hsp2]; simp
      refine run_gN ?_
      show tIfS _ _ _ _ [some v1, some v2, some v3, some v4, some (.ref lo), some y, some y2, n7] H4
      refine s_if (b_notin (K := K) (α := PairT) (a := (left, right)) (e_pair (a := left) (b := right) (e_var r2) (e_var dy2)) (e_var (P := Ls M2) r6)) (fun c H5 e6 => ?_) fun c H5 e6 => ?_
      · have hnm : (left, right) ∉ M2 := memB_no.mp (by simpa using c)
        refine s_App (α := PairT) (x := (left, right)) e_is (e_pair (a := left) (b := right) (e_var (r2.ex e6)) (e_var (dy2.ex e6))) (r6.ex e6) (by have := r5.len w; omega) fun H6 H7 e7 c7 s7 h7 => ?_
        have lsk : ∀ (ts : List Thing) (v : V), Ls ts v H6 → v ≠ .ref lo → Ls ts v H7 := fun ts v hv hn => by
          obtain ⟨l, us, rfl, a1, a2⟩ := hv
          exact Ls.chg (S := [lo]) ⟨l, us, rfl, a1, a2⟩ c7 (by simp; exact fun z => hn (by rw [z]))
        refine ⟨some y2, n7, M2 ++ [(left, right)], rfl, c7.exB (e5.trans (e6.trans e7)) (by simp [l0]), lsk _ _ (r1.ex (e6.trans e7)) q2, ((r2.ex (e6.trans e7))).t c7.tup, lsk _ _ (r3.ex (e6.trans e7)) r4, r4, r5.put hleft hright hnm, h7, fun p hp => List.mem_append_left _ (r7 p hp), fun r hr => ?_⟩
        rcases List.mem_append.mp hr with q | q
        · exact List.mem_append_left _ (r8 r q)
        · simp at q; subst q; exact List.mem_append_right _ (by simp)
      · have hm : (left, right) ∈ M2 := memB_iff.mp (by simpa using c)
        refine ⟨some y2, n7, M2, rfl, e5.trans e6, r1.ex e6, r2.ex e6, r3.ex e6, r4, r5, r6.ex e6, r7, fun r hr => ?_⟩
        rcases List.mem_append.mp hr with q | q
        · exact r8 r q
        · simp at q; subst q; exact hm
    · rintro v6 H3 σ' H4 e4 p4 ⟨n6, n7, M2, rfl, e5, r1, r2, r3, r4, r5, r6, r7, r8⟩
      refine ⟨some y, n6, n7, M2, rfl, e5, r1, q2, r5, r6, fun l hl => ?_⟩
      rcases List.mem_append.mp hl with q | q
      · exact r7 _ (q5 l q)
      · simp at q; subst q; exact r8 other (rights_mem.mpr (Or.inl rfl))
  · rintro v5 H2 σ' H' e2 p2 ⟨n5, n6, n7, M, rfl, e3, q1, q2, q3, q4, q5⟩
    refine s_ret (P := fun x H'' => ∃ o, OrdOk things M o ∧ NL H o x H'') (e_call2 (P1 := Ls things) (P2 := Ls M) (e_var (h1.ex e3)) (e_var q4) fun x y H5 e5 p1 p2 Q q => ⟨things, M, x, y, rfl, p1, p2, q3.pr w, fun o z H6 ho e6 n6 => q z H6 e6 ⟨o, ho, n6.back (e3.trans e5)⟩⟩) fun x H5 e5 ⟨o, ho, no⟩ => ?_
    exact k o M x H5 ho q3.sub (q5 one (lefts_mem.mpr (Or.inl rfl))) (e3.trans e5) no

/-! ### need_thing, before -/
theorem len_Ground_need_thing (K : PySem.W.Frag) (a : Ad) : ∀ vs H Q E, sp_Ground_need_thing K a vs H Q E → vs.length = 2 := fun _ _ _ _ ⟨_, _, _, _, e, _⟩ => by rw [e]; rfl
theorem p_Ground_need_thing (T : ClT K a) (h : sp_Ground_need_thing K a vs H Q E) : t_Ground_need_thing K a E (FinQ Q) (start ["self", "thing"] vs) H := by
  obtain ⟨g, A, t, v, rfl, G, ok, d, k1, k2⟩ := h
  refine s_if (b_notin (K := K) (α := Thing) (a := t) (e_var d) (e_gthings T e_is G ok).ls) (fun c H1 e1 => ?_) fun c H1 e1 => ?_
  · exact k2 (memB_no.mp (by simpa using c)) H1 e1
  · exact k1 (memB_iff.mp (by simpa using c)) H1 e1
/-- the order in which one comes ahead -/
def WithP (g : GS) (one other : Thing) (Hb : Hp) : VP := fun v H' => ∃ o m, OrdOk g.things m o ∧ (∀ p ∈ g.pairs, p ∈ m) ∧ (one, other) ∈ m ∧ NL Hb o v H'
instance {g : GS} {one other : Thing} {Hb : Hp} : Mono (WithP g one other Hb) := ⟨fun e ⟨o, m, h1, h2, h3, h4⟩ => ⟨o, m, h1, h2, h3, h4.ex e⟩⟩
theorem e_orderWith {σ : L2.St} {t1 t2 t3 t4 : TE} {g : GS} {one other : Thing} (ok : GOk g) (h1 : EV t1 σ H (Ls g.things)) (h2 : EV t2 σ H (Ls g.pairs)) (h3 : EV t3 σ H (D one)) (h4 : EV t4 σ H (D other)) (m1 : one ∈ g.things) (m2 : other ∈ g.things) (ne : one ≠ other) (np : (other, one) ∉ g.pairs) :
    EV (tCall (sp_order_with K a) [] E0 (tCons t1 (tCons t2 (tCons t3 (tCons t4 tNil))))) σ H (WithP g one other H) := fun H1 e Q q =>
  h1 H1 e _ fun v1 H2 e2 p1 => h2 H2 (e.trans e2) _ fun v2 H3 e3 p2 => h3 H3 ((e.trans e2).trans e3) _ fun v3 H4 e4 p3 => h4 H4 (((e.trans e2).trans e3).trans e4) _ fun v4 H5 e5 p4 =>
    ⟨g.things, g.pairs, one, other, v1, v2, v3, v4, rfl, p1.ex (e3.trans (e4.trans e5)), p2.ex (e4.trans e5), p3.ex e5, p4, ok.prOk, pairsOf_nd ok.ndT, fun x y z q1 q2 => by
      have a1 := pairsOf_mem.mp q1
      have a2 := pairsOf_mem.mp q2
      exact pairsOf_mem.mpr ⟨a1.1, a2.2.1, a1.2.2.trans a2.2.2⟩, ok.lenT, gpairs_lenY ok, m1, m2, ne, np, fun o m x H' ho hs hm e6 n => q x H' (e2.trans (e3.trans (e4.trans (e5.trans e6)))) ⟨o, m, ho, hs, hm, n.back ((((e.trans e2).trans e3).trans e4).trans e5)⟩⟩
theorem len_Ground_before (K : PySem.W.Frag) (a : Ad) : ∀ vs H Q E, sp_Ground_before K a vs H Q E → vs.length = 3 := fun _ _ _ _ ⟨_, _, _, _, _, _, e, _⟩ => by rw [e]; rfl
theorem need_at {σ : L2.St} {te t1 : TE} {g : GS} {A : GA} {t : Thing} {tr : TS} {Z : Ends} (h : EV te σ H (Is (.ref A.p))) (h1 : EV t1 σ H (D t)) (G : GrAt a.cGround g A H) (ok : GOk g) (k1 : t ∈ g.things → ∀ H', Ex H H' → tr Z σ H') (k2 : t ∉ g.things → ∀ H', Ex H H' → E (.ref a.cNoSuch) none H') :
    tSeq (tDrop (tMeth a.cGround "need_thing" (sp_Ground_need_thing K a) [] E te (tCons t1 tNil))) tr Z σ H :=
  h.run fun v H1 e1 p1 => by
    cases p1
    have G1 := G.ex e1
    refine ⟨A.p, A.dx, _, rfl, G1.ins, gm_no _ _, ?_⟩
    refine run_cons ((h1.ex e1).run fun x H2 e2 p2 => ?_)
    exact ⟨g, A, t, x, rfl, G1.ex e2, ok, p2, fun m H3 e3 => k1 m H3 (e1.trans (e2.trans e3)), fun m H3 e3 => k2 m H3 (e1.trans (e2.trans e3))⟩
theorem p_Ground_before (T : ClT K a) (h : sp_Ground_before K a vs H Q E) : t_Ground_before K a E (FinQ Q) (start ["self", "one", "other", "net", "way", "pairs", "things"] vs) H := by
  obtain ⟨g, A, one, other, v, w, rfl, G, ok, d1, d2, k1, k2⟩ := h
  show tSeq _ _ _ [some (.ref A.p), some v, some w, none, none, none, none] H
  refine need_at e_is (e_var d1) G ok (fun m1 H1 e1 => ?_) fun m1 H1 e1 => k2 (fun z => m1 z.1) H1 e1
  refine need_at e_is (e_var (d2.ex e1)) (G.ex e1) ok (fun m2 H2 e2 => ?_) fun m2 H2 e2 => k2 (fun z => m2 z.2.1) H2 (e1.trans e2)
  have e12 := e1.trans e2
  refine q_if (b_eq (K := K) (α := Thing) (e_var (d1.ex e12)) (e_var (d2.ex e12))) (fun c H3 e3 => k2 (fun z => z.2.2 (of_decide_eq_true c)) H3 (e12.trans e3)) fun c H3 e3 => ?_
  have ne : one ≠ other := of_decide_eq_false c
  have e13 := e12.trans e3
  have k1 := k1 ⟨m1, m2, ne⟩
  clear k2
  have hzt := ok.lenT
  refine q_set (e_gnetN T (wo := []) e_is e_nil (fun _ _ p => p.ls) (G.ex e13) ok) fun vn H4 e4 ⟨p, z, N⟩ => ?_
  subst z
  have e14 := e13.trans e4
  show tSeq _ _ _ [some (.ref A.p), some v, some w, some (.ref p), none, none, none] H4
  refine q_set (e_way (K := K) (a := a) e_is N.at (e_var (d1.ex e14)) (e_var (d2.ex e14)) m1 ok.ndT (fun k hk => (ok.links hk).2) (by omega)) fun v5 H5 e5 p5 => ?_
  have e15 := e14.trans e5
  show tSeq _ _ _ [some (.ref A.p), some v, some w, some (.ref p), some v5, none, none] H5
  have pin : ∀ x y : Thing, x ∈ g.things → y ∈ g.things → ((x, y) ∈ g.pairs ↔ Reach (allLinks g []) x y) := fun x y hx hy => ⟨fun z => (pairsOf_mem.mp z).2.2, fun z => pairsOf_mem.mpr ⟨hx, hy, z⟩⟩
  rcases p5 with ⟨rfl, hr⟩ | ⟨u, _, hs, hul, hu⟩
  · have hr : ¬ Reach (allLinks g []) one other := hr.resolve_left ne
    refine q_if (b := false) (b_notNP e_is fun _ _ _ p => by cases p; rfl) (fun c => by cases c) fun _ H6 e6 => ?_
    have e16 := e15.trans e6
    refine q_set (e_way (K := K) (a := a) e_is ((N.at.mono e5).mono e6) (e_var (d2.ex e16)) (e_var (d1.ex e16)) m2 ok.ndT (fun k hk => (ok.links hk).2) (by omega)) fun v7 H7 e7 p7 => ?_
    have e17 := e16.trans e7
    show tSeq _ _ _ [some (.ref A.p), some v, some w, some (.ref p), some v7, none, none] H7
    rcases p7 with ⟨rfl, hr2⟩ | ⟨u, _, hs, hul, hu⟩
    · have hr2 : ¬ Reach (allLinks g []) other one := hr2.resolve_left (Ne.symm ne)
      refine q_if (b := false) (b_notNP e_is fun _ _ _ p => by cases p; rfl) (fun c => by cases c) fun _ H8 e8 => ?_
      have e18 := e17.trans e8
      have np1 : (one, other) ∉ g.pairs := fun z => hr ((pin _ _ m1 m2).mp z)
      have np2 : (other, one) ∉ g.pairs := fun z => hr2 ((pin _ _ m2 m1).mp z)
      refine q_set (e_gpairs (K := K) (a := a) e_is (G.ex e18) ok) fun v9 H9 e9 p9 => ?_
      have e19 := e18.trans e9
      show tSeq _ _ _ [some (.ref A.p), some v, some w, some (.ref p), some .non, some v9, none] H9
      refine q_set (e_gthings T e_is (G.ex e19) ok) fun vA HA eA pA => ?_
      have e1A := e19.trans eA
      refine run_ret (run_tup (run_cons (run_tC ?_)))
      refine run_cons ((e_orderWith (K := K) (a := a) ok (e_var (P := Ls g.things) pA.ls) (e_var (P := Ls g.pairs) (p9.ls.ex eA)) (e_var (d1.ex e1A)) (e_var (d2.ex e1A)) m1 m2 ne np2).run fun x HB eB ⟨o1, q1, r1, r2, r3, r4⟩ => ?_)
      refine run_cons ((e_orderWith (K := K) (a := a) ok (e_var (P := Ls g.things) (pA.ls.ex eB)) (e_var (P := Ls g.pairs) (p9.ls.ex (eA.trans eB))) (e_var (d2.ex (e1A.trans eB))) (e_var (d1.ex (e1A.trans eB))) m2 m1 (Ne.symm ne) np1).run fun y HC eC ⟨o2, q2, s1, s2, s3, s4⟩ => ?_)
      obtain ⟨la, ua, rfl, _, _⟩ := id r4
      obtain ⟨lb, ub, rfl, _, _⟩ := id s4
      refine ⟨sz_of (by simp), fun t ht => ?_⟩
      have eT : Ex HC (upd HC t (.tup [.str ("open" : Str), .ref la, .ref lb])) := Ex.new ht
      have e1B := e1A.trans eB
      exact k1 t _ (e1B.trans (eC.trans eT)) (e1B.free (eC.free ht)) (.inr (.inr ⟨o1, o2, q1, q2, la, lb, upd_same, np1, np2, r1, r2, r3, s1, s2, s3, ((r4.ex eC).ex eT).back e1A, (s4.ex eT).back e1B⟩))
    · obtain ⟨l, us, rfl, _, _⟩ := id hu
      refine q_if (b := true) (b_notNP e_is fun _ _ _ p => by cases p; rfl) (fun _ H8 e8 => ?_) fun c => by cases c
      refine run_ret (run_tup (run_cons (run_tC (run_cons ⟨_, rfl, ?_⟩))))
      refine ⟨sz_of (by simp), fun t ht => ?_⟩
      have eT : Ex H8 (upd H8 t (.tup [.str ("no" : Str), .ref l])) := Ex.new ht
      exact k1 t _ (e17.trans (e8.trans eT)) (e17.free (e8.free ht)) (.inr (.inl ⟨u, l, upd_same, fun z => hr ((pin _ _ m1 m2).mp z), (pin _ _ m2 m1).mpr hs.1.reach, hs, ((hu.ex e8).ex eT).back e16⟩))
  · obtain ⟨l, us, rfl, _, _⟩ := id hu
    refine q_if (b := true) (b_notNP e_is fun _ _ _ p => by cases p; rfl) (fun _ H6 e6 => ?_) fun c => by cases c
    refine run_ret (run_tup (run_cons (run_tC (run_cons ⟨_, rfl, ?_⟩))))
    refine ⟨sz_of (by simp), fun t ht => ?_⟩
    have eT : Ex H6 (upd H6 t (.tup [.str ("yes" : Str), .ref l])) := Ex.new ht
    exact k1 t _ (e15.trans (e6.trans eT)) (e15.free (e6.free ht)) (.inl ⟨u, l, upd_same, (pin _ _ m1 m2).mpr hs.1.reach, hs, ((hu.ex e6).ex eT).back e14⟩)
end
end TK

/-! TkExc: an exception that a suite hands on to a def. -/
namespace L2
open PySem PySem.Spec PyProof.Rows
inductive HdsB (X : Cx) (n : Str) : List ExceptHandler → List (Value × (Addr → Value → Option Addr → TS)) → Prop
  | nil : HdsB X n [] []
  | cons {x : Str} {c : Value} {ts : Addr → Value → Option Addr → TS} {b₀ : Stmt} {suite : List Stmt} {np pos' : Pos} {hds : List ExceptHandler} {l : List (Value × (Addr → Value → Option Addr → TS))} (hc : Names X x c)
      (hsu : ∀ (a : Addr) (oe : Obj) (cls : Value) (d : Option Addr) (pn : List (Addr × Obj)), Zc cls d oe → (∃ vs, oe.data = .fields vs) → X.base.get? a = none → PSs (X.suite a ((a, oe) :: pn)) (b₀ :: suite) (ts a cls d)) (r : HdsB X n hds l) :
      HdsB X n (.ExceptHandler (some (.Name x np)) (some n) (b₀ :: suite) pos' :: hds) ((c, ts) :: l)
section
variable {X : Cx} {n : Str} {i : Nat} {body : List Stmt} {h₀ : ExceptHandler} {hds : List ExceptHandler} {l : List (Value × (Addr → Value → Option Addr → TS))} {pos : Pos} {tb : WX → TS} {Wout : WX}
theorem ps_try_manyB (hs : X.stack = X.env :: X.outer) (hf : X.env.frame = some X.env.locals) (hN : X.N.Nodup) (hi : X.N[i]? = some n) (hln : X.env.kindOf n = some .local) (tk : Takes X Wout)
    (hb : ∀ (W : WX) (pn : List (Addr × Obj)) (xe : Value → Shared → Prop), Takes (X.tr pn xe) W → PassesOwn (model X.prog X.w) X.A X.env xe → PSs (X.tr pn xe) body (tb W))
    (hh : HdsB X n (h₀ :: hds) l) : PS X (.Try body (h₀ :: hds) [] [] pos) (fun D σ H => tb (wManyAs X.K Wout i D l) D σ H) := by
  refine ⟨fun pins s σ H D I hw => ?_⟩
  have ok := I.ok
  have frA : X.A.frames = some (X.env :: X.outer) := by rw [ok.frames, hs]
  have lo : Loc X.env.scope n := .inl hln
  refine wpAny_Try_except ?_
  refine wpAny_mono ((hb (wManyAs X.K Wout i D l) (X.pn ++ pins) (fun e s₁ => wpAny (model X.prog X.w) X.A (noteFrame e X.env) (fun _ s₂ => wpAny (model X.prog X.w) X.A (setFlight e none)
    (fun _ s₃ => wpAny (model X.prog X.w) X.A (handleBy e X.env (h₀ :: hds)) (SP X pins D) X.xe s₃) X.xe s₂) X.xe s₁) (fun u t xx => ?_) PassesOwn.looking).run [] s σ H D (I.toTry _) hw) (fun f s1 sp => ?_) (fun _ _ z => z)
  rotate_left
  · cases f with
    | next => obtain ⟨σ', H', J, q⟩ := sp; exact wpAny_execs_nil ⟨σ', H', J.ofTry ok, q⟩
    | brk => obtain ⟨σ', H', J, q⟩ := sp; exact ⟨σ', H', J.ofTry ok, q⟩
    | cont => obtain ⟨σ', H', J, q⟩ := sp; exact ⟨σ', H', J.ofTry ok, q⟩
    | ret u => obtain ⟨v, σ', H', J, r, q⟩ := sp; exact ⟨v, σ', H', J.ofTry ok, r, q⟩
  obtain ⟨a, B, sI, pins', σ', H', cls, d, rfl, J0, nb, up, sky, na, os, ag, w⟩ := xx
  have J : Inv X pins σ' H' sI := J0.ofTry ok
  have sky1 : Sky B (X.env :: X.outer) a (Zc cls d) X.env.locals t.heap := by rw [← hs]; exact sky
  show wpAny (model X.prog X.w) X.A (noteFrame (.ref a) X.env) _ _ _
  refine Sky.land Zc.steady frA hf sky1 fun h3 fl3 up3 => ?_
  have J3 : Inv X pins σ' H' { t with heap := h3 } := J.landed nb fl3.1 (up.trans up3) os ag
  obtain ⟨oe3, vs3, he3, hz3, hd3⟩ := fl3.there
  have nfr : a ∉ frs (X.env :: X.outer) := fun hm => by
    obtain ⟨_, o', e', hnf⟩ := fl3.2.2.1.mem hm
    rw [he3] at e'
    cases e'
    exact hnf _ hd3
  have nL : a ≠ X.env.locals := fun z => nfr (List.mem_filterMap.mpr ⟨X.env, List.mem_cons_self, by rw [hf, z]⟩)
  have nF : a ∉ X.fs := fun hm => by
    obtain ⟨en, hen, q⟩ := List.mem_filterMap.mp hm
    exact nfr (List.mem_filterMap.mpr ⟨en, List.mem_cons_of_mem _ hen, q⟩)
  have S3 := J3.suite he3 hd3 na nL nF
  have nBase : X.base.get? a = none := by
    cases q : X.base.get? a with
    | none => rfl
    | some o =>
      have h1 := nb a o (J.bs a o q).1 (by rw [hs]; exact nfr)
      have h2 := fl3.2.1
      rw [h1] at h2
      cases h2
  have go : ∀ {hds' : List ExceptHandler} {l' : List (Value × (Addr → Value → Option Addr → TS))}, HdsB X n hds' l' → wManyAs X.K Wout i D l' cls d σ' H' → wpAny (model X.prog X.w) X.A (handleBy (.ref a) X.env hds') (SP X pins D) X.xe { t with heap := h3 } := by
    intro hds' l' hk
    induction hk with
    | nil =>
      intro w
      refine wpAny_handleBy_nil ?_
      obtain ⟨k1, k2, k3, oe, vs, T, oT, ts', he, hz, hd, h1, hr⟩ := id fl3
      unfold PySem.passOn
      refine wpAny_bind (wpAny_field he hd h1 ?_)
      rw [if_neg (show ¬ ((Value.ref T == Value.none) = true) from by simp)]
      have fin : wpAny (model X.prog X.w) X.A (setFlight (.ref a) X.env.frame) (fun _ s4 => wpAny (model X.prog X.w) X.A (throw (.ref a) : Sem Flow) (SP X pins D) X.xe s4) X.xe { t with heap := h3 } := by
        rw [hf]
        exact HandSPX.setFlight_upZ fl3 fun h4 hh4 up4 => wpAny_throw (tk _ _ ⟨a, B, sI, pins, σ', H', cls, d, rfl, J, nb, (up.trans up3).trans up4, .inr (.inr (by rw [hs]; exact hh4)), na, os, ag, w⟩)
      first | exact wpAny_bind (wpAny_pure (wpAny_bind fin)) | exact wpAny_bind fin
    | @cons x c ts b₀ suite np pos' hds2 l2 hc hsu r ih =>
      intro w
      obtain ⟨b, hb1, yes, no⟩ := w
      refine wpAny_handleBy_cons (codeAny_handlers_test ?_) (by intro q; cases q)
      have LT : PySem.W.Looks (model X.prog X.w) h3 (typeOf (.ref a)) cls := fun A Q E s k q => wpAny_typeOf_ref (k _ _ he3) (by rw [hz3.1]; exact q)
      have LM := PySem.W.exm_one (M := model X.prog X.w) (J3.kIn) LT hb1
      have test : ∀ {Q : Value → Shared → Prop} {E : Value → Shared → Prop}, Q c { t with heap := h3 } → wpAny (model X.prog X.w) (X.A.mark (some (.ref a))) (eval (.Name x np) X.env) Q E { t with heap := h3 } := fun {Q E} q => by
        obtain ⟨hg, hdb, hm | ⟨hm, hv, hnn⟩⟩ := hc
        · exact ld_glob (X := X.suite a ((a, oe3) :: (X.pn ++ pins))) S3 hg hm q hdb
        · exact ld_blt (X := X.suite a ((a, oe3) :: (X.pn ++ pins))) S3 hg hm hv q hnn hdb
      refine test (LM.here ?_)
      cases b with
      | false =>
        show wpAny _ X.A (handleBy (.ref a) X.env hds2) _ _ _
        exact ih (no rfl)
      | true =>
        refine codeAny_handlers_suite_as (HandSPX.lands_againZ fl3 fun h4 fl4 up4 => ?_)
        have J4 : Inv X pins σ' H' { t with heap := h4 } := J.landed nb fl4.1 ((up.trans up3).trans up4) os ag
        obtain ⟨oe4, vs4, he4, hz4, hd4⟩ := fl4.there
        have S4 := J4.suite he4 hd4 na nL nF
        refine store_ok (X := X.suite a ((a, oe4) :: (X.pn ++ pins))) (v := .ref a) S4 hN hi lo rfl (fun s5 S5 => ?_) (.inr hln)
        refine wpAny_mono ((hsu a oe4 cls d (X.pn ++ pins) hz4 ⟨_, hd4⟩ nBase).run [] s5 _ H' _ S5 (yes rfl a na)) (fun f s6 sp => ?_) (fun _ _ z => False.elim z)
        have fin : ∀ {σ6 : St} {H6 : Hp} {Q : Shared → Prop}, Inv (X.suite a ((a, oe4) :: (X.pn ++ pins))) [] σ6 H6 s6 → (∀ s7, Inv X pins (σ6.set i none) H6 s7 → Q s7) →
            wpAny (model X.prog X.w) X.A (do bindName X.env n .none; unbindBehindTheSuite X.env n pos') (fun _ s7 => Q s7) X.xe s6 := fun {σ6 H6 Q} S6 hq => gone_ok (S6.unsuite ok) hN hi hln hq
        cases f with
        | next => obtain ⟨σ6, H6, S6, q6⟩ := sp; exact fin S6 fun s7 J7 => ⟨_, _, J7, q6⟩
        | brk => obtain ⟨σ6, H6, S6, q6⟩ := sp; exact fin S6 fun s7 J7 => ⟨_, _, J7, q6⟩
        | cont => obtain ⟨σ6, H6, S6, q6⟩ := sp; exact fin S6 fun s7 J7 => ⟨_, _, J7, q6⟩
        | ret u => obtain ⟨v6, σ6, H6, S6, r6, q6⟩ := sp; exact fin S6 fun s7 J7 => ⟨_, _, _, J7, r6, q6⟩
  exact go hh w
end
/-! ### a def called within a suite -/
structure FnW (P : Program) (w : World) (K : PySem.W.Frag) (mg : Str → Option Value) (base : Heap) (k : Nat) (f : Addr) (fd : FuncData) (ps : List Str) (sp : Sp) : Prop where
  len : ∀ vs H Q E, sp vs H Q E → vs.length = ps.length
  run : ∀ (A : Around) (outer : List Env) (s : Shared) (H : Hp) (args : Args) (us : List Value) (vs : List V) (Q : VK), L2H.RoomH k A → Env0 P w K mg base A outer s H → BindsTo s fd args (ps.zip us) → Vals vs us → sp vs H Q E0 →
    codeAny (model P w) A (.call (.ref f) args) (CR CX0 outer P w H s Q E0) s
def cxW (P : Program) (w : World) (K : PySem.W.Frag) (mg : Str → Option Value) (base : Heap) (N : List Str) (qual : Str) (scope : Scope) (f : Addr) (cd : Value) (A : Around) (outer : List Env) (s : Shared) (H : Hp) : Cx :=
  { cxOf CX0 P w K mg base N qual scope f cd A outer s H E0 with calm := false }
theorem fn_ofW {P : Program} {w : World} {K : PySem.W.Frag} {mg : Str → Option Value} {base : Heap} {k : Nat} {f : Addr} {name qual : Str} {params : Arguments} {body : List Stmt} {scope : Scope} {dV kV doc pm cdv ct oc : Value} {an od : Option Addr}
    {osl : Array (Option Value)} {N ps : List Str} {sp : Sp} (lk : K.lookup f = some ⟨oc, od, .func (PySem.W.fnOf name qual params body scope dV kV doc pm an cdv ct), osl⟩) (hcd : PySem.W.codeIn K cdv qual = true) (S : FnScope N ps scope)
    (len : ∀ vs H Q E, sp vs H Q E → vs.length = ps.length)
    (hbody : ∀ (A : Around) (outer : List Env) (s : Shared) (H : Hp) (vs : List V) (Q : VK), L2H.RoomH k (A.deeper (envOfC qual scope s.heap.objs.size f cdv)) → sp vs H Q E0 →
      ∃ t, PSs (cxW P w K mg base N qual scope f cdv A outer s H) body t ∧ t { nx := fun _ H' => Q .non H', rt := Q } (start N vs) H) :
    FnW P w K mg base (k + 1) f (PySem.W.fnOf name qual params body scope dV kV doc pm an cdv ct) ps sp := by
  refine ⟨len, fun A outer s H args us vs Q hr e0 hb r hsp => ?_⟩
  have hl := len _ _ _ _ hsp
  have KX : K.In s.heap := e0.mod.kin.keeps fun b o e => (e0.bs b o e).1
  have lim : s.heap.NoLimit := e0.mod.nolimit.keeps fun b o e => (e0.bs b o e).1
  have hkind : ∀ y ∈ ps.zip us, scope.names.lookup y.1 = some .local ∨ (scope.names.lookup y.1 = some .cell ∧ ((cellsFrom (s.heap.objs.size + 1) scope.names []).lookup y.1).isSome = true) := fun ⟨n, v⟩ hy => by
    rcases S.par n (List.of_mem_zip hy).1 with q | q
    · exact .inl q
    · exact .inr ⟨q, PySem.W.cellsFrom_some _ _ _ (.inl q)⟩
  refine codeAny_call_function hr.depth (KX _ _ lk) rfl S.co S.gen rfl (PySem.W.codeRec_of KX hcd) (hb _ _ _ _ ?_)
  refine wpAny_newFunctionEnv_cells S.kind hkind fun env he s1 x => ?_
  subst he
  refine ⟨lim.keeps x.toInCall.keep, codeAny_func ?_⟩
  obtain ⟨t, ht, hq⟩ := hbody A outer s H vs Q (hr.deeper _) hsp
  -- the state at its start, as if nothing were handled
  have e1 : Env0 P w K mg base ({ A with handled := none } : Around) outer s H := ⟨e0.frames, e0.mod, e0.bs, e0.bsz, e0.funs, e0.frf, e0.hok, e0.bare⟩
  have I0 : Inv (cxOf CX0 P w K mg base N qual scope f cdv ({ A with handled := none } : Around) outer s H E0) [] (start N vs) H s1 := inv_start S rfl e1 hl r x
  have okW : (cxW P w K mg base N qual scope f cdv A outer s H).Ok := ⟨I0.ok.mod, I0.ok.kind, I0.ok.glob, I0.ok.blt, I0.ok.above, I0.ok.inj, I0.ok.has, I0.ok.cab, fun z => Bool.noConfusion (show false = true from z), I0.ok.frames, I0.ok.stk, I0.ok.exf, I0.ok.bs, I0.ok.bsz, I0.ok.noex, I0.ok.exfs, I0.ok.funs, I0.ok.frf⟩
  have I : Inv (cxW P w K mg base N qual scope f cdv A outer s H) [] (start N vs) H s1 := ⟨okW, I0.os, I0.bare, I0.base, I0.loc, I0.cell, I0.free, I0.freeC, I0.pin, I0.hok, I0.len⟩
  refine wpAny_mono (ht.run [] s1 (start N vs) H _ I hq) (fun fl s' hs => ?_) fun e s' hs => hs
  have fin : ∀ {σ' : St} {H' : Hp} {v : V} {u : Value}, Inv (cxW P w K mg base N qual scope f cdv A outer s H) [] σ' H' s' → RelV v u → Q v H' → CE outer P w H s Q u s' :=
    fun {σ' H' v u} J rv q => ⟨v, H', J.os, J.bare, J.base, J.hok, rv, q⟩
  cases fl with
  | ret u =>
    obtain ⟨v, σ', H', J, rv, q⟩ := hs
    exact fin J rv q
  | next =>
    obtain ⟨σ', H', J, q⟩ := hs
    exact fin (v := V.non) (u := Value.none) J rfl q
  | brk =>
    obtain ⟨_, _, _, q⟩ := hs
    exact False.elim q
  | cont =>
    obtain ⟨_, _, _, q⟩ := hs
    exact False.elim q
structure Cw1 (P : Program) (w : World) (K : PySem.W.Frag) (mg : Str → Option Value) (base : Heap) (k : Nat) (x : Str) (sp : Sp) : Prop where
  ex : ∃ f fd ps, FnW P w K mg base k f fd ps sp ∧ mg x = some (.ref f) ∧ PySem.W.keepIn K (.ref f) = true ∧ Binds K fd ps []
theorem cw_mk {P : Program} {w : World} {K : PySem.W.Frag} {mg : Str → Option Value} {base : Heap} {x : Str} {st : Stmt} {N ps : List Str} {k : Nat} {sp : Sp} (F : DefT K mg x st ps) (S : FnScope N ps (defScope st)) (len : ∀ vs H Q E, sp vs H Q E → vs.length = ps.length)
    (h : ∀ (f : Addr) (cdv : Value) (A : Around) (outer : List Env) (s : Shared) (H : Hp) (vs : List V) (Q : VK), L2H.RoomH k (A.deeper (envOfC x (defScope st) s.heap.objs.size f cdv)) → sp vs H Q E0 →
      ∃ t, PSs (cxW P w K mg base N x (defScope st) f cdv A outer s H) (defBody st) t ∧ t { nx := fun _ H' => Q .non H', rt := Q } (start N vs) H) : Cw1 P w K mg base (k + 1) x sp := by
  obtain ⟨f, fd, G, hm, b⟩ := F.ex
  obtain ⟨oc, od, kV, doc, pm, an, cdv, ct, osl, rfl, lk, hcd⟩ := G.ex
  exact ⟨f, _, ps, fn_ofW lk hcd S len fun A outer s H vs Q hr hsp => h f cdv A outer s H vs Q hr hsp, hm, G.kp, b⟩
end L2
namespace L2H
open PySem PySem.Spec PyProof.Rows
theorem RoomH.units {k : Nat} {A : Around} (r : RoomH k A) : A.units + 64 < cLine := by have := r.un; omega
theorem RoomH.units65 {k : Nat} {A : Around} (r : RoomH k A) : A.units + 65 < cLine := by have := r.un; omega
theorem RoomH.units70 {k : Nat} {A : Around} (r : RoomH k A) : A.units + 70 < cLine := by have := r.un; omega
theorem hu_ofH {k : Nat} {A : Around} (r : RoomH k A) : A.units + 1 < cLine := by have := r.un; omega
end L2H
namespace L2
open PySem PySem.Spec PyProof.Rows
/-! ### tracked, frozen -/
def exA : HO := .ext fun _ => True
theorem exA_ok {P : Program} {w : World} {H : Hp} {h : Heap} {a : Addr} {o : Obj} (e : h.get? a = some o) : ObjOk P w H h a (.frz o exA) := ⟨e, trivial, ⟨o, e⟩, fun _ _ _ _ => trivial⟩
def rem (a : Addr) (H : Hp) : Hp := fun b => if b = a then none else H b
theorem rem_ne {a b : Addr} {H : Hp} (h : b ≠ a) : rem a H b = H b := if_neg h
theorem rem_same {a : Addr} {H : Hp} : rem a H a = none := if_pos rfl
/-- what is known of the exception: its class, its dict -/
def ExZ (cls : Value) (d : Option Addr) (o : Obj) : Prop := Zc cls d o ∧ ∃ vs, o.data = .fields vs
/-- f(e), e the exception that the suite holds -/
def tCallX (a : Addr) (cls : Value) (d : Option Addr) (sp : Sp) (ta : TA) : TE := fun σ H Q => ta σ H fun vs H1 => vs = [.ref a] ∧ ∀ o, ExZ cls d o → sp vs (upd H1 a (.frz o exA)) (fun v H2 => Q v (rem a H2)) E0
section
variable {X : Cx} {k : Nat} {f : Addr} {fd : FuncData} {ps : List Str} {sp : Sp} {x : Str} {p pos : Pos} {e : Expr} {es : List Expr} {t : TA}
theorem run_fnX {a : Addr} {oe : Obj} {cls : Value} {d : Option Addr} {pn pins : List (Addr × Obj)} {σ : St} {H : Hp} {s : Shared} {Q : VK} {us : List Value} {vs : List V} (F : FnW X.prog X.w X.K X.mg X.base k f fd ps sp) (hr : L2H.RoomH k (X.suite a ((a, oe) :: pn)).A) (hb : Binds X.K fd ps []) (hz : ExZ cls d oe) (hbase : X.base.get? a = none)
    (I : Inv (X.suite a ((a, oe) :: pn)) pins σ H s) (r : Vals vs us) (h : ∀ o, ExZ cls d o → sp vs (upd H a (.frz o exA)) (fun v H2 => Q v (rem a H2)) E0) : wpAny (model X.prog X.w) (X.suite a ((a, oe) :: pn)).A (call (.ref f) us) (EP (X.suite a ((a, oe) :: pn)) pins σ Q) (X.suite a ((a, oe) :: pn)).xe s := by
  have h1 := h oe hz
  obtain ⟨pe, pn0, pl, pf, _⟩ := I.pin (a, oe) (List.mem_append.mpr (.inl List.mem_cons_self))
  dsimp only at pe pn0 pl pf
  have hl : us.length = ps.length := by rw [← r.length]; exact F.len _ _ _ _ h1
  have e0 := I.env0
  have nst : a ∉ frs (X.suite a ((a, oe) :: pn)).stack := fun hm => by
    rcases I.ok.stk with q | ⟨q, q2⟩
    · rw [q] at hm; exact pf hm
    · rw [q] at hm
      obtain ⟨en, hen, hq⟩ := List.mem_filterMap.mp hm
      rcases List.mem_cons.mp hen with z | z
      · subst z; rw [q2] at hq; exact pl (Option.some.inj hq).symm
      · exact pf (List.mem_filterMap.mpr ⟨en, z, hq⟩)
  have eX : ∀ b o, H b = some o → upd H a (.frz oe exA) b = some o := fun b o q => by
    by_cases z : b = a
    · subst z; rw [pn0] at q; cases q
    · rw [upd_ne z]; exact q
  have ht : ∀ b xs, H b = some (.tup xs) → upd H a (.frz oe exA) b = some (.tup xs) := fun b xs => eX b _
  have hok1 : HOk X.prog X.w (upd H a (.frz oe exA)) s.heap := fun b o q => by
    by_cases z : b = a
    · subst z
      rw [upd_same] at q
      cases q
      exact exA_ok pe
    · rw [upd_ne z] at q
      exact (I.hok b o q).stay (fun c u _ w => w) (fun c w => eX c _ w) ht
  have env1 : Env0 X.prog X.w X.K X.mg X.base (X.suite a ((a, oe) :: pn)).A (X.suite a ((a, oe) :: pn)).stack s (upd H a (.frz oe exA)) := ⟨e0.frames, e0.mod, fun b o q => ⟨(e0.bs b o q).1, by
    have z : b ≠ a := fun z => by subst z; have q' : X.base.get? b = some o := q; rw [hbase] at q'; cases q'
    rw [upd_ne z]; exact (e0.bs b o q).2⟩, e0.bsz, e0.funs, fun b hbm => by
    have z : b ≠ a := fun z => by subst z; exact nst hbm
    rw [upd_ne z]; exact e0.frf b hbm, hok1, e0.bare⟩
  refine wpAny_call (codeAny_mono (F.run (X.suite a ((a, oe) :: pn)).A (X.suite a ((a, oe) :: pn)).stack s (upd H a (.frz oe exA)) ⟨us, []⟩ us vs _ hr env1 (by have := hb s us I.kIn (by simpa using hl); simpa using this) r h1) fun r s' hq => ?_)
  match r, hq with
  | .error e, hq => exact (show False from hq).elim
  | .ok .next, hq => exact hq.elim
  | .ok .brk, hq => exact hq.elim
  | .ok .cont, hq => exact hq.elim
  | .ok (.ret u), hq =>
    obtain ⟨v, H2, os, bare, un, hok2, rv, q⟩ := hq
    have ha2 : H2 a = some (.frz oe exA) := un.frzs a oe exA upd_same
    have pa2 : s'.heap.get? a = some oe := (hok2 a _ ha2).1
    refine I.after ⟨v, rem a H2, os, bare, ⟨fun b o e n hb hx => ?_, fun b o e n hb hx => ?_, fun b o e n hx => ?_, un.there, fun b xs w => ?_, fun b o u w => ?_, fun b ps w => ?_⟩, fun b o w => ?_, rv, q⟩
    · by_cases z : b = a
      · subst z; rw [pe] at e; cases e; exact pa2
      · exact un.keep b o e (by rw [upd_ne z]; exact n) hb hx
    · by_cases z : b = a
      · subst z; exact absurd hb nst
      · exact un.slot b o e (by rw [upd_ne z]; exact n) hb hx
    · by_cases z : b = a
      · subst z; exact rem_same
      · rw [rem_ne z]; exact un.free b o e (by rw [upd_ne z]; exact n) hx
    · have z : b ≠ a := fun z => by subst z; rw [pn0] at w; cases w
      rw [rem_ne z]; exact un.tups b xs (by rw [upd_ne z]; exact w)
    · have z : b ≠ a := fun z => by subst z; rw [pn0] at w; cases w
      rw [rem_ne z]; exact un.frzs b o u (by rw [upd_ne z]; exact w)
    · have z : b ≠ a := fun z => by subst z; rw [pn0] at w; cases w
      rw [rem_ne z]; exact un.tbls b ps (by rw [upd_ne z]; exact w)
    · have z : b ≠ a := fun z => by subst z; rw [rem_same] at w; cases w
      rw [rem_ne z] at w
      exact (hok2 b o w).stay (fun c u _ w => w) (fun c w => by
        have z : c ≠ a := fun z => by subst z; rw [ha2] at w; cases w
        rw [rem_ne z]; exact w) fun c xs w => by
        have z : c ≠ a := fun z => by subst z; rw [ha2] at w; cases w
        rw [rem_ne z]; exact w
theorem pe_callX {a : Addr} {oe : Obj} {cls : Value} {d : Option Addr} {pn : List (Addr × Obj)} {j : Nat} (c : Cw1 X.prog X.w X.K X.mg X.base k x sp) (hr : Room j X.A) (hk : k ≤ j) (hz : ExZ cls d oe) (hbase : X.base.get? a = none) (hg : Gl (X.suite a ((a, oe) :: pn)) x)
    (ha : PA (X.suite a ((a, oe) :: pn)) (e :: es) t)
    (hdb : (x == ("__debug__" : Str)) = false := by decide) (he : starEach (e :: es) X.env = (false, eval e X.env) :: starEach es X.env := by rfl) (hpl : (backTo pos (starEach es X.env)).any (·.1) = false := by rfl) :
    PE (X.suite a ((a, oe) :: pn)) (.Call (.Name x p) (e :: es) [] pos) (tCallX a cls d sp t) := by
  obtain ⟨f, fd, ps, F, hm, hkp, hb⟩ := c.ex
  refine ⟨fun pins s σ H Q I h => ?_⟩
  refine wpAny_Call_Name_kw (ld_glob I hg hm ?_ hdb)
  refine PySem.W.callWith_K (h₀ := X.base) I.ok.mod.kin hkp (thn (ha.run pos pins s σ H _ I h) fun us s1 ⟨vs, H1, I1, r, e1, q⟩ => ⟨I1.kIn, ?_⟩) he hpl
  exact run_fnX F (L2H.RoomH.mono (show L2H.RoomH j (X.suite a ((a, oe) :: pn)).A from ⟨hr.dp, hr.un⟩) hk) hb hz hbase I1 r q
end
/-- isinstance(e, c), e a tracked exception -/
def rIsX (K : PySem.W.Frag) : List V → Hp → VK → Prop := fun xs H Q => ∃ (x D : Addr) (o : Obj) (u : HO) (d : Option Addr) (fs : List (Str × V)) (c : V) (cv : Value) (b : Bool), xs = [.ref x, c] ∧ H x = some (.frz o u) ∧ ExZ (.ref D) d o ∧ ExcC K D ∧ (∀ dd, d = some dd → H dd = some (.xd fs)) ∧ (∀ u, RelV c u → u = cv) ∧ PySem.W.kitOne K (.ref D) cv = some b ∧ Q (.bl b) H
theorem call_isX {X : Cx} : CallR X (.builtin "isinstance") (rIsX X.K) := by
  intro pins s σ H xs us Q I r h
  obtain ⟨x, D, o, u, d, fs, c, cv, b, rfl, hx, ⟨⟨hc, hd⟩, vs, hv⟩, C, hdd, hcv, e, q⟩ := h
  cases r with
  | cons rx rr =>
    cases rr with
    | cons rt rr =>
      cases rr
      cases rx
      have ec := hcv _ rt
      subst ec
      have hget : s.heap.get? x = some o := (I.hok x _ hx).1
      have J : ∃ od, PySem.W.InstAt s.heap x o D od := by
        cases d with
        | none => exact ⟨none, hget, hc, by unfold PySem.W.notCls; rw [hv], by rw [hd]; trivial⟩
        | some dd =>
          obtain ⟨mA, hm, _⟩ := (show ∃ mA, s.heap.Ns1 dd mA ∧ _ from I.hok dd _ (hdd dd rfl))
          obtain ⟨od, _, _, ho, _⟩ := hm
          exact ⟨some od, hget, hc, by unfold PySem.W.notCls; rw [hv], by rw [hd]; exact ho⟩
      obtain ⟨od, J⟩ := J
      have hcl : (PySem.W.clsIn X.K D).isSome = true := by
        obtain ⟨cd, hcd, _⟩ := PySem.W.any_some C.hd
        rw [hcd]; rfl
      exact PySem.W.kia_one (PySem.W.kitx_exc (od := od) (ox := o) hcl C.hg C.hk C.hs C.ha C.hn C.ht C.hm) I.kIn J e (fun z => nomatch z) fun tk => ⟨.bl b, H, I.kept (t' := tk) fun _ _ z => z, rfl, q⟩
end L2

/-! TkRules9: a class made within a try; == and != of dicts with the same data. -/
namespace L2
open PySem PySem.Spec PyProof.Rows
def tMakeS (C : Addr) (sp : Sp) (E : St → XK) (t : TA) : TE := fun σ H Q => t σ H fun vs H1 => ∀ x dx, H1 x = none → H1 dx = none → dx ≠ x → sp (.ref x :: vs) (upd (upd H1 dx (.own x)) x (.ins C dx [])) (fun v H2 => v = .non ∧ Q (.ref x) H2) (E σ)
section
variable {X : Cx} {CX : CXT} {k j : Nat} {f C : Addr} {fd : FuncData} {ps : List Str} {sp : Sp} {x : Str} {p pos : Pos} {e : Expr} {es : List Expr} {t : TA} {W : St → XK}
theorem run_makeS {pins : List (Addr × Obj)} {σ : St} {H : Hp} {s : Shared} {Q : VK} {us : List Value} {vs : List V} {E : XK} (M : Mk X.K C f) (F : FnOk X.prog X.w X.K X.mg X.base CX k f fd ps sp) (hr : Room (k + 1) X.A) (hb : Binds X.K fd ps [])
    (hx : PassesAt CX X σ E) (I : Inv X pins σ H s) (r : Vals vs us) (h : ∀ x dx, H x = none → H dx = none → dx ≠ x → sp (.ref x :: vs) (upd (upd H dx (.own x)) x (.ins C dx [])) (fun v H2 => v = .non ∧ Q (.ref x) H2) E) :
    wpAny (model X.prog X.w) X.A (call (.ref C) us) (EP X pins σ Q) X.xe s := by
  have hq := h (s.heap.objs.size + 1) s.heap.objs.size (I.hok.fresh (Nat.le_succ _)) (I.hok.fresh (Nat.le_refl _)) (Nat.ne_of_lt (Nat.lt_succ_self _))
  have I2 := Inv.made (C := C) I
  have r2 : Vals (V.ref (s.heap.objs.size + 1) :: vs) (Value.ref (s.heap.objs.size + 1) :: us) := .cons rfl r
  have hl : (Value.ref (s.heap.objs.size + 1) :: us).length = ps.length := by rw [← r2.length]; exact F.len _ _ _ _ hq
  have b := hb _ (Value.ref (s.heap.objs.size + 1) :: us) I2.kIn (by rw [List.append_nil]; exact hl)
  rw [List.append_nil] at b
  refine wpAny_call (make_map (f := f) I.kIn M.makes M.init (beq_iff_eq.mp M.fn) (codeAny_mono (F.run _ X.stack _ _ ⟨Value.ref (s.heap.objs.size + 1) :: us, []⟩ (Value.ref (s.heap.objs.size + 1) :: us) _ _ E (hr.make C us []) (I2.env0.make C us []) b r2 hq) fun r s' hq' => ?_))
  cases r with
  | error e => exact hx pins _ _ e s' I2 hq'
  | ok fl =>
    cases fl with
    | ret u =>
      obtain ⟨v, H', I3, rv, ev, q3⟩ := I2.after hq'
      subst ev
      exact ⟨rv, ⟨V.ref (s.heap.objs.size + 1), H', I3, rfl, q3⟩⟩
    | next => exact False.elim hq'
    | brk => exact False.elim hq'
    | cont => exact False.elim hq'
theorem pe_mkS (c : Mk1 X.prog X.w X.K X.mg X.base CX k x C sp) (hr : Room j X.A) (hk : k + 1 ≤ j) (hg : Gl X x) (hx : ∀ σ, PassesAt CX X σ (W σ)) (ha : PA X (e :: es) t)
    (hdb : (x == ("__debug__" : Str)) = false := by decide) (he : starEach (e :: es) X.env = (false, eval e X.env) :: starEach es X.env := by rfl) (hpl : (backTo pos (starEach es X.env)).any (·.1) = false := by rfl) :
    PE X (.Call (.Name x p) (e :: es) [] pos) (tMakeS C sp W t) := by
  obtain ⟨f, fd, ps, M, F, hm, b⟩ := c.ex
  refine ⟨fun pins s σ H Q I h => ?_⟩
  refine wpAny_Call_Name_kw (ld_glob I hg hm ?_ hdb)
  refine PySem.W.callWith_K (h₀ := X.base) I.ok.mod.kin M.kp (thn (ha.run pos pins s σ H _ I h) fun us s1 ⟨vs, H1, I1, r, q⟩ => ⟨I1.kIn, ?_⟩) he hpl
  exact run_makeS M F (hr.mono hk) b (hx σ) I1 r q
end
/-- the same data behind the same keys -/
def SameK (K : PySem.W.Frag) (H : Hp) (ks ls : List (Key × V)) : Prop := ks.length = ls.length ∧ ∀ z ∈ ks, ∃ t, valV ls z.1 = some t ∧ SameD K H z.2 t
def rEqDD (K : PySem.W.Frag) : R2 := fun x y H Q => ∃ (a b : Addr) (ks ls : List (Key × V)), x = .ref a ∧ y = .ref b ∧ H a = some (.dK ks) ∧ H b = some (.dK ls) ∧ SameK K H ks ls ∧ Q (.bl true) H
def rNeDD (K : PySem.W.Frag) : R2 := fun x y H Q => ∃ (a b : Addr) (ks ls : List (Key × V)), x = .ref a ∧ y = .ref b ∧ H a = some (.dK ks) ∧ H b = some (.dK ls) ∧ SameK K H ks ls ∧ Q (.bl false) H
section
variable {X : Cx}
theorem hits_same {pins : List (Addr × Obj)} {σ : St} {H : Hp} {s : Shared} (I : Inv X pins σ H s) {A : Around} (hu : A.units + 64 < cLine) {ls : List (Key × V)} {vb : List (Key × Value)} (rb : KV ls vb) {ks : List (Key × V)} {va : List (Key × Value)} (ra : KV ks va) :
    (∀ z ∈ ks, ∃ t, valV ls z.1 = some t ∧ SameD X.K H z.2 t) → PySem.W.KeqHits A s vb va true := by
  unfold KV at ra
  induction ra with
  | nil => intro _; exact .nil
  | @cons p q ps qs h t ih =>
    intro hp
    obtain ⟨h1, h2⟩ := h
    obtain ⟨t0, e, d, d1, d2, sh, eq⟩ := hp p List.mem_cons_self
    have rr : RelO (some t0) (valueAt vb p.1) := by rw [← e]; exact rb.val p.1
    obtain ⟨y, hy, ry⟩ := rr.some_of
    obtain ⟨k, v⟩ := q
    have h1' : p.1 = k := h1
    rw [h1'] at hy
    show PySem.W.KeqHits A s vb ((k, v) :: qs) (true && true)
    obtain ⟨as, q1⟩ := Dp.reads I d _ v d1 h2
    obtain ⟨bs, q2⟩ := Dp.reads I d _ y d2 ry
    have z := SeqAt.eqAt_reads d d A s v y as bs q1 q2 (SeqAt.canLay_of_shaped sh) (SeqAt.canLay_of_shaped sh) (by have := SeqAt.depth_of_shaped sh; omega)
    rw [eq] at z
    exact .hit hy z (ih fun p' hm => hp p' (List.mem_cons_of_mem _ hm))
theorem op_eqDD (hu : X.A.units + 70 < cLine) : OpR X (compareOp .Eq) (rEqDD X.K) := by
  intro pins s σ H x y v u Q I rx ry h
  obtain ⟨a, b, ks, ls, rfl, rfl, ea, eb, ⟨hl, hs⟩, q⟩ := h
  obtain rfl : v = Value.ref a := rx
  obtain rfl : u = Value.ref b := ry
  obtain ⟨_, ya, va, ra, da⟩ := (show ObjOk X.prog X.w H s.heap a (.dK ks) from I.hok a _ ea)
  obtain ⟨_, yb, vb, rb, db⟩ := (show ObjOk X.prog X.w H s.heap b (.dK ls) from I.hok b _ eb)
  have e2 : va.length = vb.length := by rw [← ra.length, ← rb.length]; exact hl
  exact PySem.W.keq_eq (knd := mixKind X.prog X.w) (r := true) ya yb da db (by omega) (fun _ => hits_same I (by show X.A.units + 1 + 64 < cLine; omega) rb ra hs) (fin_bl I q (by rw [e2]; simp))
theorem op_neDD (hu : X.A.units + 70 < cLine) : OpR X (compareOp .NotEq) (rNeDD X.K) := by
  intro pins s σ H x y v u Q I rx ry h
  obtain ⟨a, b, ks, ls, rfl, rfl, ea, eb, ⟨hl, hs⟩, q⟩ := h
  obtain rfl : v = Value.ref a := rx
  obtain rfl : u = Value.ref b := ry
  obtain ⟨_, ya, va, ra, da⟩ := (show ObjOk X.prog X.w H s.heap a (.dK ks) from I.hok a _ ea)
  obtain ⟨_, yb, vb, rb, db⟩ := (show ObjOk X.prog X.w H s.heap b (.dK ls) from I.hok b _ eb)
  have e2 : va.length = vb.length := by rw [← ra.length, ← rb.length]; exact hl
  exact PySem.W.keq_ne (knd := mixKind X.prog X.w) (r := true) ya yb da db (by omega) (fun _ => hits_same I (by show X.A.units + 1 + 64 < cLine; omega) rb ra hs) (fin_bl I q (by rw [e2]; simp))
end
end L2

/-! TkX10: what is refused. -/
namespace TK
open PySem L2 PySem.Spec PyProof.Rows
open Enc (enc)
def wNone : Nm := nmOf ""
/-- a word's class -/
inductive WordC (a : Ad) : Addr → Nm → Prop
  | nofact : WordC a a.cNoFact wNoFact
  | nosuch : WordC a a.cNoSuch wNoSuch
  | full : WordC a a.cFull wFull
  | ring : WordC a a.cRing wRing
def sp_w_word_of (K : PySem.W.Frag) (a : Ad) : Sp := fun vs H Q _ => ∃ (x D : Addr) (o : Obj) (u : HO) (d : Option Addr) (w : Nm), vs = [.ref x] ∧ H x = some (.frz o u) ∧ ExZ (.ref D) d o ∧ (∀ dd, d = some dd → ∃ fs, H dd = some (.xd fs)) ∧ WordC a D w ∧ ∀ H', Ex H H' → Q (.str w.s) H'
def NamesFine (ws ths : List Nm) : Prop := ∀ n ∈ ws ++ ths, isNameS n.s = true ∧ (ws ++ ths).count n = 1
/-- how a ground's making is answered: a word, or none -/
def initW (ws ths : List Nm) : Option Nm := if 8 < ws.length ∨ 3 < ths.length then some wFull else if (ws ++ ths).all (fun n => isNameS n.s && decide ((ws ++ ths).count n = 1)) = true then none else some wNoFact
def sp_Ground_init10 (K : PySem.W.Frag) (a : Ad) : Sp := fun vs H Q E => ∃ (Hb : Hp) (p dx : Addr) (ws ths : List Nm) (v w : V), vs = [.ref p, v, w] ∧ Ex Hb H ∧ Hb p = none ∧ H p = some (.ins a.cGround dx []) ∧ Ls ws v Hb ∧ Ls ths w Hb ∧ ws.length ≤ 100 ∧ ths.length ≤ 100 ∧ (∀ n ∈ ws ++ ths, n.s.length ≤ 10000) ∧
  (initW ws ths = none → ∀ A H', Ex Hb H' → A.p = p → Hb A.df = none → Hb A.dc = none → Hb A.lw = none → Hb A.lt = none → GrAt a.cGround (newG ws ths) A H' → Q .non H') ∧
  ∀ wd C, initW ws ths = some wd → WordC a C wd → ∀ H', Ex Hb H' → E (.ref C) none H'
def madeW (ws ths : List Nm) : Nm := (initW ws ths).getD wNone
def sp_w_made (K : PySem.W.Frag) (a : Ad) : Sp := fun vs H Q _ => ∃ (ws ths : List Nm) (v w : V), vs = [v, w] ∧ Ls ws v H ∧ Ls ths w H ∧ ws.length ≤ 100 ∧ ths.length ≤ 100 ∧ (∀ n ∈ ws ++ ths, n.s.length ≤ 10000) ∧ ∀ H', Ex H H' → Q (.str (madeW ws ths).s) H'
inductive Ask where
  | bef (x y : Thing)
  | deed (d : Deed)
  | leans (n : Int)
/-- what is asked, as values -/
def AskAt (q : Ask) (way : Int) (v w : V) (H : Hp) : Prop := match q with
  | .bef x y => way = 0 ∧ D x v H ∧ D y w H
  | .deed (.tell xs) => way = 1 ∧ TupN xs v H ∧ xs.length ≤ 1000
  | .deed (.cross x y) => way = 2 ∧ v = .str x.s ∧ w = .str y.s
  | .deed (.settle n o) => way = 3 ∧ v = .int n ∧ w = .str o.s
  | .deed (.take n) => way = 4 ∧ v = .int n
  | .leans n => way = 5 ∧ v = .int n
/-- refused with a word -/
def Refused (g : GS) (q : Ask) (w : Nm) : Prop := match q with
  | .bef x y => ¬ (x ∈ g.things ∧ y ∈ g.things ∧ x ≠ y) ∧ w = wNoSuch
  | .deed d => (doG g d).1 = .word w
  | .leans n => n ∉ keysA g.facts ∧ w = wNoSuch
def sp_w_asked (K : PySem.W.Frag) (a : Ad) : Sp := fun vs H Q _ => ∃ (g : GS) (A : GA) (q : Ask) (way : Int) (v u : V) (w : Nm), vs = [.ref A.p, .int way, v, u] ∧ GrAt a.cGround g A H ∧ GOk g ∧ AskAt q way v u H ∧ Refused g q w ∧ ∀ H', Ex H H' → Q (.str w.s) H'
def t_Ground_init10 (K : PySem.W.Frag) (a : Ad) (E : XK) : TS :=
  (tSeq (sFld K (tVar 0) (tCB (rListS K) (tCons (tVar 1) tNil)) "walkers") (tSeq (sFld K (tVar 0) (tCB (rListS K) (tCons (tVar 2) tNil)) "weathers") (tSeq (tAsg (tOp rCat (tFld K (tVar 0) "walkers") (tFld K (tVar 0) "weathers")) (gName 3)) (tSeq (tIfS (tOr (tTest (tOp (rI0 fun i j => .bl (decide (j < i))) (tCB (rLen K) (tCons (tFld K (tVar 0) "walkers") tNil)) (tC (V.int 8)))) (tTest (tOp (rI0 fun i j => .bl (decide (j < i))) (tCB (rLen K) (tCons (tFld K (tVar 0) "weathers") tNil)) (tC (V.int 3))))) (fun _ σ H => E (.ref a.cFull) none H) tNext) (tSeq (tFor (iList K (tVar 3)) (gName 4) (tIfS (tOr (tNot (tB (tCall (sp_is_name K a) [] E0 (tCons (tVar 4) tNil)))) (tTest (tOp (rNeD K) (tBM K "list" (rCntF K) (tVar 3) (tCons (tVar 4) tNil)) (tC (.int 1))))) (fun _ σ H => E (.ref a.cNoFact) none H) tNext)) (tSeq (sFld K (tVar 0) tDNewK "facts") (tSeq (sFld K (tVar 0) tDNewK "crossings") (sFld K (tVar 0) (tC (.int 0)) "given"))))))))
def t_w_word_of (K : PySem.W.Frag) (a : Ad) : TS :=
  (tSeq (tAsg (tLst (tCons (tCB (rIsX K) (tCons (tVar 0) (tCons (tC (.ref a.cNoFact)) tNil))) (tCons (tCB (rIsX K) (tCons (tVar 0) (tCons (tC (.ref a.cNoSuch)) tNil))) (tCons (tCB (rIsX K) (tCons (tVar 0) (tCons (tC (.ref a.cFull)) tNil))) (tCons (tCB (rIsX K) (tCons (tVar 0) (tCons (tC (.ref a.cRing)) tNil))) tNil))))) (gName 1)) (tSeq (tDrop (tBM K "list" (rAppend) (tVar 1) (tCons (tCB (rIsX K) (tCons (tVar 0) (tCons (tC (.ref a.cBadText)) tNil))) tNil))) (tSeq (tIfS (tOr (tNot (tB (tCB (rIsX K) (tCons (tVar 0) (tCons (tC (.ty "ValueError")) tNil))))) (tTest (tOp (rNeD K) (tBM K "list" (rCntF K) (tVar 1) (tCons (tC (.bl true)) tNil)) (tC (.int 1))))) (tRet (tC (.str ("other" : Str)))) tNext) (tRet (tOp (rIxL K) (tLst (tCons (tC (.str ("nofact" : Str))) (tCons (tC (.str ("nosuch" : Str))) (tCons (tC (.str ("full" : Str))) (tCons (tC (.str ("ring" : Str))) (tCons (tC (.str ("text" : Str))) tNil)))))) (tBM K "list" (rIndexD K) (tVar 1) (tCons (tC (.bl true)) tNil)))))))
def t_w_made (K : PySem.W.Frag) (a : Ad) : TS :=
  (tSeq (fun Z σ H => (fun W : WX => (tDrop (tMakeS a.cGround (sp_Ground_init10 K a) (WE W) (tCons (tVar 0) (tCons (tVar 1) tNil))))) (wManyAs K (fun _ _ _ _ => False) 2 Z [(Value.ref a.cTrackError, fun b cls d => tRet (tCallX b cls d (sp_w_word_of K a) (tCons (tVar 2) tNil)))]) Z σ H) (tRet (tC (.str ("" : Str)))))
def t_w_asked (K : PySem.W.Frag) (a : Ad) : TS :=
  (tSeq (fun Z σ H => (fun W : WX => (tIfS (tTest (tOp (rEqD K) (tVar 1) (tC (.int 0)))) (tDrop (tMethT a.cGround "before" (sp_Ground_before K a) (WE W) (tVar 0) (tCons (tVar 2) (tCons (tVar 3) tNil)))) (tIfS (tTest (tOp (rEqD K) (tVar 1) (tC (.int 1)))) (tDrop (tMethT a.cGround "tell" (sp_Ground_tell K a) (WE W) (tVar 0) (tCons (tVar 2) tNil))) (tIfS (tTest (tOp (rEqD K) (tVar 1) (tC (.int 2)))) (tDrop (tMethT a.cGround "cross" (sp_Ground_cross K a) (WE W) (tVar 0) (tCons (tVar 2) (tCons (tVar 3) tNil)))) (tIfS (tTest (tOp (rEqD K) (tVar 1) (tC (.int 3)))) (tDrop (tMethT a.cGround "settle" (sp_Ground_settle K a) (WE W) (tVar 0) (tCons (tVar 2) (tCons (tVar 3) tNil)))) (tIfS (tTest (tOp (rEqD K) (tVar 1) (tC (.int 4)))) (tDrop (tMethT a.cGround "take" (sp_Ground_take K a) (WE W) (tVar 0) (tCons (tVar 2) tNil))) (tDrop (tMethT a.cGround "leans" (sp_Ground_leans K a) (WE W) (tVar 0) (tCons (tVar 2) tNil))))))))) (wManyAs K (fun _ _ _ _ => False) 4 Z [(Value.ref a.cTrackError, fun b cls d => tRet (tCallX b cls d (sp_w_word_of K a) (tCons (tVar 4) tNil)))]) Z σ H) (tRet (tC (.str ("" : Str)))))
/-- how the classes stand to each other -/
structure WordT (K : PySem.W.Frag) (a : Ad) : Prop where
  c1 : ExcC K a.cNoFact
  c2 : ExcC K a.cNoSuch
  c3 : ExcC K a.cFull
  c4 : ExcC K a.cRing
  k00 : PySem.W.kitOne K (.ref a.cNoFact) (.ref a.cNoFact) = some true
  k01 : PySem.W.kitOne K (.ref a.cNoFact) (.ref a.cNoSuch) = some false
  k02 : PySem.W.kitOne K (.ref a.cNoFact) (.ref a.cFull) = some false
  k03 : PySem.W.kitOne K (.ref a.cNoFact) (.ref a.cRing) = some false
  k04 : PySem.W.kitOne K (.ref a.cNoFact) (.ref a.cBadText) = some false
  k05 : PySem.W.kitOne K (.ref a.cNoFact) (.type "ValueError") = some true
  k10 : PySem.W.kitOne K (.ref a.cNoSuch) (.ref a.cNoFact) = some false
  k11 : PySem.W.kitOne K (.ref a.cNoSuch) (.ref a.cNoSuch) = some true
  k12 : PySem.W.kitOne K (.ref a.cNoSuch) (.ref a.cFull) = some false
  k13 : PySem.W.kitOne K (.ref a.cNoSuch) (.ref a.cRing) = some false
  k14 : PySem.W.kitOne K (.ref a.cNoSuch) (.ref a.cBadText) = some false
  k15 : PySem.W.kitOne K (.ref a.cNoSuch) (.type "ValueError") = some true
  k20 : PySem.W.kitOne K (.ref a.cFull) (.ref a.cNoFact) = some false
  k21 : PySem.W.kitOne K (.ref a.cFull) (.ref a.cNoSuch) = some false
  k22 : PySem.W.kitOne K (.ref a.cFull) (.ref a.cFull) = some true
  k23 : PySem.W.kitOne K (.ref a.cFull) (.ref a.cRing) = some false
  k24 : PySem.W.kitOne K (.ref a.cFull) (.ref a.cBadText) = some false
  k25 : PySem.W.kitOne K (.ref a.cFull) (.type "ValueError") = some true
  k30 : PySem.W.kitOne K (.ref a.cRing) (.ref a.cNoFact) = some false
  k31 : PySem.W.kitOne K (.ref a.cRing) (.ref a.cNoSuch) = some false
  k32 : PySem.W.kitOne K (.ref a.cRing) (.ref a.cFull) = some false
  k33 : PySem.W.kitOne K (.ref a.cRing) (.ref a.cRing) = some true
  k34 : PySem.W.kitOne K (.ref a.cRing) (.ref a.cBadText) = some false
  k35 : PySem.W.kitOne K (.ref a.cRing) (.type "ValueError") = some true
structure TrackT (K : PySem.W.Frag) (a : Ad) : Prop where
  nofact : PySem.W.exmOne K (.ref a.cNoFact) (.ref a.cTrackError) = some true
  nosuch : PySem.W.exmOne K (.ref a.cNoSuch) (.ref a.cTrackError) = some true
  full : PySem.W.exmOne K (.ref a.cFull) (.ref a.cTrackError) = some true
  ring : PySem.W.exmOne K (.ref a.cRing) (.ref a.cTrackError) = some true
theorem TrackT.of {K : PySem.W.Frag} {a : Ad} (X : TrackT K a) {C : Addr} {w : Nm} (h : WordC a C w) : PySem.W.exmOne K (.ref C) (.ref a.cTrackError) = some true := by
  cases h
  · exact X.nofact
  · exact X.nosuch
  · exact X.full
  · exact X.ring
section
variable {K : PySem.W.Frag} {a : Ad} {vs : List V} {H H' : Hp} {Q : VK} {E : XK}
/-! ### _law_word_of -/
/-- the class's place among the five, and what is asked of it -/
structure KindT (K : PySem.W.Frag) (a : Ad) (D : Addr) (w : Nm) (i : Nat) (b0 b1 b2 b3 : Bool) : Prop where
  c : ExcC K D
  k0 : PySem.W.kitOne K (.ref D) (.ref a.cNoFact) = some b0
  k1 : PySem.W.kitOne K (.ref D) (.ref a.cNoSuch) = some b1
  k2 : PySem.W.kitOne K (.ref D) (.ref a.cFull) = some b2
  k3 : PySem.W.kitOne K (.ref D) (.ref a.cRing) = some b3
  k4 : PySem.W.kitOne K (.ref D) (.ref a.cBadText) = some false
  k5 : PySem.W.kitOne K (.ref D) (.type "ValueError") = some true
  cnt : [V.bl b0, V.bl b1, V.bl b2, V.bl b3, V.bl false].countP (fun z => eqV z (.bl true)) = 1
  at_ : ([b0, b1, b2, b3, false] : List Bool)[i]? = some true
  bef : ∀ m, m < i → ([b0, b1, b2, b3, false] : List Bool)[m]? = some false
  wd : ([wNoFact, wNoSuch, wFull, wRing, nmOf "text"] : List Nm)[i]? = some w
theorem WordT.kind {D : Addr} {w : Nm} (X : WordT K a) (h : WordC a D w) : ∃ i b0 b1 b2 b3, KindT K a D w i b0 b1 b2 b3 := by
  cases h
  · exact ⟨0, _, _, _, _, X.c1, X.k00, X.k01, X.k02, X.k03, X.k04, X.k05, by decide +kernel, rfl, fun m hm => absurd hm (Nat.not_lt_zero _), rfl⟩
  · exact ⟨1, _, _, _, _, X.c2, X.k10, X.k11, X.k12, X.k13, X.k14, X.k15, by decide +kernel, rfl, fun m hm => by match m, hm with | 0, _ => rfl, rfl⟩
  · exact ⟨2, _, _, _, _, X.c3, X.k20, X.k21, X.k22, X.k23, X.k24, X.k25, by decide +kernel, rfl, fun m hm => by match m, hm with | 0, _ => rfl | 1, _ => rfl, rfl⟩
  · exact ⟨3, _, _, _, _, X.c4, X.k30, X.k31, X.k32, X.k33, X.k34, X.k35, by decide +kernel, rfl, fun m hm => by match m, hm with | 0, _ => rfl | 1, _ => rfl | 2, _ => rfl, rfl⟩
theorem len_w_word_of (K : PySem.W.Frag) (a : Ad) : ∀ vs H Q E, sp_w_word_of K a vs H Q E → vs.length = 1 := fun _ _ _ _ ⟨_, _, _, _, _, _, e, _⟩ => by rw [e]; rfl
theorem e_isX {σ : L2.St} {te tc : TE} {x C0 : Addr} {o : Obj} {u : HO} {d : Option Addr} {c : V} {cv : Value} {b : Bool} (h : EV te σ H (Is (.ref x))) (hc : EV tc σ H (Is c)) (hx : H x = some (.frz o u)) (hz : ExZ (.ref C0) d o) (C : ExcC K C0) (hd : ∀ dd, d = some dd → ∃ fs, H dd = some (.xd fs)) (hcv : ∀ u, RelV c u → u = cv) (k : PySem.W.kitOne K (.ref C0) cv = some b) :
    EV (tCB (rIsX K) (tCons te (tCons tc tNil))) σ H (D b) := fun H1 e Q q =>
  h H1 e _ fun v H2 e2 p => hc H2 (e.trans e2) _ fun v' H3 e3 p' => by
    cases p
    cases p'
    have e03 := (e.trans e2).trans e3
    have hfs : ∃ fs, ∀ dd, d = some dd → H3 dd = some (.xd fs) := by
      cases d with
      | none => exact ⟨[], fun dd h => nomatch h⟩
      | some dd =>
        obtain ⟨fs, hf⟩ := hd dd rfl
        exact ⟨fs, fun dd' h => by cases h; exact e03 _ _ hf⟩
    obtain ⟨fs, hf⟩ := hfs
    exact ⟨x, C0, o, u, d, fs, c, cv, b, rfl, e03 _ _ hx, hz, C, hf, hcv, k, q _ H3 (e2.trans e3) (Td.bl b)⟩
theorem rel_ref {p : Addr} : ∀ u, RelV (.ref p) u → u = Value.ref p := fun u h => h
theorem rel_ty {T : String} : ∀ u, RelV (.ty T) u → u = Value.type T := fun u h => h
theorem p_w_word_of (T : ClT K a) (X : WordT K a) (h : sp_w_word_of K a vs H Q E) : t_w_word_of K a (FinQ Q) (start ["_law_e", "_law_kinds"] vs) H := by
  obtain ⟨x, D, o, u, d, w, rfl, hx, hz, hd, hw, k⟩ := h
  obtain ⟨i, b0, b1, b2, b3, k0⟩ := X.kind hw
  show tSeq _ _ _ [some (.ref x), none] H
  have is : ∀ (n : Option V) (H1 : Hp) (tc : TE) (c : V) (cv : Value) (b : Bool), Ex H H1 → EV tc [some (.ref x), n] H1 (Is c) → (∀ u, RelV c u → u = cv) → PySem.W.kitOne K (.ref D) cv = some b → EV (tCB (rIsX K) (tCons (tVar 0) (tCons tc tNil))) [some (.ref x), n] H1 (TK.D b) := fun n H1 tc c cv b e hc hr hk =>
    e_isX (K := K) (x := x) (C0 := D) (te := tVar 0) e_is hc (e _ _ hx) hz k0.c (fun dd h => by obtain ⟨fs, hf⟩ := hd dd h; exact ⟨fs, e _ _ hf⟩) hr hk
  have hl : EV (tLst (tCons (tCB (rIsX K) (tCons (tVar 0) (tCons (tC (.ref a.cNoFact)) tNil))) (tCons (tCB (rIsX K) (tCons (tVar 0) (tCons (tC (.ref a.cNoSuch)) tNil))) (tCons (tCB (rIsX K) (tCons (tVar 0) (tCons (tC (.ref a.cFull)) tNil))) (tCons (tCB (rIsX K) (tCons (tVar 0) (tCons (tC (.ref a.cRing)) tNil))) tNil))))) [some (.ref x), none] H (NL H [b0, b1, b2, b3]) :=
    e_lst (el_cons (is _ _ _ _ _ _ (Ex.refl _) e_c rel_ref k0.k0) (el_cons (is _ _ _ _ _ _ (Ex.refl _) e_c rel_ref k0.k1) (el_cons (is _ _ _ _ _ _ (Ex.refl _) e_c rel_ref k0.k2) (el_cons (is _ _ _ _ _ _ (Ex.refl _) e_c rel_ref k0.k3) el_nil)))) (by simp)
  refine q_set hl fun v1 H1 e1 p1 => ?_
  obtain ⟨l, us, rfl, l0, l1, l2⟩ := p1
  show tSeq _ _ _ [some (.ref x), some (.ref l)] H1
  refine q_App (α := Bool) (x := false) e_is (is _ _ _ _ _ _ e1 e_c rel_ref k0.k4) ⟨l, us, rfl, l1, l2⟩ (by simp) fun H2 H3 e2 c3 s3 h3 => ?_
  have e13 : Ex H H3 := c3.exB (e1.trans e2) (by simp [l0])
  have h3 : Ls [b0, b1, b2, b3, false] (.ref l) H3 := h3
  have hvs : ∀ (H4 : Hp), Ex H3 H4 → H4 l = some (.lst [.bl b0, .bl b1, .bl b2, .bl b3, .bl false]) := fun H4 e4 => by
    obtain ⟨l', us', z, h1, h2⟩ := h3.ex e4
    cases z
    rw [h1]
    cases h2 with
    | cons a1 a2 => cases a2 with
      | cons a2 a3 => cases a3 with
        | cons a3 a4 => cases a4 with
          | cons a4 a5 => cases a5 with
            | cons a5 a6 => cases a6; cases a1; cases a2; cases a3; cases a4; cases a5; rfl
  have tcnt : EV (tBM K "list" (rCntF K) (tVar 1) (tCons (tC (.bl true)) tNil)) [some (.ref x), some (.ref l)] H3 (TK.D (1 : Int)) := fun H4 e4 Q q => by
    refine ⟨_, rfl, Or.inl ⟨rfl, _, sq_of (hvs H4 e4)⟩, run_cons (run_tC ?_)⟩
    refine ⟨l, _, .bl true, rfl, rfl, sq_of (hvs H4 e4), rfl, rfl, ?_⟩
    rw [k0.cnt]
    exact q _ H4 (Ex.refl _) (TK.D.of_int _ _)
  refine q_if (b := false) (b_to (b_or (a := false) (b_to (b_not (b_val ((is _ _ _ _ _ _ e13 e_c rel_ty k0.k5).imp fun v H4 e4 p => by
    have p : Td H4 v (.bool true) := p
    cases p; exact rfl))) rfl) fun _ => b_ne (K := K) (α := Int) tcnt (e_int (i := 1))) (by simp)) (fun c => by cases c) fun _ H4 e4 => ?_
  have tix : EV (tBM K "list" (rIndexD K) (tVar 1) (tCons (tC (.bl true)) tNil)) [some (.ref x), some (.ref l)] H4 (TK.D ((i : Nat) : Int)) := fun H5 e5 Q q => by
    have h5 := h3.ex (e4.trans e5)
    refine ⟨_, rfl, Or.inl ⟨rfl, _, sq_of (hvs H5 (e4.trans e5))⟩, run_cons (run_tC ?_)⟩
    refine ⟨l, .bl true, enc true, ([b0, b1, b2, b3, false] : List Bool).map enc, i, enc true, rfl, rfl, h5.dp, td_dp _ (Td.bl true), shaped_list (α := Bool) [b0, b1, b2, b3, false], shaped_enc (α := Bool) true, ?_, by rw [Enc.eqv]; exact decide_eq_true rfl, fun m z' hm' hz' => ?_, q _ H5 (Ex.refl _) (TK.D.of_int _ _)⟩
    · rw [List.getElem?_map, k0.at_]; rfl
    · rw [List.getElem?_map, k0.bef m hm'] at hz'
      have : enc false = z' := Option.some.inj hz'
      subst this
      rw [Enc.eqv]; rfl
  have hwl : EV (tLst (tCons (tC (.str ("nofact" : Str))) (tCons (tC (.str ("nosuch" : Str))) (tCons (tC (.str ("full" : Str))) (tCons (tC (.str ("ring" : Str))) (tCons (tC (.str ("text" : Str))) tNil)))))) [some (.ref x), some (.ref l)] H4 (NL H4 [wNoFact, wNoSuch, wFull, wRing, nmOf "text"]) :=
    e_lst (el_cons (e_str wNoFact) (el_cons (e_str wNoSuch) (el_cons (e_str wFull) (el_cons (e_str wRing) (el_cons (e_str (nmOf "text")) el_nil))))) (by simp)
  refine s_ret (P := TK.D w) (e_ixL (j := i) hwl.ls tix (atI_nat k0.wd)) fun v H5 e5 p5 => ?_
  cases p5.is_nm
  exact k H5 (e13.trans (e4.trans e5))
/-! ### Ground(..), refused or not -/
theorem len_Ground_init10 (K : PySem.W.Frag) (a : Ad) : ∀ vs H Q E, sp_Ground_init10 K a vs H Q E → vs.length = 3 := fun _ _ _ _ ⟨_, _, _, _, _, _, _, e, _⟩ => by rw [e]; rfl
theorem initW_none {ws ths : List Nm} (h : initW ws ths = none) : NamesOk ws ths := by
  unfold initW at h
  split at h
  · cases h
  · rename_i h1
    split at h
    · rename_i h2
      have h3 := List.all_eq_true.mp h2
      refine ⟨by omega, by omega, List.nodup_iff_count.mpr fun n => ?_, fun n hn => ?_⟩
      · by_cases hn : n ∈ ws ++ ths
        · have := h3 n hn
          simp only [Bool.and_eq_true, decide_eq_true_eq] at this
          omega
        · rw [List.count_eq_zero_of_not_mem hn]; omega
      · have := h3 n hn
        simp only [Bool.and_eq_true] at this
        exact this.1
    · cases h
theorem e_cntG {σ : L2.St} {ta tb : TE} {ns : List Nm} {n : Nm} (h1 : EV ta σ H (Ls ns)) (h2 : EV tb σ H (D n)) : EV (tBM K "list" (rCntF K) ta (tCons tb tNil)) σ H (D ((ns.count n : Nat) : Int)) := fun H1 e Q q =>
  h1 H1 e _ fun v H2 e2 p => by
    obtain ⟨l, rfl, hl⟩ := ls_strs p
    refine ⟨Or.inl ⟨rfl, _, sq_of hl⟩, h2 H2 (e.trans e2) _ fun y H3 e3 d => ?_⟩
    cases d.is_nm
    refine ⟨l, _, _, rfl, rfl, sq_of (e3 _ _ hl), rfl, flat_strs ns, ?_⟩
    have hc : (ns.map fun w => V.str w.s).countP (fun z => eqV z (.str n.s)) = ns.count n := by
      rw [List.countP_map, List.count]
      refine List.countP_congr fun m _ => ?_
      show eqV (.str m.s) (.str n.s) = true ↔ (m == n) = true
      rw [beq_iff_eq]
      show decide (m.s = n.s) = true ↔ m = n
      rw [decide_eq_true_iff]
      exact ⟨Nm.ext', fun h => by rw [h]⟩
    rw [hc]
    exact q _ H3 (e2.trans e3) (D.of_int _ _)
theorem p_Ground_init10 (T : ClT K a) (h : sp_Ground_init10 K a vs H Q E) : t_Ground_init10 K a E (FinQ Q) (start ["self", "walkers", "weathers", "names", "name"] vs) H := by
  obtain ⟨Hb, p, dx, ws, ths, v, w, rfl, eb, hp0, hp, hv, hw, zw, zt, zn, k1, k2⟩ := h
  cases hi : initW ws ths with
  | none => exact p_Ground_init T ⟨Hb, p, dx, ws, ths, v, w, rfl, eb, hp0, hp, hv, hw, initW_none hi, k1 hi⟩
  | some wd =>
  have hne : ∀ {H : Hp} {l : Addr} {xs : List Nm} {o}, H p = some (.ins a.cGround dx o) → Ls xs (.ref l) H → l ∉ [p] := fun {H l xs o} h ⟨q, us, e1, e2, _⟩ z => by
    cases e1
    simp at z
    rw [z, h] at e2
    cases e2
  show tSeq _ _ _ [some (.ref p), some v, some w, none, none] H
  refine q_sfld (p := p) (C := a.cGround) (P1 := NL H ws) (e_list (e_var (hv.ex eb))) (fun H1 e => e_is) fun v1 H1 e1 p1 => ⟨dx, [], e1 _ _ hp, T.gr, T.walkers, by decide, fun H2 e2 => ?_⟩
  obtain ⟨lw, uw, rfl, hl0, hl1, hu1⟩ := p1
  have b1 := (eb.trans (e1.trans e2)).mut hp0 (o := .ins a.cGround dx (putF "walkers" (.ref lw) []))
  have x1 : (upd H2 p (.ins a.cGround dx (putF "walkers" (.ref lw) []))) p = some (.ins a.cGround dx (fl1 lw)) := upd_same
  have s1 : Ls ws (.ref lw) (upd H2 p (.ins a.cGround dx (putF "walkers" (.ref lw) []))) := by
    have q : Ls ws (.ref lw) H2 := Ls.ex ⟨lw, uw, rfl, hl1, hu1⟩ e2
    exact q.chg (upd_chg (Hb := Hb) ((e1.trans e2) _ _ hp) True.intro) (hne ((e1.trans e2) _ _ hp) q)
  generalize upd H2 p (.ins a.cGround dx (putF "walkers" (.ref lw) [])) = Hc at b1 x1 s1
  clear e1 e2 hl0 hl1 hu1 H1 H2
  refine q_sfld (p := p) (C := a.cGround) (P1 := NL Hc ths) (e_list (e_var (hw.ex b1))) (fun H1 e => e_is) fun v1 H1 e1 p1 => ⟨dx, _, e1 _ _ x1, T.gr, T.weathers, by simp, fun H2 e2 => ?_⟩
  obtain ⟨lt, uw, rfl, hl0, hl1, hu1⟩ := p1
  have hpf : putF "weathers" (.ref lt) (fl1 lw) = (fl2 lw lt) := by rw [pf_miss (by decide +kernel)]; rfl
  rw [hpf]
  have b2 := (b1.trans (e1.trans e2)).mut hp0 (o := .ins a.cGround dx (fl2 lw lt))
  have x2 : (upd H2 p (.ins a.cGround dx (fl2 lw lt))) p = some (.ins a.cGround dx (fl2 lw lt)) := upd_same
  have c2 := upd_chg (Hb := Hb) (o' := .ins a.cGround dx (fl2 lw lt)) ((e1.trans e2) _ _ x1) True.intro
  have s2 : Ls ws (.ref lw) (upd H2 p (.ins a.cGround dx (fl2 lw lt))) := (s1.ex (e1.trans e2)).chg c2 (hne ((e1.trans e2) _ _ x1) (s1.ex (e1.trans e2)))
  have t2 : Ls ths (.ref lt) (upd H2 p (.ins a.cGround dx (fl2 lw lt))) := by
    have q : Ls ths (.ref lt) H2 := Ls.ex ⟨lt, uw, rfl, hl1, hu1⟩ e2
    exact q.chg c2 (hne ((e1.trans e2) _ _ x1) q)
  generalize upd H2 p (.ins a.cGround dx (fl2 lw lt)) = Hd at b2 x2 s2 t2
  clear e1 e2 hl0 hl1 hu1 c2 H1 H2 x1 s1 b1
  have fw : ∀ {H3 : Hp} {σ : L2.St}, σ[0]? = some (some (.ref p)) → Ex Hd H3 → EV (tFld K (tVar 0) "walkers") σ H3 (Ls ws) := fun hs e => e_fld (e_is hs) (e _ _ x2) T.gr T.walkers lk_hit fun H1 e1 => s2.ex (e.trans e1)
  have ft : ∀ {H3 : Hp} {σ : L2.St}, σ[0]? = some (some (.ref p)) → Ex Hd H3 → EV (tFld K (tVar 0) "weathers") σ H3 (Ls ths) := fun hs e => e_fld (e_is hs) (e _ _ x2) T.gr T.weathers ((lk_miss (by decide +kernel)).trans lk_hit) fun H1 e1 => t2.ex (e.trans e1)
  show tSeq _ _ _ [some (.ref p), some v, some w, none, none] Hd
  refine q_set (e_cat (fw rfl (Ex.refl _)) (ft rfl (Ex.refl _)) (by omega)) fun v3 H3 e3 p3 => ?_
  show tSeq _ _ _ [some (.ref p), some v, some w, some v3, none] H3
  refine q_if (b_or (b_I0 (g := fun i j => decide (j < i)) (e_len (fw rfl e3)) (e_int (i := 8))) fun _ => b_I0 (g := fun i j => decide (j < i)) (e_len (ft rfl e3)) (e_int (i := 3))) (fun c H4 e4 => ?_) fun c H4 e4 => ?_
  · simp only [Bool.or_eq_true, decide_eq_true_eq] at c
    have hwd : wd = wFull := by
      unfold initW at hi
      rw [if_pos (by omega)] at hi
      exact (Option.some.inj hi).symm
    subst hwd
    exact k2 _ _ hi .full H4 (b2.trans (e3.trans e4))
  simp only [Bool.or_eq_false_iff, decide_eq_false_iff_not] at c
  have e34 := e3.trans e4
  refine q_for (α := Nm) (xs := ws ++ ths) (P := Ls (ws ++ ths)) (e_var (p3.ls.ex e4)) (fun _ _ p => p) (fun H2 v2 pre σ' H' => ∃ (n : Option V), σ' = [some (.ref p), some v, some w, some v3, n] ∧ Ex H2 H' ∧ ∀ n ∈ pre, isNameS n.s = true ∧ (ws ++ ths).count n = 1) ?_ ?_ ?_ ?_
  · exact fun v2 H2 e2 p2 => ⟨_, rfl, Ex.refl _, fun n hn => nomatch hn⟩
  · rintro v2 H2 pre σ' H' e2 p2 ⟨n, rfl, e5, _⟩
    exact p2.ex e5
  · rintro v2 H2 pre n post y σ' H' e2 p2 hsp ⟨nn, rfl, e5, hall⟩ dy
    have hn : n ∈ ws ++ ths := by rw [hsp]; simp
    have tn : EV (tCall (sp_is_name K a) [] E0 (tCons (tVar 4) tNil)) [some (.ref p), some v, some w, some v3, some y] H' (Is (.bl (isNameS n.s))) :=
      e_call1 (P1 := D n) (e_var dy) fun x H1 e p Q q => ⟨n, by rw [p.is_nm], zn n hn, fun H' e' => q _ H' e' rfl⟩
    have tc : EV (tBM K "list" (rCntF K) (tVar 3) (tCons (tVar 4) tNil)) [some (.ref p), some v, some w, some v3, some y] H' (D (((ws ++ ths).count n : Nat) : Int)) :=
      e_cntG (ns := ws ++ ths) (e_var (p3.ls.ex (e4.trans (e2.trans e5)))) (e_var dy)
    unfold gName
    refine s_if (b_or (b_not (b_val tn)) fun _ => b_ne (α := Int) (K := K) tc (e_int (i := 1))) (fun c5 H5 e6 => ?_) fun c5 H5 e6 => ?_
    · have hwd : wd = wNoFact := by
        unfold initW at hi
        rw [if_neg (by omega), if_neg (fun z => by
          have := List.all_eq_true.mp z n hn
          simp only [Bool.and_eq_true, decide_eq_true_eq] at this
          rw [this.1, this.2] at c5
          simp at c5)] at hi
        exact (Option.some.inj hi).symm
      subst hwd
      exact k2 _ _ hi .nofact H5 (b2.trans (e34.trans (e2.trans (e5.trans e6))))
    · refine ⟨_, rfl, e5.trans e6, fun m hm => ?_⟩
      rcases List.mem_append.mp hm with q | q
      · exact hall m q
      · simp at q
        subst q
        simp only [Bool.or_eq_false_iff, Bool.not_eq_false', decide_eq_true_eq] at c5
        exact ⟨c5.1, by omega⟩
  · rintro v2 H2 σ' H' e2 p2 ⟨n, rfl, e5, hall⟩
    exfalso
    unfold initW at hi
    rw [if_neg (by omega), if_pos (List.all_eq_true.mpr fun n hn => by
      have := hall n hn
      simp only [Bool.and_eq_true, decide_eq_true_eq]
      exact this)] at hi
    cases hi
/-! ### what a suite tells -/
abbrev trk (K : PySem.W.Frag) (a : Ad) (i : Nat) (Z : Ends) : WX := wManyAs K (fun _ _ _ _ => False) i Z [(Value.ref a.cTrackError, fun b cls d => tRet (tCallX b cls d (sp_w_word_of K a) (tCons (tVar i) tNil)))]
theorem caught {Z : Ends} {σ : L2.St} {i : Nat} {C : Addr} {d : Option Addr} {w : Nm} (X : TrackT K a) (hw : WordC a C w) (hd : ∀ dd, d = some dd → ∃ fs, H dd = some (.xd fs)) (hi : i < σ.length) (k : ∀ H', Ex H H' → Z.rt (.str w.s) H') : trk K a i Z (.ref C) d σ H := by
  refine ⟨true, X.of hw, fun _ x hx => ?_, fun c => by cases c⟩
  refine run_ret ?_
  refine ⟨.ref x, by rw [List.getElem?_set_self hi], rfl, fun o ho => ⟨x, C, o, exA, d, w, rfl, upd_same, ho, fun dd h => ?_, hw, fun H' e' => k (rem x H') fun b o q => ?_⟩⟩
  · obtain ⟨fs, hf⟩ := hd dd h
    exact ⟨fs, by rw [upd_ne (fun z => by rw [z, hx] at hf; cases hf)]; exact hf⟩
  · have hb : b ≠ x := fun z => by rw [z, hx] at q; cases q
    rw [rem_ne hb]
    exact e' b o (by rw [upd_ne hb]; exact q)
theorem len_w_made (K : PySem.W.Frag) (a : Ad) : ∀ vs H Q E, sp_w_made K a vs H Q E → vs.length = 2 := fun _ _ _ _ ⟨_, _, _, _, e, _⟩ => by rw [e]; rfl
theorem p_w_made (T : ClT K a) (X : TrackT K a) (h : sp_w_made K a vs H Q E) : t_w_made K a (FinQ Q) (start ["_law_walkers", "_law_weathers", "_law_e"] vs) H := by
  obtain ⟨ws, ths, v, w, rfl, hv, hw, zw, zt, zn, k⟩ := h
  refine run_seq ?_
  show tDrop (tMakeS a.cGround (sp_Ground_init10 K a) (WE (trk K a 2 _)) (tCons (tVar 0) (tCons (tVar 1) tNil))) _ [some v, some w, none] H
  refine ⟨v, rfl, w, rfl, fun x dx hx hdx hne => ⟨H, x, dx, ws, ths, v, w, rfl, ex_new2 hx hdx, hx, upd_same, hv, hw, zw, zt, zn, fun hi A H' e _ _ _ _ _ _ => ⟨rfl, ?_⟩, fun wd C hi hc H' e => ?_⟩⟩
  · dsimp only
    refine run_ret (run_tC ?_)
    have := k H' e
    unfold madeW at this
    rw [hi] at this
    exact this
  · refine caught X hc (fun dd h => by cases h) (by simp) fun H'' e'' => ?_
    have := k H'' (e.trans e'')
    unfold madeW at this
    rw [hi] at this
    exact this
theorem len_w_asked (K : PySem.W.Frag) (a : Ad) : ∀ vs H Q E, sp_w_asked K a vs H Q E → vs.length = 4 := fun _ _ _ _ ⟨_, _, _, _, _, _, _, e, _⟩ => by rw [e]; rfl
theorem gans_word {g : GS} {A : GA} {dd : Deed} {f? : Option Fact} {w : Nm} {Z : Ends} {σ : L2.St} {i : Nat} {Q' : VK} (X : TrackT K a) (hw : (doG g dd).1 = .word w) (hi : i < σ.length) (k : ∀ H', Ex H H' → Z.rt (.str w.s) H') : GAns a g A dd f? H Q' (WE (trk K a i Z) σ) := by
  unfold GAns
  rw [hw]
  refine ⟨fun e H' ex => ?_, fun e H' ex => ?_, fun e H' ex => ?_, fun e f row d x H' _ _ ex hd hd' _ => ?_⟩
  · subst e; exact caught X .nofact (fun dd h => by cases h) hi fun H'' e'' => k H'' (ex.trans e'')
  · subst e; exact caught X .nosuch (fun dd h => by cases h) hi fun H'' e'' => k H'' (ex.trans e'')
  · subst e; exact caught X .full (fun dd h => by cases h) hi fun H'' e'' => k H'' (ex.trans e'')
  · subst e; exact caught X .ring (fun dd h => by cases h; exact ⟨_, hd'⟩) hi fun H'' e'' => k H'' (ex.trans e'')
theorem p_w_asked (T : ClT K a) (X : TrackT K a) (h : sp_w_asked K a vs H Q E) : t_w_asked K a (FinQ Q) (start ["_law_ground", "_law_way", "_law_one", "_law_other", "_law_e"] vs) H := by
  obtain ⟨g, A, q, way, v, u, w, rfl, G, ok, ask, rf, k⟩ := h
  refine run_seq ?_
  show tIfS _ _ _ _ [some (.ref A.p), some (.int way), some v, some u, none] H
  have no : ∀ (H1 : Hp) (i : Int) (b : Bool), decide (way = i) = b → EB (tTest (tOp (rEqD K) (tVar 1) (tC (.int i)))) [some (.ref A.p), some (.int way), some v, some u, none] H1 b := fun H1 i b hb => b_to (b_eq (α := Int) (e_intC way) (e_int (i := i))) hb
  cases q with
  | bef x y =>
    obtain ⟨rfl, d1, d2⟩ := ask
    refine s_if (no _ 0 true (by decide)) (fun _ H1 e1 => ?_) fun c => by cases c
    have G0 := G.ex e1
    refine ⟨_, rfl, A.p, A.dx, _, rfl, G0.ins, gm_no _ _, v, rfl, u, rfl, g, A, x, y, v, u, rfl, G0, ok, d1.ex e1, d2.ex e1, fun z => absurd z rf.1, fun _ H' e => ?_⟩
    obtain ⟨_, rfl⟩ := rf
    exact caught X .nosuch (fun dd h => by cases h) (by simp) fun H'' e'' => k H'' (e1.trans (e.trans e''))
  | leans n =>
    obtain ⟨rfl, rfl⟩ := ask
    refine s_if (no _ 0 false (by decide)) (fun c => by cases c) fun _ H1 e1 => ?_
    refine s_if (no _ 1 false (by decide)) (fun c => by cases c) fun _ H2 e2 => ?_
    refine s_if (no _ 2 false (by decide)) (fun c => by cases c) fun _ H3 e3 => ?_
    refine s_if (no _ 3 false (by decide)) (fun c => by cases c) fun _ H4 e4 => ?_
    refine s_if (no _ 4 false (by decide)) (fun c => by cases c) fun _ H5 e5 => ?_
    have G0 := G.ex (e1.trans (e2.trans (e3.trans (e4.trans e5))))
    refine ⟨_, rfl, A.p, A.dx, _, rfl, G0.ins, gm_no _ _, _, rfl, g, A, n, rfl, G0, ok, fun z => absurd z rf.1, fun _ H' e => ?_⟩
    obtain ⟨_, rfl⟩ := rf
    exact caught X .nosuch (fun dd h => by cases h) (by simp) fun H'' e'' => k H'' ((e1.trans (e2.trans (e3.trans (e4.trans e5)))).trans (e.trans e''))
  | deed dd =>
    have hw : (doG g dd).1 = .word w := rf
    cases dd with
    | tell xs =>
      obtain ⟨rfl, d1, d2⟩ := ask
      refine s_if (no _ 0 false (by decide)) (fun c => by cases c) fun _ H1 e1 => ?_
      refine s_if (no _ 1 true (by decide)) (fun _ H2 e2 => ?_) fun c => by cases c
      have G0 := G.ex (e1.trans e2)
      refine ⟨_, rfl, A.p, A.dx, _, rfl, G0.ins, gm_no _ _, v, rfl, g, A, xs, v, rfl, G0, ok, td_t (e1.trans e2).t _ d1, d2, gans_word X hw (by simp) fun H' e => k H' ((e1.trans e2).trans e)⟩
    | cross x y =>
      obtain ⟨rfl, rfl, rfl⟩ := ask
      refine s_if (no _ 0 false (by decide)) (fun c => by cases c) fun _ H1 e1 => ?_
      refine s_if (no _ 1 false (by decide)) (fun c => by cases c) fun _ H2 e2 => ?_
      refine s_if (no _ 2 true (by decide)) (fun _ H3 e3 => ?_) fun c => by cases c
      have G0 := G.ex (e1.trans (e2.trans e3))
      refine ⟨_, rfl, A.p, A.dx, _, rfl, G0.ins, gm_no _ _, _, rfl, _, rfl, g, A, x, y, rfl, G0, ok, gans_word X hw (by simp) fun H' e => k H' ((e1.trans (e2.trans e3)).trans e)⟩
    | settle n o =>
      obtain ⟨rfl, rfl, rfl⟩ := ask
      refine s_if (no _ 0 false (by decide)) (fun c => by cases c) fun _ H1 e1 => ?_
      refine s_if (no _ 1 false (by decide)) (fun c => by cases c) fun _ H2 e2 => ?_
      refine s_if (no _ 2 false (by decide)) (fun c => by cases c) fun _ H3 e3 => ?_
      refine s_if (no _ 3 true (by decide)) (fun _ H4 e4 => ?_) fun c => by cases c
      have G0 := G.ex (e1.trans (e2.trans (e3.trans e4)))
      refine ⟨_, rfl, A.p, A.dx, _, rfl, G0.ins, gm_no _ _, _, rfl, _, rfl, g, A, n, o, rfl, G0, ok, gans_word X hw (by simp) fun H' e => k H' ((e1.trans (e2.trans (e3.trans e4))).trans e)⟩
    | take n =>
      obtain ⟨rfl, rfl⟩ := ask
      refine s_if (no _ 0 false (by decide)) (fun c => by cases c) fun _ H1 e1 => ?_
      refine s_if (no _ 1 false (by decide)) (fun c => by cases c) fun _ H2 e2 => ?_
      refine s_if (no _ 2 false (by decide)) (fun c => by cases c) fun _ H3 e3 => ?_
      refine s_if (no _ 3 false (by decide)) (fun c => by cases c) fun _ H4 e4 => ?_
      refine s_if (no _ 4 true (by decide)) (fun _ H5 e5 => ?_) fun c => by cases c
      have G0 := G.ex (e1.trans (e2.trans (e3.trans (e4.trans e5))))
      refine ⟨_, rfl, A.p, A.dx, _, rfl, G0.ins, gm_no _ _, _, rfl, g, A, n, rfl, G0, ok, gans_word X hw (by simp) fun H' e => k H' ((e1.trans (e2.trans (e3.trans (e4.trans e5)))).trans e)⟩
end
end TK

/-! TkN10: the law's own ground, plain. -/
namespace TK
open PySem L2
def kim : Nm := nmOf "kim"
def lo : Nm := nmOf "lo"
def mo : Nm := nmOf "mo"
def rain : Nm := nmOf "rain"
def dew : Nm := nmOf "dew"
def oKL : Fact := ⟨nOver, kim, lo⟩
def oLM : Fact := ⟨nOver, lo, mo⟩
/-- the ground behind n facts, its crossing not looked at yet -/
structure KSt (g : GS) (n : Nat) : Prop where
  ws : g.walkers = [kim, lo, mo]
  th : g.weathers = [rain]
  cr : g.cross = [(0, (lo, mo))]
  gv : g.given = (n : Int) + 1
  ln : g.facts.length = n
  ks : ∀ m ∈ keysA g.facts, 1 ≤ m ∧ m ≤ (n : Int)
  fs : ∀ p ∈ g.facts, p.2 = oKL ∨ p.2 = oLM
  k1 : 1 ≤ n → ∃ m, getA g.facts m = some oKL
  k2 : 2 ≤ n → ∃ m, getA g.facts m = some oLM
  al : ∀ m : Int, 1 ≤ m → m ≤ (n : Int) → m ∈ keysA g.facts
def rk (t : Thing) : Nat := if t = (nWalker, kim) then 2 else if t = (nWalker, lo) then 1 else if t = (nEnd, rain) then 1 else 0
theorem linksKL : linksOf oKL = [((nWalker, lo), (nWalker, kim))] := if_pos rfl
theorem linksLM : linksOf oLM = [((nWalker, mo), (nWalker, lo))] := if_pos rfl
theorem weather1 : weatherLinks [rain] = [((nBegin, rain), (nEnd, rain))] := by decide +kernel
theorem rk_step {g : GS} {x y : Thing} (th : g.weathers = [rain]) (fs : ∀ p ∈ g.facts, p.2 = oKL ∨ p.2 = oLM) (h : Step (allLinks g []) x y) : rk x < rk y := by
  rcases step_iff.mp h with h | ⟨n, f, h1, h2⟩
  · rw [th, weather1] at h
    simp only [List.mem_singleton, Prod.mk.injEq] at h
    obtain ⟨rfl, rfl⟩ := h
    decide +kernel
  · rcases fs _ (getA_mem h1) with e | e
    · have e : f = oKL := e
      subst e
      rw [linksKL] at h2
      simp only [List.mem_singleton, Prod.mk.injEq] at h2
      obtain ⟨rfl, rfl⟩ := h2
      decide +kernel
    · have e : f = oLM := e
      subst e
      rw [linksLM] at h2
      simp only [List.mem_singleton, Prod.mk.injEq] at h2
      obtain ⟨rfl, rfl⟩ := h2
      decide +kernel
theorem rk_reach {g : GS} {x y : Thing} (th : g.weathers = [rain]) (fs : ∀ p ∈ g.facts, p.2 = oKL ∨ p.2 = oLM) (h : Reach (allLinks g []) x y) : rk x < rk y := by
  induction h with
  | single s => exact rk_step th fs s
  | tail _ s ih => exact Nat.lt_trans ih (rk_step th fs s)
theorem open_fact {g : GS} {f : Fact} (th : g.weathers = [rain]) (fs : ∀ p ∈ g.facts, p.2 = oKL ∨ p.2 = oLM) (h : f = oKL ∨ f = oLM) : closes g f = false := by
  cases hc : closes g f with
  | false => rfl
  | true =>
    obtain ⟨e, he, hr⟩ := closes_iff.mp hc
    have := rk_reach th fs hr
    rcases h with rfl | rfl
    · rw [linksKL] at he
      rw [List.mem_singleton.mp he] at this
      exact absurd this (by decide +kernel)
    · rw [linksLM] at he
      rw [List.mem_singleton.mp he] at this
      exact absurd this (by decide +kernel)
/-- the fact that stands the other way round -/
def oLK : Fact := ⟨nOver, lo, kim⟩
theorem ring_kl {g : GS} (h : ∃ m, getA g.facts m = some oKL) : closes g oLK = true := by
  obtain ⟨m, hm⟩ := h
  refine closes_iff.mpr ⟨((nWalker, kim), (nWalker, lo)), by rw [show linksOf oLK = [((nWalker, kim), (nWalker, lo))] from if_pos rfl]; exact List.mem_singleton.mpr rfl, .single (step_iff.mpr (Or.inr ⟨m, oKL, hm, ?_⟩))⟩
  rw [linksKL]; exact List.mem_singleton.mpr rfl
theorem ring_lm {g : GS} (h : ∃ m, getA g.facts m = some oLM) : closes g ⟨nOver, mo, lo⟩ = true := by
  obtain ⟨m, hm⟩ := h
  refine closes_iff.mpr ⟨((nWalker, lo), (nWalker, mo)), by rw [show linksOf ⟨nOver, mo, lo⟩ = [((nWalker, lo), (nWalker, mo))] from if_pos rfl]; exact List.mem_singleton.mpr rfl, .single (step_iff.mpr (Or.inr ⟨m, oLM, hm, ?_⟩))⟩
  rw [linksLM]; exact List.mem_singleton.mpr rfl
def tl3 (f : Fact) : List Nm := [f.a, f.b, f.c]
theorem tl3_fact (f : Fact) : factL (tl3 f) = some f := rfl
theorem fact_ok {g : GS} {n : Nat} (k : KSt g n) {f : Fact} (h : f = oKL ∨ f = oLM ∨ f = oLK) : isFact3 f g.walkers g.weathers = true := by
  rw [k.ws, k.th]
  rcases h with rfl | rfl | rfl <;> decide +kernel
theorem KSt.full {g : GS} {n : Nat} (k : KSt g n) : g.full = decide (59 ≤ n) := by
  unfold GS.full
  rw [k.ln, k.cr]
  exact decide_eq_decide.mpr (by simp only [List.length_cons, List.length_nil]; omega)
theorem KSt.tell {g : GS} {n : Nat} (k : KSt g n) {f : Fact} (h : f = oKL ∨ f = oLM) (hn : n < 59) : doG g (.tell (tl3 f)) = (.num ((n : Int) + 1), { g with facts := putA g.facts g.given f, given := g.given + 1 }) := by
  have h1 : isFact3 f g.walkers g.weathers = true := fact_ok k (h.elim .inl fun z => .inr (.inl z))
  simp only [doG, tl3_fact]
  rw [if_neg (by rw [h1]; decide), if_neg (by rw [k.full, decide_eq_false (by omega)]; decide), if_neg (by rw [open_fact k.th k.fs h]; decide), k.gv]
theorem KSt.next {g : GS} {n : Nat} (k : KSt g n) {f : Fact} (h : f = oKL ∨ f = oLM) (hn : n < 59) (h2 : 1 ≤ n ∨ f = oKL) (h3 : n ≠ 1 ∨ f = oLM) : KSt (doG g (.tell (tl3 f))).2 (n + 1) := by
  rw [k.tell h hn]
  have hnew : g.given ∉ keysA g.facts := fun z => by have := (k.ks _ z).2; rw [k.gv] at this; omega
  have hput : putA g.facts g.given f = g.facts ++ [(g.given, f)] := putA_new _ hnew
  have hget : ∀ m f', getA g.facts m = some f' → getA (putA g.facts g.given f) m = some f' := fun m f' hm => by rw [hput, getA_app, hm]; rfl
  have hlast : getA (putA g.facts g.given f) g.given = some f := by
    have : getA g.facts g.given = none := by
      cases hg : getA g.facts g.given with
      | none => rfl
      | some x => exact absurd (List.mem_map.mpr ⟨_, getA_mem hg, rfl⟩) hnew
    rw [hput, getA_app, this, getA_one, if_pos rfl]; rfl
  refine ⟨k.ws, k.th, k.cr, by show g.given + 1 = _; rw [k.gv]; push_cast; rfl, ?_, fun m hm => ?_, fun p hp => ?_, fun _ => ?_, fun _ => ?_, fun m m1 m2 => ?_⟩
  · show (putA g.facts g.given f).length = _
    rw [hput, List.length_append, k.ln]; rfl
  · have hm : m ∈ keysA (putA g.facts g.given f) := hm
    rw [hput, keysA_app] at hm
    rcases List.mem_append.mp hm with q | q
    · have := k.ks m q; push_cast; omega
    · have : m = g.given := by simpa [keysA] using q
      rw [this, k.gv]; push_cast; omega
  · have hp : p ∈ putA g.facts g.given f := hp
    rw [hput] at hp
    rcases List.mem_append.mp hp with q | q
    · exact k.fs p q
    · rw [List.mem_singleton.mp q]; exact h
  · rcases h2 with z | z
    · obtain ⟨m, hm⟩ := k.k1 z
      exact ⟨m, hget _ _ hm⟩
    · subst z; exact ⟨_, hlast⟩
  · by_cases z : 2 ≤ n
    · obtain ⟨m, hm⟩ := k.k2 z
      exact ⟨m, hget _ _ hm⟩
    · have hf : f = oLM := h3.resolve_left fun z2 => by omega
      subst hf; exact ⟨_, hlast⟩
  · show m ∈ keysA (putA g.facts g.given f)
    rw [hput, keysA_app]
    by_cases z : m ≤ (n : Int)
    · exact List.mem_append_left _ (k.al m m1 z)
    · refine List.mem_append_right _ ?_
      have : m = g.given := by rw [k.gv]; push_cast at m2; omega
      rw [this]
      exact List.mem_singleton.mpr rfl
/-! ### what is refused -/
theorem KSt.ring {g : GS} {n : Nat} (k : KSt g n) (h : 1 ≤ n) (hn : n < 59) : (doG g (.tell (tl3 oLK))).1 = .word wRing := by
  simp only [doG, tl3_fact]
  rw [if_neg (by rw [fact_ok k (.inr (.inr rfl))]; decide), if_neg (by rw [k.full, decide_eq_false (by omega)]; decide), if_pos (ring_kl (k.k1 h))]
theorem KSt.fullT {g : GS} (k : KSt g 59) : (doG g (.tell (tl3 oLK))).1 = .word wFull := by
  simp only [doG, tl3_fact]
  rw [if_neg (by rw [fact_ok k (.inr (.inr rfl))]; decide), if_pos (by rw [k.full]; rfl)]
theorem KSt.fullC {g : GS} (k : KSt g 59) : (doG g (.cross kim mo)).1 = .word wFull := by
  simp only [doG]
  rw [if_neg (by rw [k.ws]; decide +kernel), if_pos (by rw [k.full]; rfl)]
def odds : List (List Nm) := [[nOver, kim, kim], [nOver, kim, rain], [nAhead, kim, lo], [nAmid, rain, rain], [], [nmOf "under", kim, lo], [nBehind, kim], [nOver, kim, lo, mo], [nBehind, kim, dew]]
theorem odd_bad : ∀ xs ∈ odds, ∀ f, factL xs = some f → isFact3 f [kim, lo, mo] [rain] = false := by
  intro xs hx f hf
  have : odds.all (fun xs => match factL xs with | none => true | some f => !isFact3 f [kim, lo, mo] [rain]) = true := by decide +kernel
  have := List.all_eq_true.mp this xs hx
  rw [hf] at this
  simpa using this
theorem KSt.odd {g : GS} {n : Nat} (k : KSt g n) {xs : List Nm} (h : xs ∈ odds) : (doG g (.tell xs)).1 = .word wNoFact := by
  simp only [doG]
  cases hf : factL xs with
  | none => rfl
  | some f =>
    dsimp only
    rw [if_pos (by rw [k.ws, k.th]; exact odd_bad xs h f hf)]
theorem KSt.noCross {g : GS} {n : Nat} (k : KSt g n) {x : Nm} (h : x ∈ [kim, rain, dew]) : (doG g (.cross kim x)).1 = .word wNoFact := by
  have : x ∉ ([kim, lo, mo] : List Nm) ∨ kim = x := by
    have := List.all_eq_true.mp (show ([kim, rain, dew] : List Nm).all (fun x => decide (x ∉ ([kim, lo, mo] : List Nm) ∨ kim = x)) = true by decide +kernel) x h
    exact of_decide_eq_true this
  simp only [doG]
  rw [if_pos (by rw [k.ws]; exact Or.inr this)]
theorem KSt.cross0 {g : GS} {n : Nat} (k : KSt g n) : getA g.cross 0 = some (lo, mo) := by rw [k.cr]; rfl
theorem KSt.crossN {g : GS} {n : Nat} (k : KSt g n) {m : Int} (h : m ≠ 0) : getA g.cross m = none := by
  rw [k.cr, getA_one, if_neg (fun z => h z.symm)]
theorem KSt.noSettle {g : GS} {n : Nat} (k : KSt g n) {m : Int} (h : m ≠ 0) (o : Nm) : (doG g (.settle m o)).1 = .word wNoSuch := by
  simp only [doG, k.crossN h]
theorem KSt.badSettle {g : GS} {n : Nat} (k : KSt g n) : (doG g (.settle 0 kim)).1 = .word wNoFact := by
  simp only [doG, k.cross0]
  rw [if_pos (by decide +kernel)]
theorem KSt.ringSettle {g : GS} {n : Nat} (k : KSt g n) (h : 2 ≤ n) : (doG g (.settle 0 mo)).1 = .word wRing := by
  simp only [doG, k.cross0]
  have e : (if mo = lo then mo else lo) = lo := by decide +kernel
  rw [if_neg (by decide +kernel), e, if_pos (ring_lm (k.k2 h))]
theorem KSt.noKeys {g : GS} {n : Nat} (k : KSt g n) {m : Int} (h : m < 0 ∨ (n : Int) < m) : m ∉ keysA g.facts ∧ m ∉ keysA g.cross := by
  refine ⟨fun z => ?_, fun z => ?_⟩
  · have := k.ks m z; omega
  · rw [k.cr] at z
    have : m = 0 := by simpa [keysA] using z
    omega
theorem KSt.noTake {g : GS} {n : Nat} (k : KSt g n) {m : Int} (h : m < 0 ∨ (n : Int) < m) : (doG g (.take m)).1 = .word wNoSuch := by
  simp only [doG]
  rw [if_pos (k.noKeys h)]
/-- looked at, and one fact taken out -/
theorem KSt.settle {g : GS} (k : KSt g 59) : doG g (.settle 0 lo) = (.num 0, { g with cross := [], facts := putA g.facts 0 oLM }) := by
  simp only [doG, k.cross0]
  rw [if_neg (by decide +kernel)]
  simp only [if_true]
  rw [if_neg (by rw [open_fact k.th k.fs (f := ⟨nOver, lo, mo⟩) (.inr rfl)]; decide)]
  have : dropA g.cross 0 = [] := by rw [k.cr]; rfl
  rw [this]; rfl
theorem KSt.len60 {g : GS} (k : KSt g 59) : (putA g.facts 0 oLM).length = 60 := by
  have hnew : (0 : Int) ∉ keysA g.facts := fun z => by have := k.ks 0 z; omega
  rw [putA_new _ hnew, List.length_append, k.ln]; rfl
theorem gone {kvs : List (Int × Fact)} {n : Int} : n ∉ keysA (dropA kvs n) := fun z => by
  rw [dropA_keys] at z
  have := (List.mem_filter.mp z).2
  simp at this
/-! ### what is made -/
def bads : List Nm := [nmOf "", nmOf "ninesigns", nmOf "Ab", nmOf "a1", nmOf "a b", nmOf "x_"]
def let12 : List Nm := (List.range 12).map fun i => sign (97 + i)
def cA : Nm := nmOf "a"
def cB : Nm := nmOf "b"
theorem made_ok : (madeW [cA, cB, cA] [] = wNoFact ∧ madeW [cA] [cB, cA] = wNoFact) ∧ madeW (let12.take 9) [] = wFull ∧ madeW [] (let12.take 4) = wFull ∧ madeW (let12.take 8) ((let12.drop 8).take 3) = wNone ∧ madeW [] [] = wNone := by decide +kernel
theorem made_bad : ∀ b ∈ bads, madeW (let12.take 3 ++ [b]) [] = wNoFact ∧ madeW (let12.take 2) [b] = wNoFact ∧ madeW (List.replicate 9 b) [] = wFull := by
  have : bads.all (fun b => decide (madeW (let12.take 3 ++ [b]) [] = wNoFact ∧ madeW (let12.take 2) [b] = wNoFact ∧ madeW (List.replicate 9 b) [] = wFull)) = true := by decide +kernel
  exact fun b hb => of_decide_eq_true (List.all_eq_true.mp this b hb)
theorem bads_len : ∀ b ∈ bads, b.s.length ≤ 10000 := by
  have : bads.all (fun b => decide (b.s.length ≤ 10000)) = true := by decide +kernel
  exact fun b hb => of_decide_eq_true (List.all_eq_true.mp this b hb)
theorem let12_len : ∀ b ∈ let12, b.s.length ≤ 10000 := by
  have : let12.all (fun b => decide (b.s.length ≤ 10000)) = true := by decide +kernel
  exact fun b hb => of_decide_eq_true (List.all_eq_true.mp this b hb)
/-- the first ground -/
def g10 : GS := newG [kim, lo, mo] [rain]
theorem g10_ok : NamesOk [kim, lo, mo] [rain] := ⟨by decide, by decide, by decide +kernel, by decide +kernel⟩
theorem g10_cross : doG g10 (.cross lo mo) = (.num 0, { g10 with cross := [(0, (lo, mo))], given := 1 }) := by
  simp only [doG]
  rw [if_neg (by decide +kernel), if_neg (by decide +kernel)]
  rfl
theorem k0 : KSt (doG g10 (.cross lo mo)).2 0 := by
  rw [g10_cross]
  exact ⟨rfl, rfl, rfl, rfl, rfl, fun m hm => (nomatch hm), fun p hp => (nomatch hp), fun h => absurd h (by decide), fun h => absurd h (by decide), fun m m1 m2 => by exfalso; simp at m2; omega⟩
end TK

/-! TkY03: orders looked at. -/
namespace TK
open PySem L2 PySem.Spec PyProof.Rows
open Enc (enc)
def idxT (x : Thing) : List Thing → Nat
  | [] => 0
  | y :: ys => if y = x then 0 else idxT x ys + 1
def sp_w_is_order (K : PySem.W.Frag) (a : Ad) : Sp := fun vs H Q _ => ∃ (o things : List Thing) (pairs : List PairT) (v w u : V), vs = [v, w, u] ∧ Ls o v H ∧ Ls things w H ∧ Ls pairs u H ∧ OrdOk things pairs o ∧ PrOk things pairs ∧ ∀ H', Ex H H' → Q (.bl true) H'
def t_w_is_order (K : PySem.W.Frag) (a : Ad) : TS :=
  (tSeq (tIfS (tOr (tNot (tB (tCB (rIsi K) (tCons (tVar 0) (tCons (tC (.ty "list")) tNil))))) (tTest (tOp (rNeD K) (tCB (rSortedTh K) (tCons (tVar 0) tNil)) (tCB (rSortedTh K) (tCons (tVar 1) tNil))))) (tRet (tC (.bl false))) tNext) (tRet (tOp (rEqD K) (tLc (iList K (tVar 2)) (gName 3) (tTest (tOp (rI0 fun i j => .bl (decide (j < i))) (tBM K "list" (rIndexD K) (tVar 0) (tCons (tOp (rIxT K) (tVar 3) (tC (.int 0))) tNil)) (tBM K "list" (rIndexD K) (tVar 0) (tCons (tOp (rIxT K) (tVar 3) (tC (.int 1))) tNil)))) (tVar 3) [3]) (tLst tNil))))
section
variable {K : PySem.W.Frag} {a : Ad} {vs : List V} {H H' : Hp} {Q : VK} {E : XK}
theorem idxT_get {x : Thing} : ∀ {o : List Thing}, x ∈ o → o[idxT x o]? = some x
  | [], h => by cases h
  | y :: ys, h => by
    unfold idxT
    by_cases e : y = x
    · rw [if_pos e, e]; rfl
    · rw [if_neg e]
      exact idxT_get (o := ys) ((List.mem_cons.mp h).resolve_left fun q => e q.symm)
theorem idxT_min {x : Thing} : ∀ {o : List Thing} {m : Nat} {z : Thing}, m < idxT x o → o[m]? = some z → z ≠ x
  | [], _, _, h, _ => by simp [idxT] at h
  | y :: ys, m, z, h, hz => by
    unfold idxT at h
    by_cases e : y = x
    · rw [if_pos e] at h; omega
    · rw [if_neg e] at h
      cases m with
      | zero => simp at hz; subst hz; exact e
      | succ m => exact idxT_min (o := ys) (m := m) (by omega) (by simpa using hz)
theorem e_index {σ : L2.St} {to tx : TE} {o : List Thing} {x : Thing} (h : EV to σ H (Ls o)) (hx : EV tx σ H (D x)) (hm : x ∈ o) : EV (tBM K "list" (rIndexD K) to (tCons tx tNil)) σ H (D ((idxT x o : Nat) : Int)) := fun H1 e Q q =>
  h H1 e _ fun v H2 e2 p => by
    obtain ⟨l, us, rfl, h1, h2⟩ := p
    refine ⟨Or.inl ⟨rfl, us, sq_of h1⟩, ?_⟩
    refine hx H2 (e.trans e2) _ fun y H3 e3 p3 => ?_
    have L3 : Ls o (.ref l) H3 := Ls.ex ⟨l, us, rfl, h1, h2⟩ e3
    refine ⟨l, y, enc x, o.map enc, idxT x o, enc x, rfl, rfl, L3.dp, td_dp _ p3, shaped_list o, shaped_enc x, ?_, by rw [Enc.eqv]; exact decide_eq_true rfl, fun m z' hm' hz' => ?_, q _ H3 (e2.trans e3) (D.of_int _ _)⟩
    · rw [List.getElem?_map, idxT_get hm]; rfl
    · rw [List.getElem?_map] at hz'
      cases hz : o[m]? with
      | none => rw [hz] at hz'; cases hz'
      | some z =>
        rw [hz] at hz'
        have : enc z = z' := Option.some.inj hz'
        subst this
        rw [Enc.eqv]
        exact decide_eq_false (idxT_min hm' hz)
theorem ord_idx {things o : List Thing} {pairs : List PairT} (h : OrdOk things pairs o) {x y : Thing} (hx : x ∈ o) (hy : y ∈ o) (hp : (x, y) ∈ pairs) : ¬ idxT y o < idxT x o := fun hl => by
  have h1 := List.getElem?_eq_some_iff.mp (idxT_get hx)
  have h2 := List.getElem?_eq_some_iff.mp (idxT_get hy)
  have p := List.pairwise_iff_getElem.mp h.ok _ _ h2.1 h1.1 hl
  rw [h1.2, h2.2] at p
  exact p hp
theorem e_isiL {α : Type} [DecidableEq α] [Enc α] {σ : L2.St} {te : TE} {xs : List α} (h : EV te σ H (Ls xs)) : EV (tCB (rIsi K) (tCons te (tCons (tC (.ty "list")) tNil))) σ H (Is (.bl true)) := fun H1 e Q q =>
  h H1 e _ fun v H2 e2 p => by
    obtain ⟨l, us, rfl, h1, h2⟩ := p
    exact ⟨.ref l, .ty "list", .type "list", .type "list", true, rfl, .ty _, .base (.lst h1), kit_ty (by decide +kernel), q _ H2 e2 rfl⟩
theorem e_isiT {σ : L2.St} {te : TE} {t : Addr} {xs : List V} (h : EV te σ H (Is (.ref t))) (ht : H t = some (.tup xs)) : EV (tCB (rIsi K) (tCons te (tCons (tC (.ty "tuple")) tNil))) σ H (Is (.bl true)) := fun H1 e Q q =>
  h H1 e _ fun v H2 e2 p => by
    cases p
    exact ⟨.ref t, .ty "tuple", .type "tuple", .type "tuple", true, rfl, .ty _, .base (.tup ((e.trans e2) _ _ ht)), kit_ty (by decide +kernel), q _ H2 e2 rfl⟩
theorem len_w_is_order (K : PySem.W.Frag) (a : Ad) : ∀ vs H Q E, sp_w_is_order K a vs H Q E → vs.length = 3 := fun _ _ _ _ ⟨_, _, _, _, _, _, e, _⟩ => by rw [e]; rfl
theorem p_w_is_order (T : ClT K a) (h : sp_w_is_order K a vs H Q E) : t_w_is_order K a (FinQ Q) (start ["_law_order", "_law_things_here", "_law_known_here", "_law_pair"] vs) H := by
  obtain ⟨o, things, pairs, v, w, u, rfl, hv, hw, hu, ho, ok, k⟩ := h
  have hs : sortT o = sortT things := sortT_is ((sortT_perm o).trans ho.pm) (sortT_pw o)
  refine q_if (b_or (b_not (b_val (e_isiL (K := K) (e_var hv)))) fun _ => b_neL (α := Thing) (e_sortedTh (K := K) (e_var hv)).ls (e_sortedTh (K := K) (e_var hw)).ls) (fun c => ?_) fun _ H1 e1 => ?_
  · rw [hs] at c; simp at c
  refine s_ret (P := Is (.bl true)) ?_ fun x H2 e2 p => by cases p; exact k H2 (e1.trans e2)
  have hlc := e_lc (K := K) (α := PairT) (β := PairT) (j := 3) (vs := [3]) (tl := tVar 2) (tt := tTest (tOp (rI0 fun i j => .bl (decide (j < i))) (tBM K "list" (rIndexD K) (tVar 0) (tCons (tOp (rIxT K) (tVar 3) (tC (.int 0))) tNil)) (tBM K "list" (rIndexD K) (tVar 0) (tCons (tOp (rIxT K) (tVar 3) (tC (.int 1))) tNil)))) (te := tVar 3) (σ := [some v, some w, some u, none]) (H := H1) (fun t => t) (fun q => decide (((idxT q.2 o : Nat) : Int) < ((idxT q.1 o : Nat) : Int)))
    (e_var (hu.ex e1)) (by have := ok.lp; omega) (fun _ => rfl)
    (fun q y H2 hq e2 d => b_I0 (g := fun i j => decide (j < i)) (e_index (e_var (hv.ex (e1.trans e2))) (e_ixP0 (K := K) (a := q.1) (b := q.2) (e_var d)) (ho.pm.mem_iff.mpr (ok.mem q hq).1)) (e_index (e_var (hv.ex (e1.trans e2))) (e_ixP1 (K := K) (a := q.1) (b := q.2) (e_var d)) (ho.pm.mem_iff.mpr (ok.mem q hq).2))) (fun x y H2 _ _ _ d => e_var d)
  rw [List.map_id'] at hlc
  have hn : pairs.filter (fun q => decide (((idxT q.2 o : Nat) : Int) < ((idxT q.1 o : Nat) : Int))) = [] := List.filter_eq_nil_iff.mpr fun q hq c => by
    have := ord_idx ho (ho.pm.mem_iff.mpr (ok.mem q hq).1) (ho.pm.mem_iff.mpr (ok.mem q hq).2) hq
    have := of_decide_eq_true c
    omega
  rw [hn] at hlc
  have h1 := e_eqLB (K := K) (α := PairT) hlc.ls e_nil.ls
  rwa [decide_eq_true rfl] at h1
theorem e_isOrder {σ : L2.St} {t1 t2 t3 : TE} {o things : List Thing} {pairs : List PairT} (h1 : EV t1 σ H (Ls o)) (h2 : EV t2 σ H (Ls things)) (h3 : EV t3 σ H (Ls pairs)) (ho : OrdOk things pairs o) (ok : PrOk things pairs) : EV (tCall (sp_w_is_order K a) [] E0 (tCons t1 (tCons t2 (tCons t3 tNil)))) σ H (Is (.bl true)) :=
  e_call3 (P1 := Ls o) (P2 := Ls things) (P3 := Ls pairs) h1 h2 h3 fun x y z H1 e p1 p2 p3 Q q => ⟨o, things, pairs, x, y, z, rfl, p1, p2, p3, ho, ok, fun H2 e2 => q _ H2 e2 rfl⟩
/-! ### facts told on -/
theorem e_ixTV {σ : L2.St} {te : TE} {t : Addr} {xs : List V} {j : Nat} {v : V} (h : EV te σ H (Is (.ref t))) (ht : H t = some (.tup xs)) (hv : xs[j]? = some v) : EV (tOp (rIxT K) te (tC (.int (j : Int)))) σ H (Is v) := fun H1 e Q q =>
  h H1 e _ fun x H2 e2 p => by
    cases p
    exact ⟨t, xs, (j : Int), v, rfl, rfl, st_of ((e.trans e2) _ _ ht), atI_nat hv, q v H2 e2 rfl⟩
theorem e_lenTup {σ : L2.St} {te : TE} {t : Addr} {xs : List V} (h : EV te σ H (Is (.ref t))) (ht : H t = some (.tup xs)) : EV (tCB (rLen K) (tCons te tNil)) σ H (D (xs.length : Int)) := fun H1 e Q q =>
  h H1 e _ fun x H2 e2 p => by
    cases p
    exact ⟨t, xs, rfl, Or.inr (st_of ((e.trans e2) _ _ ht)), q _ H2 e2 (D.of_int _ _)⟩
end
end TK

/-! TkL10: refusals, the law's walk. -/
namespace TK
open PySem L2 PySem.Spec PyProof.Rows
open Enc (enc)
/-! ### lists of anything -/
class TMono (P : VP) : Prop where
  mono : ∀ {v : V} {H H' : Hp}, TEx H H' → P v H → P v H'
def RawP (Hb : Hp) (n : Nat) (P : VP) : VP := fun v H => ∃ l us, v = .ref l ∧ Hb l = none ∧ H l = some (.lst us) ∧ us.length = n ∧ ∀ u ∈ us, P u H
theorem RawP.ex {Hb : Hp} {n : Nat} {P : VP} [TMono P] {v : V} {H H' : Hp} (h : RawP Hb n P v H) (e : Ex H H') : RawP Hb n P v H' :=
  let ⟨l, us, h1, h2, h3, h4, h5⟩ := h
  ⟨l, us, h1, h2, e _ _ h3, h4, fun u hu => TMono.mono e.t (h5 u hu)⟩
instance {Hb : Hp} {n : Nat} {P : VP} [TMono P] : Mono (RawP Hb n P) := ⟨fun e h => h.ex e⟩
theorem RawP.chg {Hb : Hp} {n : Nat} {P : VP} [TMono P] {l : Addr} {S : List Addr} {H H' : Hp} (h : RawP Hb n P (.ref l) H) (c : Chg S H H') (hl : l ∉ S) : RawP Hb n P (.ref l) H' := by
  obtain ⟨l', us, h1, h2, h3, h4, h5⟩ := h
  cases h1
  exact ⟨l, us, rfl, h2, c.keep _ _ hl h3, h4, fun u hu => TMono.mono c.tup (h5 u hu)⟩
section
variable {K : PySem.W.Frag} {a : Ad} {vs : List V} {H H' : Hp} {Q : VK} {E : XK} {σ : L2.St}
theorem er_nil {P : VP} : EA tNil σ H (fun vs H' => vs.length = 0 ∧ ∀ u ∈ vs, P u H') := fun H1 _ _ q => q _ H1 (Ex.refl H1) ⟨rfl, fun u hu => nomatch hu⟩
theorem er_cons {P : VP} [TMono P] {te : TE} {tr : TA} {n : Nat} (h : EV te σ H P) (hr : EA tr σ H (fun vs H' => vs.length = n ∧ ∀ u ∈ vs, P u H')) : EA (tCons te tr) σ H (fun vs H' => vs.length = n + 1 ∧ ∀ u ∈ vs, P u H') := fun H1 e _ q =>
  h H1 e _ fun v H2 e2 p => hr H2 (e.trans e2) _ fun r H3 e3 hr => q _ H3 (e2.trans e3) ⟨by rw [List.length_cons, hr.1], fun u hu => by
    rcases List.mem_cons.mp hu with z | z
    · subst z; exact TMono.mono e3.t p
    · exact hr.2 u z⟩
theorem e_lstR {P : VP} [TMono P] {ta : TA} {n : Nat} (h : EA ta σ H (fun vs H' => vs.length = n ∧ ∀ u ∈ vs, P u H')) (hz : n ≤ 1000) : EV (tLst ta) σ H (RawP H n P) := fun H1 e Q q =>
  h H1 e _ fun vs H2 e2 p => ⟨sz_of (by omega), fun x hx => q _ _ (e2.trans (Ex.new hx)) ⟨x, vs, rfl, e.free (e2.free hx), upd_same, p.1, fun u hu => TMono.mono (Ex.new hx).t (p.2 u hu)⟩⟩
theorem e_catR {P : VP} [TMono P] {ta tb : TE} {Hb Hb' : Hp} {n m : Nat} (h1 : EV ta σ H (RawP Hb n P)) (h2 : EV tb σ H (RawP Hb' m P)) (hz : n + m ≤ 1000) : EV (tOp rCat ta tb) σ H (RawP H (n + m) P) := e_op h1 h2 fun v y H1 e p p' Q q => by
  obtain ⟨l, us, rfl, _, h1, h2, h3⟩ := p
  obtain ⟨l', us', rfl, _, h1', h2', h3'⟩ := p'
  refine ⟨l, l', us, us', rfl, rfl, h1, h1', sz_of (by omega), fun x hx => q _ _ (Ex.new hx) ⟨x, _, rfl, e.free hx, upd_same, by rw [List.length_append, h2, h2'], fun u hu => TMono.mono (Ex.new hx).t ?_⟩⟩
  rcases List.mem_append.mp hu with z | z
  · exact h3 u z
  · exact h3' u z
/-- [.. for x in xs if ..], never so -/
theorem e_lcNone {P : VP} [TMono P] {tl te : TE} {tt : TT} {Hb : Hp} {n : Nat} {vs : List Nat} {j : Nat} (hl : EV tl σ H (RawP Hb n P)) (hw : ∀ x, wipe ((wipe σ vs).set j (some x)) vs = wipe σ vs) (ht : ∀ u H1, Ex H H1 → P u H1 → EB tt ((wipe σ vs).set j (some u)) H1 false) :
    EV (tLc (iList K tl) (gName j) tt te vs) σ H (NL H ([] : List Int)) := fun H0 e Q q => hl H0 e _ fun v H1 e1 pl => by
  obtain ⟨l, us, rfl, _, hl1, hlen, hP⟩ := pl
  refine ⟨l, rfl, ⟨us, sq_of hl1⟩, fun Dl hD => ?_⟩
  refine lc_list (K := K) (a := l) (xs := us) (fun i H' => Ex H1 H' ∧ H' Dl = some (.lst [])) ⟨Ex.new hD, upd_same⟩ (fun i H' _ z => sq_of (z.1 _ _ hl1)) ?_ ?_
  · rintro i x H' hx ⟨e2, hw2⟩
    refine ⟨hw _, ?_⟩
    refine ht x H' (e.trans (e1.trans e2)) (TMono.mono e2.t (hP x (List.mem_of_getElem? hx))) H' (Ex.refl _) _ fun H3 e3 => ?_
    show _ ∧ _
    exact ⟨e2.trans e3, e3 _ _ hw2⟩
  · rintro H' ⟨e2, hw2⟩
    exact q _ H' (e1.trans e2) ⟨Dl, [], rfl, e.free (e1.free hD), hw2, .nil⟩
/-! ### what is asked -/
theorem AskAt.t {q : Ask} {way : Int} {v w : V} {H H' : Hp} (h : AskAt q way v w H) (e : TEx H H') : AskAt q way v w H' := by
  cases q with
  | bef x y => exact ⟨h.1, h.2.1.t e, h.2.2.t e⟩
  | leans n => exact h
  | deed d =>
    cases d with
    | tell xs => exact ⟨h.1, td_t e _ h.2.1, h.2.2⟩
    | cross x y => exact h
    | take n => exact h
    | settle n o => exact h
theorem e_asked {tg t1 t2 t3 : TE} {g : GS} {A : GA} {q : Ask} {way : Int} {w : Nm} {P2 P3 : VP} [Mono P2] (hg : EV tg σ H (Is (.ref A.p))) (h1 : EV t1 σ H (D way)) (h2 : EV t2 σ H P2) (h3 : EV t3 σ H P3) (G : GrAt a.cGround g A H) (ok : GOk g) (ha : ∀ v u H1, Ex H H1 → P2 v H1 → P3 u H1 → AskAt q way v u H1) (rf : Refused g q w) :
    EV (tCall (sp_w_asked K a) [] E0 (tCons tg (tCons t1 (tCons t2 (tCons t3 tNil))))) σ H (D w) := fun H1 e Q k =>
  hg H1 e _ fun v0 H2 e2 p0 => h1 H2 (e.trans e2) _ fun v1 H3 e3 p1 => h2 H3 ((e.trans e2).trans e3) _ fun v2 H4 e4 p2 => h3 H4 (((e.trans e2).trans e3).trans e4) _ fun v3 H5 e5 p3 => by
    cases p0
    cases p1.is_int
    have e15 := e2.trans (e3.trans (e4.trans e5))
    exact ⟨g, A, q, way, v2, v3, w, rfl, G.ex (e.trans e15), ok, ha _ _ _ (e.trans e15) (Mono.mono e5 p2) p3, rf, fun H6 e6 => k _ H6 (e15.trans e6) (D.of_nm _ _)⟩
def AskEl (g : GS) : VP := fun u H => ∃ (b : Addr) (way : Int) (v w : V) (q : Ask), u = .ref b ∧ H b = some (.tup [.int way, v, w]) ∧ AskAt q way v w H ∧ Refused g q wNoSuch
instance {g : GS} : TMono (AskEl g) := ⟨fun e ⟨b, way, v, w, q, h1, h2, h3, h4⟩ => ⟨b, way, v, w, q, h1, e _ _ h2, h3.t e, h4⟩⟩
theorem e_askEl {t1 t2 t3 : TE} {g : GS} {q : Ask} {way : Int} {P2 P3 : VP} [Mono P2] (h1 : EV t1 σ H (Is (.int way))) (h2 : EV t2 σ H P2) (h3 : EV t3 σ H P3) (ha : ∀ v u H1, P2 v H1 → P3 u H1 → AskAt q way v u H1) (rf : Refused g q wNoSuch) : EV (tTup (tCons t1 (tCons t2 (tCons t3 tNil)))) σ H (AskEl g) := fun H1 e Q k =>
  run_tup (run_cons (h1 H1 e _ fun v1 H2 e2 p1 => run_cons (h2 H2 (e.trans e2) _ fun v H3 e3 p2 => run_cons (h3 H3 ((e.trans e2).trans e3) _ fun w H4 e4 p3 => by
    cases p1
    exact ⟨sz_of (by simp), fun b hb => k _ _ (((e2.trans e3).trans e4).trans (Ex.new hb)) ⟨b, way, v, w, q, rfl, upd_same, (ha _ _ _ (Mono.mono e4 p2) p3).t (Ex.new hb).t, rf⟩⟩))))
def OddEl : VP := fun u H => ∃ xs, TupN xs u H ∧ xs.length ≤ 1000 ∧ xs ∈ odds
instance : TMono OddEl := ⟨fun e ⟨xs, h1, h2, h3⟩ => ⟨xs, td_t e _ h1, h2, h3⟩⟩
theorem e_tupL {ta : TA} {xs : List Nm} (h : EA ta σ H (fun vs H' => TdA H' vs (xs.map enc))) (hz : xs.length ≤ 1000) : EV (tTup ta) σ H (TupN xs) := fun H1 e Q q =>
  h H1 e _ fun vs H2 e2 p => ⟨sz_of (by have := tda_len p; rw [List.length_map] at this; omega), fun x hx => q _ _ (e2.trans (Ex.new hx)) (Td.tup upd_same (tda_t (Ex.new hx).t _ p))⟩
theorem e_odd {ta : TA} {xs : List Nm} (h : EA ta σ H (fun vs H' => TdA H' vs (xs.map enc))) (hm : xs ∈ odds) (hz : xs.length ≤ 1000) : EV (tTup ta) σ H OddEl := (e_tupL h hz).imp fun v H1 e p => ⟨xs, p, hz, hm⟩
/-! ### told() -/
def DkP {α : Type} [DecidableEq α] [Enc α] (kvs : List (Int × α)) : VP := fun v H' => ∃ d, v = .ref d ∧ DkAt H' d kvs
instance {α : Type} [DecidableEq α] [Enc α] {kvs : List (Int × α)} : Mono (DkP kvs) := ⟨fun e ⟨d, h1, h2⟩ => ⟨d, h1, h2.ex e⟩⟩
def ToldP (g : GS) : VP := fun v H' => ∃ t df dc, v = .ref t ∧ H' t = some (.tup [.ref df, .ref dc]) ∧ DkAt H' df g.facts ∧ DkAt H' dc g.cross
instance {g : GS} : Mono (ToldP g) := ⟨fun e ⟨t, df, dc, h1, h2, h3, h4⟩ => ⟨t, df, dc, h1, e _ _ h2, h3.ex e, h4.ex e⟩⟩
theorem e_told {te : TE} {g : GS} {A : GA} (h : EV te σ H (Is (.ref A.p))) (G : GrAt a.cGround g A H) : EV (tMeth a.cGround "told" (sp_Ground_told K a) [] E0 te tNil) σ H (ToldP g) :=
  e_meth0 h G.ins (gm_no _ _) fun H1 e Q q => ⟨g, A, rfl, G.ex e, fun t df dc H2 e2 _ _ _ _ hT hF hC => q _ H2 e2 ⟨t, df, dc, rfl, hT, hF, hC⟩⟩
theorem e_told0 {te : TE} {g : GS} (h : EV te σ H (ToldP g)) : EV (tOp (rIxT K) te (tC (.int 0))) σ H (DkP g.facts) := e_op h e_int fun v y H1 e p p' Q q => by
  cases p'.is_int
  obtain ⟨t, df, dc, rfl, hT, hF, hC⟩ := p
  exact ⟨t, _, 0, .ref df, rfl, rfl, st_of hT, atI_nat (j := 0) rfl, q _ H1 (Ex.refl _) ⟨df, rfl, hF⟩⟩
theorem e_told1 {te : TE} {g : GS} (h : EV te σ H (ToldP g)) : EV (tOp (rIxT K) te (tC (.int 1))) σ H (DkP g.cross) := e_op h e_int fun v y H1 e p p' Q q => by
  cases p'.is_int
  obtain ⟨t, df, dc, rfl, hT, hF, hC⟩ := p
  exact ⟨t, _, 1, .ref dc, rfl, rfl, st_of hT, atI_nat (j := 1) rfl, q _ H1 (Ex.refl _) ⟨dc, rfl, hC⟩⟩
theorem e_lenP {α : Type} [DecidableEq α] [Enc α] {kvs : List (Int × α)} {te : TE} (h : EV te σ H (DkP kvs)) : EV (tLenD (tCons te tNil)) σ H (D (kvs.length : Int)) := fun H1 e Q q =>
  h H1 e _ fun v H2 e2 p => by
    obtain ⟨d, rfl, vs, h1, h2⟩ := p
    exact ⟨d, vs, rfl, h1, by rw [← prD_len h2]; exact q _ _ e2 (D.of_int _ _)⟩
theorem b_ne0 {α : Type} [DecidableEq α] [Enc α] {kvs : List (Int × α)} {te : TE} (h : EV te σ H (DkP kvs)) : EB (tTest (tOp rNeD0 te tDNewK)) σ H (!decide (kvs.length = 0)) := fun H1 e Q q =>
  h H1 e _ fun v H2 e2 p => by
    obtain ⟨d0, rfl, ks, hk, hp⟩ := p
    intro d hd
    refine ⟨d0, d, ks, rfl, rfl, (Ex.new hd) _ _ hk, upd_same, _, rfl, ?_⟩
    rw [← prD_len hp]
    exact q _ (e2.trans (Ex.new hd))
theorem e_disp1 {α : Type} [DecidableEq α] [Enc α] {tk tv : TE} {k : Int} {x : α} (h1 : EV tk σ H (D k)) (h2 : EV tv σ H (D x)) : EV (tDisp [(tk, tv)]) σ H (DkP [(k, x)]) := fun H1 e Q q p hp => by
  have e1 : Ex H1 (upd H1 p (.dK [])) := Ex.new hp
  refine h1 _ (e.trans e1) _ fun v H2 e2 p2 => h2 H2 ((e.trans e1).trans e2) _ fun w H3 e3 p3 => ?_
  cases p2.is_int
  have hp3 : H3 p = some (.dK []) := (e2.trans e3) _ _ upd_same
  refine ⟨hp3, [(.inl k, w)], rfl, by simp, q _ _ ((e1.trans (e2.trans e3)).mut hp) ⟨p, rfl, [(.inl k, w)], upd_same, ?_⟩⟩
  exact .cons ⟨rfl, td_t (TEx.upd hp3 True.intro) _ p3⟩ .nil
theorem b_neDD {α : Type} [DecidableEq α] [Enc α] {kvs : List (Int × α)} {ta tb : TE} (nd : (keysA kvs).Nodup) (hd : Enc.dep α ≤ 63) (h1 : EV ta σ H (DkP kvs)) (h2 : EV tb σ H (DkP kvs)) : EB (tTest (tOp (rNeDD K) ta tb)) σ H false := fun H1 e Q q =>
  h1 H1 e _ fun v H2 e2 p1 => h2 H2 (e.trans e2) _ fun w H3 e3 p2 => by
    obtain ⟨d, rfl, hD⟩ := p1
    obtain ⟨d', rfl, hD'⟩ := p2
    obtain ⟨ks, ls, q1, q2, q3, q4⟩ := same_dk (K := K) nd (hD.ex e3) hD' hd
    exact ⟨d, d', ks, ls, rfl, rfl, q1, q2, ⟨q3, q4⟩, false, rfl, q _ (e2.trans e3)⟩
theorem run_drop {Z : Ends} {σ : L2.St} {te : TE} (h : te σ H fun _ H1 => Z.nx σ H1) : tDrop te Z σ H := h
theorem run_if' {t : TT} {tu tw : TS} {Z : Ends} {σ : L2.St} (h : t σ H fun b H1 => if b = true then tu Z σ H1 else tw Z σ H1) : tIfS t tu tw Z σ H := h
theorem run_orF' {t u : TT} {σ : L2.St} {Q : Bool → Hp → Prop} (h : EB t σ H false) (k : ∀ H1, Ex H H1 → u σ H1 Q) : tOr t u σ H Q := h.run fun H1 e => k H1 e
end
def sp_w_names_refused (K : PySem.W.Frag) (a : Ad) : Sp := fun vs H Q _ => ∃ (r p0 : Addr), vs = [.ref r] ∧ RowAt K p0 r H ∧ ∀ H', Chg [r] H H' → RowAt K p0 r H' → Q (.bl true) H'
def sp_w_is_full_right (K : PySem.W.Frag) (a : Ad) : Sp := fun vs H Q _ => ∃ (r p0 : Addr) (g : GS) (A : GA) (l : Addr) (Hb : Hp), vs = [.ref r, .ref A.p, .int 0, .ref l] ∧ RowAt K p0 r H ∧ GrAt a.cGround g A H ∧ GOk g ∧ KSt g 2 ∧ RawP Hb 9 OddEl (.ref l) H ∧ l ≠ r ∧ ∀ H', Q (.bl true) H'
def t_w_names_refused (K : PySem.W.Frag) (a : Ad) : TS :=
  (tSeq (tAsg (tOp (rIxL K) (tLst (tCons (tC (.str ("" : Str))) (tCons (tC (.str ("ninesigns" : Str))) (tCons (tC (.str ("Ab" : Str))) (tCons (tC (.str ("a1" : Str))) (tCons (tC (.str ("a b" : Str))) (tCons (tC (.str ("x_" : Str))) tNil))))))) (tCall (sp_w_taken K a) [] E0 (tCons (tVar 0) (tCons (tC (.int 6)) tNil)))) (gName 1)) (tSeq (tAsg (tLc (iRng1 (tCons (tC (.int 12)) tNil)) (gName 3) tYes (tOp rIxS (tC (.str ("abcdefghijkl" : Str))) (tVar 3)) [3]) (gName 2)) (tSeq (tIfS (tOr (tTest (tOp (rNeD K) (tCall (sp_w_made K a) [] E0 (tCons (tOp rCat (tSl (rSlL K) (tVar 2) tNo (tSome (tC (.int 3)))) (tLst (tCons (tVar 1) tNil))) (tCons (tLst tNil) tNil))) (tC (.str ("nofact" : Str))))) (tTest (tOp (rNeD K) (tCall (sp_w_made K a) [] E0 (tCons (tSl (rSlL K) (tVar 2) tNo (tSome (tC (.int 2)))) (tCons (tLst (tCons (tVar 1) tNil)) tNil))) (tC (.str ("nofact" : Str)))))) (tRet (tC (.bl false))) tNext) (tSeq (tIfS (tOr (tTest (tOp (rNeD K) (tCall (sp_w_made K a) [] E0 (tCons (tLst (tCons (tC (.str ("a" : Str))) (tCons (tC (.str ("b" : Str))) (tCons (tC (.str ("a" : Str))) tNil)))) (tCons (tLst tNil) tNil))) (tC (.str ("nofact" : Str))))) (tTest (tOp (rNeD K) (tCall (sp_w_made K a) [] E0 (tCons (tLst (tCons (tC (.str ("a" : Str))) tNil)) (tCons (tLst (tCons (tC (.str ("b" : Str))) (tCons (tC (.str ("a" : Str))) tNil))) tNil))) (tC (.str ("nofact" : Str)))))) (tRet (tC (.bl false))) tNext) (tSeq (tIfS (tOr (tTest (tOp (rNeD K) (tCall (sp_w_made K a) [] E0 (tCons (tSl (rSlL K) (tVar 2) tNo (tSome (tC (.int 9)))) (tCons (tLst tNil) tNil))) (tC (.str ("full" : Str))))) (tOr (tTest (tOp (rNeD K) (tCall (sp_w_made K a) [] E0 (tCons (tLst tNil) (tCons (tSl (rSlL K) (tVar 2) tNo (tSome (tC (.int 4)))) tNil))) (tC (.str ("full" : Str))))) (tTest (tOp (rNeD K) (tCall (sp_w_made K a) [] E0 (tCons (tOp rRep (tLst (tCons (tVar 1) tNil)) (tC (.int 9))) (tCons (tLst tNil) tNil))) (tC (.str ("full" : Str))))))) (tRet (tC (.bl false))) tNext) (tRet (tAndV (tOp (rEqD K) (tCall (sp_w_made K a) [] E0 (tCons (tSl (rSlL K) (tVar 2) tNo (tSome (tC (.int 8)))) (tCons (tSl (rSlL K) (tVar 2) (tSome (tC (.int 8))) (tSome (tC (.int 11)))) tNil))) (tC (.str ("" : Str)))) (tOp (rEqD K) (tCall (sp_w_made K a) [] E0 (tCons (tLst tNil) (tCons (tLst tNil) tNil))) (tC (.str ("" : Str)))))))))))
def t_w_is_full_right (K : PySem.W.Frag) (a : Ad) : TS :=
  (tSeq (tFor (iRng1 (tCons (tC (.int 57)) tNil)) (gName 4) (tDrop (tMeth a.cGround "tell" (sp_Ground_tell K a) [] E0 (tVar 1) (tCons (tTup (tCons (tC (.str ("over" : Str))) (tCons (tC (.str ("kim" : Str))) (tCons (tC (.str ("lo" : Str))) tNil)))) tNil)))) (tSeq (tIfS (tOr (tTest (tOp (rNeD K) (tCall (sp_w_asked K a) [] E0 (tCons (tVar 1) (tCons (tC (.int 1)) (tCons (tTup (tCons (tC (.str ("over" : Str))) (tCons (tC (.str ("lo" : Str))) (tCons (tC (.str ("kim" : Str))) tNil)))) (tCons (tC .non) tNil))))) (tC (.str ("full" : Str))))) (tTest (tOp (rNeD K) (tCall (sp_w_asked K a) [] E0 (tCons (tVar 1) (tCons (tC (.int 2)) (tCons (tC (.str ("kim" : Str))) (tCons (tC (.str ("mo" : Str))) tNil))))) (tC (.str ("full" : Str)))))) (tRet (tC (.bl false))) tNext) (tSeq (tIfS (tOr (tTest (tOp (rNeD K) (tCall (sp_w_asked K a) [] E0 (tCons (tVar 1) (tCons (tC (.int 1)) (tCons (tOp (rIxL K) (tVar 3) (tCall (sp_w_taken K a) [] E0 (tCons (tVar 0) (tCons (tC (.int 9)) tNil)))) (tCons (tC .non) tNil))))) (tC (.str ("nofact" : Str))))) (tTest (tOp (rNeD K) (tLenD (tCons (tOp (rIxT K) (tMeth a.cGround "told" (sp_Ground_told K a) [] E0 (tVar 1) tNil) (tC (.int 0))) tNil)) (tC (.int 59))))) (tRet (tC (.bl false))) tNext) (tSeq (tIfS (tTest (tOp (rNeD K) (tCall (sp_w_asked K a) [] E0 (tCons (tVar 1) (tCons (tC (.int 2)) (tCons (tC (.str ("kim" : Str))) (tCons (tOp (rIxL K) (tLst (tCons (tC (.str ("kim" : Str))) (tCons (tC (.str ("rain" : Str))) (tCons (tC (.str ("dew" : Str))) tNil)))) (tCall (sp_w_taken K a) [] E0 (tCons (tVar 0) (tCons (tC (.int 3)) tNil)))) tNil))))) (tC (.str ("nofact" : Str))))) (tRet (tC (.bl false))) tNext) (tSeq (tIfS (tOr (tTest (tOp (rNeD K) (tMeth a.cGround "settle" (sp_Ground_settle K a) [] E0 (tVar 1) (tCons (tVar 2) (tCons (tC (.str ("lo" : Str))) tNil))) (tVar 2))) (tOr (tTest (tOp rNeD0 (tOp (rIxT K) (tMeth a.cGround "told" (sp_Ground_told K a) [] E0 (tVar 1) tNil) (tC (.int 1))) tDNewK)) (tTest (tOp (rNeD K) (tLenD (tCons (tOp (rIxT K) (tMeth a.cGround "told" (sp_Ground_told K a) [] E0 (tVar 1) tNil) (tC (.int 0))) tNil)) (tC (.int 60)))))) (tRet (tC (.bl false))) tNext) (tSeq (tDrop (tMeth a.cGround "take" (sp_Ground_take K a) [] E0 (tVar 1) (tCons (tC (.int 59)) tNil))) (tRet (tAndV (tOp (rEqD K) (tCall (sp_w_asked K a) [] E0 (tCons (tVar 1) (tCons (tC (.int 5)) (tCons (tC (.int 59)) (tCons (tC .non) tNil))))) (tC (.str ("nosuch" : Str)))) (tOp (rEqD K) (tCall (sp_w_asked K a) [] E0 (tCons (tVar 1) (tCons (tC (.int 4)) (tCons (tC (.int 59)) (tCons (tC .non) tNil))))) (tC (.str ("nosuch" : Str))))))))))))
def t_law (K : PySem.W.Frag) (a : Ad) : TS :=
  (tSeq (tAsg (tLst (tCons (tVar 0) (tCons (tC (.int 0)) (tCons (tC (.int 0)) tNil)))) (gName 1)) (tSeq (tIfS (tNot (tB (tCall (sp_w_names_refused K a) [] E0 (tCons (tVar 1) tNil)))) (tRet (tC (.bl false))) tNext) (tSeq (tAsg (tMake a.cGround (sp_Ground_init10 K a) [] E0 (tCons (tLst (tCons (tC (.str ("kim" : Str))) (tCons (tC (.str ("lo" : Str))) (tCons (tC (.str ("mo" : Str))) tNil)))) (tCons (tLst (tCons (tC (.str ("rain" : Str))) tNil)) tNil))) (gName 2)) (tSeq (tAsg (tMeth a.cGround "cross" (sp_Ground_cross K a) [] E0 (tVar 2) (tCons (tC (.str ("lo" : Str))) (tCons (tC (.str ("mo" : Str))) tNil))) (gName 3)) (tSeq (tDrop (tMeth a.cGround "tell" (sp_Ground_tell K a) [] E0 (tVar 2) (tCons (tTup (tCons (tC (.str ("over" : Str))) (tCons (tC (.str ("kim" : Str))) (tCons (tC (.str ("lo" : Str))) tNil)))) tNil))) (tSeq (tAsg (tOp (rI0 fun i j => .int (i + j)) (tC (.int 2)) (tCall (sp_w_taken K a) [] E0 (tCons (tVar 1) (tCons (tC (.int 1000)) tNil)))) (gName 4)) (tSeq (tAsg (tTup (tCons (tC (.str ("walker" : Str))) (tCons (tC (.str ("kim" : Str))) tNil))) (gName 5)) (tSeq (tAsg (tLst (tCons (tTup (tCons (tC (.int 0)) (tCons (tVar 5) (tCons (tVar 5) tNil)))) (tCons (tTup (tCons (tC (.int 0)) (tCons (tVar 5) (tCons (tTup (tCons (tC (.str ("walker" : Str))) (tCons (tC (.str ("rain" : Str))) tNil))) tNil)))) (tCons (tTup (tCons (tC (.int 0)) (tCons (tTup (tCons (tC (.str ("begin" : Str))) (tCons (tC (.str ("kim" : Str))) tNil))) (tCons (tVar 5) tNil)))) (tCons (tTup (tCons (tC (.int 0)) (tCons (tVar 5) (tCons (tTup (tCons (tC (.str ("end" : Str))) (tCons (tC (.str ("dew" : Str))) tNil))) tNil)))) tNil))))) (gName 6)) (tSeq (tAsg (tOp rCat (tVar 6) (tLst (tCons (tTup (tCons (tC (.int 3)) (tCons (tVar 4) (tCons (tC (.str ("kim" : Str))) tNil)))) (tCons (tTup (tCons (tC (.int 3)) (tCons (tC (.int 1)) (tCons (tC (.str ("kim" : Str))) tNil)))) (tCons (tTup (tCons (tC (.int 4)) (tCons (tVar 4) (tCons (tC .non) tNil)))) (tCons (tTup (tCons (tC (.int 4)) (tCons (tOp (rI0 fun i j => .int (i - j)) (tC (.int 0)) (tVar 4)) (tCons (tC .non) tNil)))) tNil)))))) (gName 6)) (tSeq (tAsg (tOp rCat (tVar 6) (tLst (tCons (tTup (tCons (tC (.int 5)) (tCons (tVar 3) (tCons (tC .non) tNil)))) (tCons (tTup (tCons (tC (.int 5)) (tCons (tVar 4) (tCons (tC .non) tNil)))) tNil)))) (gName 6)) (tSeq (tIfS (tTest (tOp (rNeD K) (tLc (iList K (tVar 6)) (gName 8) (tTest (tOp (rNeD K) (tCall (sp_w_asked K a) [] E0 (tCons (tVar 2) (tCons (tOp (rIxT K) (tVar 8) (tC (.int 0))) (tCons (tOp (rIxT K) (tVar 8) (tC (.int 1))) (tCons (tOp (rIxT K) (tVar 8) (tC (.int 2))) tNil))))) (tC (.str ("nosuch" : Str))))) (tVar 8) [8]) (tLst tNil))) (tRet (tC (.bl false))) tNext) (tSeq (tAsg (tLst (tCons (tTup (tCons (tC (.str ("over" : Str))) (tCons (tC (.str ("kim" : Str))) (tCons (tC (.str ("kim" : Str))) tNil)))) (tCons (tTup (tCons (tC (.str ("over" : Str))) (tCons (tC (.str ("kim" : Str))) (tCons (tC (.str ("rain" : Str))) tNil)))) (tCons (tTup (tCons (tC (.str ("ahead" : Str))) (tCons (tC (.str ("kim" : Str))) (tCons (tC (.str ("lo" : Str))) tNil)))) (tCons (tTup (tCons (tC (.str ("amid" : Str))) (tCons (tC (.str ("rain" : Str))) (tCons (tC (.str ("rain" : Str))) tNil)))) (tCons (tTup tNil) tNil)))))) (gName 7)) (tSeq (tAsg (tOp rCat (tVar 7) (tLst (tCons (tTup (tCons (tC (.str ("under" : Str))) (tCons (tC (.str ("kim" : Str))) (tCons (tC (.str ("lo" : Str))) tNil)))) (tCons (tTup (tCons (tC (.str ("behind" : Str))) (tCons (tC (.str ("kim" : Str))) tNil))) (tCons (tTup (tCons (tC (.str ("over" : Str))) (tCons (tC (.str ("kim" : Str))) (tCons (tC (.str ("lo" : Str))) (tCons (tC (.str ("mo" : Str))) tNil))))) (tCons (tTup (tCons (tC (.str ("behind" : Str))) (tCons (tC (.str ("kim" : Str))) (tCons (tC (.str ("dew" : Str))) tNil)))) tNil)))))) (gName 7)) (tSeq (tIfS (tTest (tOp (rNeD K) (tLc (iList K (tVar 7)) (gName 9) (tTest (tOp (rNeD K) (tCall (sp_w_asked K a) [] E0 (tCons (tVar 2) (tCons (tC (.int 1)) (tCons (tVar 9) (tCons (tC .non) tNil))))) (tC (.str ("nofact" : Str))))) (tVar 9) [9]) (tLst tNil))) (tRet (tC (.bl false))) tNext) (tSeq (tIfS (tOr (tTest (tOp (rNeD K) (tCall (sp_w_asked K a) [] E0 (tCons (tVar 2) (tCons (tC (.int 2)) (tCons (tC (.str ("kim" : Str))) (tCons (tC (.str ("kim" : Str))) tNil))))) (tC (.str ("nofact" : Str))))) (tTest (tOp (rNeD K) (tCall (sp_w_asked K a) [] E0 (tCons (tVar 2) (tCons (tC (.int 3)) (tCons (tVar 3) (tCons (tC (.str ("kim" : Str))) tNil))))) (tC (.str ("nofact" : Str)))))) (tRet (tC (.bl false))) tNext) (tSeq (tIfS (tTest (tOp (rNeD K) (tCall (sp_w_asked K a) [] E0 (tCons (tVar 2) (tCons (tC (.int 1)) (tCons (tTup (tCons (tC (.str ("over" : Str))) (tCons (tC (.str ("lo" : Str))) (tCons (tC (.str ("kim" : Str))) tNil)))) (tCons (tC .non) tNil))))) (tC (.str ("ring" : Str))))) (tRet (tC (.bl false))) tNext) (tSeq (tDrop (tMeth a.cGround "tell" (sp_Ground_tell K a) [] E0 (tVar 2) (tCons (tTup (tCons (tC (.str ("over" : Str))) (tCons (tC (.str ("lo" : Str))) (tCons (tC (.str ("mo" : Str))) tNil)))) tNil))) (tSeq (tIfS (tOr (tTest (tOp (rNeD K) (tCall (sp_w_asked K a) [] E0 (tCons (tVar 2) (tCons (tC (.int 3)) (tCons (tVar 3) (tCons (tC (.str ("mo" : Str))) tNil))))) (tC (.str ("ring" : Str))))) (tTest (tOp (rNeDD K) (tOp (rIxT K) (tMeth a.cGround "told" (sp_Ground_told K a) [] E0 (tVar 2) tNil) (tC (.int 1))) (tDisp (((tVar 3), (tTup (tCons (tC (.str ("lo" : Str))) (tCons (tC (.str ("mo" : Str))) tNil)))) :: []))))) (tRet (tC (.bl false))) tNext) (tRet (tCall (sp_w_is_full_right K a) [] E0 (tCons (tVar 1) (tCons (tVar 2) (tCons (tVar 3) (tCons (tVar 7) tNil))))))))))))))))))))))))
section
variable {K : PySem.W.Frag} {a : Ad} {vs : List V} {H H' : Hp} {Q : VK} {E : XK}
theorem e_made {σ : L2.St} {t1 t2 : TE} {ws ths : List Nm} {w : Nm} (h1 : EV t1 σ H (Ls ws)) (h2 : EV t2 σ H (Ls ths)) (z1 : ws.length ≤ 100) (z2 : ths.length ≤ 100) (zn : ∀ n ∈ ws ++ ths, n.s.length ≤ 10000) (e : madeW ws ths = w) : EV (tCall (sp_w_made K a) [] E0 (tCons t1 (tCons t2 tNil))) σ H (D w) :=
  e_call2 (P1 := Ls ws) (P2 := Ls ths) h1 h2 fun x y H1 e1 p1 p2 Q q => ⟨ws, ths, x, y, rfl, p1, p2, z1, z2, zn, fun H2 e2 => q _ H2 e2 (by rw [e]; exact D.of_nm _ _)⟩
theorem e_repS {σ : L2.St} {te tb : TE} {x : Nm} {n : Nat} (hx : EV te σ H (D x)) (h : EV tb σ H (D (n : Int))) (hn : n ≤ 1000) : EV (tOp rRep (tLst (tCons te tNil)) tb) σ H (NL H (List.replicate n x)) :=
  e_op (P := NL H [x]) (e_l1 (α := Nm) hx) h fun v y H1 e p p' Q q => by
    cases p'.is_int
    obtain ⟨l, us, rfl, h0, h1, h2⟩ := p
    cases h2 with
    | cons a1 a2 =>
      cases a2
      rename_i v0
      refine ⟨l, (n : Int), [v0], rfl, rfl, h1, by omega, by omega, sz_of (by simp; omega), fun p hp => ?_⟩
      have hfl : (List.replicate ((n : Int)).toNat [v0]).flatten = List.replicate n v0 := by
        rw [Int.toNat_natCast]
        clear hn hp q h p'
        induction n with
        | zero => rfl
        | succ n ih => rw [List.replicate_succ, List.flatten_cons, List.replicate_succ]; exact congrArg (v0 :: ·) ih
      rw [hfl]
      refine q _ _ (Ex.new hp) ⟨p, _, rfl, e.free hp, upd_same, ?_⟩
      rw [List.map_replicate]
      have a2 : Td (upd H1 p (.lst (List.replicate n v0))) v0 (enc x) := td_t (Ex.new hp).t _ a1
      generalize upd H1 p (.lst (List.replicate n v0)) = H9 at a2
      clear hfl hn hp q h p'
      induction n with
      | zero => exact .nil
      | succ n ih => exact .cons a2 ih
theorem cut_both (xs : List V) (i j : Nat) (h : i ≤ j) (hj : j ≤ xs.length) : cutV xs (some (i : Int)) (some (j : Int)) = (xs.drop i).take (j - i) := by
  unfold cutV
  rw [HT.sIx_nat, HT.sIx_nat, Nat.min_eq_left hj, Nat.min_eq_left (by omega)]
theorem e_slBoth {α : Type} [DecidableEq α] [Enc α] {σ : L2.St} {te ti tj : TE} {xs : List α} {i j : Nat} (h : EV te σ H (Ls xs)) (hi : EV ti σ H (D (i : Int))) (hj : EV tj σ H (D (j : Int))) (hij : i ≤ j) (hz : j ≤ xs.length) : EV (tSl (rSlL K) te (tSome ti) (tSome tj)) σ H (NL H ((xs.drop i).take (j - i))) := fun H1 e Q q =>
  h H1 e _ fun v H2 e2 p => hi H2 (e.trans e2) _ fun y H3 e3 p3 => by
    cases p3.is_int
    refine ⟨_, rfl, hj H3 ((e.trans e2).trans e3) _ fun y' H4 e4 p4 => ?_⟩
    cases p4.is_int
    obtain ⟨l, us, rfl, h1, h2⟩ := p.ex (e3.trans e4)
    refine ⟨_, rfl, l, us, rfl, sq_of h1, fun x hx => ?_⟩
    have hul : us.length = xs.length := by have := tda_len h2; rwa [List.length_map] at this
    rw [cut_both us i j hij (by omega)]
    refine q _ _ (e2.trans (e3.trans (e4.trans (Ex.new hx)))) ⟨x, _, rfl, e.free (e2.free (e3.free (e4.free hx))), upd_same, ?_⟩
    rw [List.map_take, List.map_drop]
    exact tda_take _ (tda_drop _ (tda_t (Ex.new hx).t _ h2))
theorem len12 : let12.length = 12 := by decide +kernel
theorem len_w_names_refused (K : PySem.W.Frag) (a : Ad) : ∀ vs H Q E, sp_w_names_refused K a vs H Q E → vs.length = 1 := fun _ _ _ _ ⟨_, _, e, _⟩ => by rw [e]; rfl
theorem p_w_names_refused (T : ClT K a) (h : sp_w_names_refused K a vs H Q E) : t_w_names_refused K a (FinQ Q) (start ["_law_row", "_law_bad", "_law_names", "_law_k"] vs) H := by
  obtain ⟨r, p0, rfl, R, k⟩ := h
  show tSeq _ _ _ [some (.ref r), none, none, none] H
  have hb : EV (tLst (tCons (tC (.str ("" : Str))) (tCons (tC (.str ("ninesigns" : Str))) (tCons (tC (.str ("Ab" : Str))) (tCons (tC (.str ("a1" : Str))) (tCons (tC (.str ("a b" : Str))) (tCons (tC (.str ("x_" : Str))) tNil))))))) [some (.ref r), none, none, none] H (NL H bads) :=
    e_lst (el_cons (e_str (nmOf "")) (el_cons (e_str (nmOf "ninesigns")) (el_cons (e_str (nmOf "Ab")) (el_cons (e_str (nmOf "a1")) (el_cons (e_str (nmOf "a b")) (el_cons (e_str (nmOf "x_")) el_nil)))))) (by decide)
  refine run_seq (c_ixTaken (ws := bads) hb.ls e_is (fun v H1 e1 p1 => e_int (i := 6)) R (by decide) fun bad H1 hbad c1 R1 => ?_)
  refine run_gN ?_
  show tSeq _ _ _ [some (.ref r), some (.str bad.s), none, none] H1
  have hn : EV (tLc (iRng1 (tCons (tC (.int 12)) tNil)) (gName 3) tYes (tOp rIxS (tC (.str ("abcdefghijkl" : Str))) (tVar 3)) [3]) [some (.ref r), some (.str bad.s), none, none] H1 (NL H1 let12) := by
    refine e_lcR (n := 12) (vs := [3]) (j := 3) (fun i => sign (97 + i)) (e_int (i := 12)) (by decide) (by decide) (fun _ => rfl) fun i H2 hi e2 => ?_
    have hc : ("abcdefghijkl" : Str).cps.toList[i]? = some (97 + i) := by
      have : i < 12 := by omega
      match i, this with
      | 0, _ => decide +kernel
      | 1, _ => decide +kernel
      | 2, _ => decide +kernel
      | 3, _ => decide +kernel
      | 4, _ => decide +kernel
      | 5, _ => decide +kernel
      | 6, _ => decide +kernel
      | 7, _ => decide +kernel
      | 8, _ => decide +kernel
      | 9, _ => decide +kernel
      | 10, _ => decide +kernel
      | 11, _ => decide +kernel
      | n + 12, h => omega
    exact (e_ixS (z := ("abcdefghijkl" : Str)) (j := i) (c := 97 + i) e_c (e_intC (i : Int)) (by decide +kernel) hc).imp fun v H3 e3 p => by
      cases p
      rw [← sign_s (c := 97 + i) (by omega)]
      exact D.of_nm _ _
  refine q_set hn fun v2 H2 e2 p2 => ?_
  have R2 := R1.ex e2
  have q2 : Ls let12 v2 H2 := p2.ls
  have hbl := bads_len bad hbad
  have hml := made_bad bad hbad
  have mo := made_ok
  show tSeq _ _ _ [some (.ref r), some (.str bad.s), some v2, none] H2
  have hl2 : ∀ (xs ys : List Nm), (∀ x ∈ xs ++ ys, x = bad ∨ x ∈ let12 ∨ x = cA ∨ x = cB) → ∀ n ∈ xs ++ ys, n.s.length ≤ 10000 := fun xs ys h n hn => by
    rcases h n hn with z | z | z | z
    · rw [z]; exact hbl
    · exact let12_len n z
    · rw [z]; decide +kernel
    · rw [z]; decide +kernel
  have nbad : ∀ (H3 : Hp) {n2 n3 : Option V}, EV (tVar 1) [some (.ref r), some (.str bad.s), n2, n3] H3 (D bad) := fun H3 n2 n3 => e_nmC bad
  have sl : ∀ (n : Nat) (H3 : Hp), Ex H2 H3 → EV (tSl (rSlL K) (tVar 2) tNo (tSome (tC (.int (n : Int))))) [some (.ref r), some (.str bad.s), some v2, none] H3 (NL H3 (let12.take n)) := fun n H3 e => e_slTo (K := K) (k := n) (e_var (P := Ls let12) (q2.ex e)) e_int
  have tk : ∀ (n : Nat) (x : Nm), x ∈ let12.take n → x ∈ let12 := fun n x h => List.mem_of_mem_take h
  have A1 : ∀ (H3 : Hp), Ex H2 H3 → EV (tCall (sp_w_made K a) [] E0 (tCons (tOp rCat (tSl (rSlL K) (tVar 2) tNo (tSome (tC (.int 3)))) (tLst (tCons (tVar 1) tNil))) (tCons (tLst tNil) tNil))) [some (.ref r), some (.str bad.s), some v2, none] H3 (D wNoFact) := fun H3 e =>
    e_made (K := K) (a := a) (e_cat (sl 3 H3 e).ls (e_l1 (nbad H3)).ls (by simp only [List.length_append, List.length_take, List.length_drop, List.length_cons, List.length_nil, len12]; omega)).ls (e_nil (α := Nm)).ls (by simp only [List.length_append, List.length_take, List.length_drop, List.length_cons, List.length_nil, len12]; omega) (by simp only [List.length_append, List.length_take, List.length_drop, List.length_cons, List.length_nil, len12]; omega) (hl2 _ _ fun x hx => by
      rw [List.append_nil] at hx
      rcases List.mem_append.mp hx with z | z
      · exact .inr (.inl (tk 3 x z))
      · exact .inl (List.mem_singleton.mp z)) hml.1
  have A2 : ∀ (H3 : Hp), Ex H2 H3 → EV (tCall (sp_w_made K a) [] E0 (tCons (tSl (rSlL K) (tVar 2) tNo (tSome (tC (.int 2)))) (tCons (tLst (tCons (tVar 1) tNil)) tNil))) [some (.ref r), some (.str bad.s), some v2, none] H3 (D wNoFact) := fun H3 e =>
    e_made (K := K) (a := a) (sl 2 H3 e).ls (e_l1 (nbad H3)).ls (by simp only [List.length_append, List.length_take, List.length_drop, List.length_cons, List.length_nil, len12]; omega) (by simp only [List.length_append, List.length_take, List.length_drop, List.length_cons, List.length_nil, len12]; omega) (hl2 _ _ fun x hx => by
      rcases List.mem_append.mp hx with z | z
      · exact .inr (.inl (tk 2 x z))
      · exact .inl (List.mem_singleton.mp z)) hml.2.1
  refine q_if (b_or (b_to (b_ne (K := K) (α := Nm) (A1 H2 (Ex.refl _)) (e_str wNoFact)) (by simp : (!decide (wNoFact = wNoFact)) = false)) fun _ => b_to (b_ne (K := K) (α := Nm) (A2 H2 (Ex.refl _)) (e_str wNoFact)) (by simp : (!decide (wNoFact = wNoFact)) = false)) (fun c => by cases c) fun _ H3 e3 => ?_
  have ab : ∀ x, x = cA ∨ x = cB → x = bad ∨ x ∈ let12 ∨ x = cA ∨ x = cB := fun x h => .inr (.inr h)
  have B1 : ∀ (H4 : Hp), EV (tCall (sp_w_made K a) [] E0 (tCons (tLst (tCons (tC (.str ("a" : Str))) (tCons (tC (.str ("b" : Str))) (tCons (tC (.str ("a" : Str))) tNil)))) (tCons (tLst tNil) tNil))) [some (.ref r), some (.str bad.s), some v2, none] H4 (D wNoFact) := fun H4 =>
    e_made (K := K) (a := a) (e_lst (el_cons (e_str cA) (el_cons (e_str cB) (el_cons (e_str cA) el_nil))) (by decide)).ls (e_nil (α := Nm)).ls (by decide) (by decide) (hl2 _ _ fun x hx => ab x (by simp at hx; rcases hx with z | z | z <;> simp [z])) mo.1.1
  have B2 : ∀ (H4 : Hp), EV (tCall (sp_w_made K a) [] E0 (tCons (tLst (tCons (tC (.str ("a" : Str))) tNil)) (tCons (tLst (tCons (tC (.str ("b" : Str))) (tCons (tC (.str ("a" : Str))) tNil))) tNil))) [some (.ref r), some (.str bad.s), some v2, none] H4 (D wNoFact) := fun H4 =>
    e_made (K := K) (a := a) (e_l1 (e_str cA)).ls (e_l2 (e_str cB) (e_str cA)).ls (by decide) (by decide) (hl2 _ _ fun x hx => ab x (by simp at hx; rcases hx with z | z | z <;> simp [z])) mo.1.2
  refine q_if (b_or (b_to (b_ne (K := K) (α := Nm) (B1 H3) (e_str wNoFact)) (by simp : (!decide (wNoFact = wNoFact)) = false)) fun _ => b_to (b_ne (K := K) (α := Nm) (B2 H3) (e_str wNoFact)) (by simp : (!decide (wNoFact = wNoFact)) = false)) (fun c => by cases c) fun _ H4 e4 => ?_
  have e24 := e3.trans e4
  have C1 := e_made (K := K) (a := a) (w := wFull) (sl 9 H4 e24).ls (e_nil (α := Nm)).ls (by simp only [List.length_append, List.length_take, List.length_drop, List.length_cons, List.length_nil, len12]; omega) (by simp only [List.length_append, List.length_take, List.length_drop, List.length_cons, List.length_nil, len12]; omega) (hl2 _ _ fun x hx => by rw [List.append_nil] at hx; exact .inr (.inl (tk 9 x hx))) mo.2.1
  have C2 := e_made (K := K) (a := a) (w := wFull) (e_nil (α := Nm)).ls (sl 4 H4 e24).ls (by simp only [List.length_append, List.length_take, List.length_drop, List.length_cons, List.length_nil, len12]; omega) (by simp only [List.length_append, List.length_take, List.length_drop, List.length_cons, List.length_nil, len12]; omega) (hl2 _ _ fun x hx => by rw [List.nil_append] at hx; exact .inr (.inl (tk 4 x hx))) mo.2.2.1
  have C3 := e_made (K := K) (a := a) (w := wFull) (e_repS (n := 9) (tb := tC (.int 9)) (nbad H4 (n2 := some v2) (n3 := none)) e_int (by decide)).ls (e_nil (α := Nm)).ls (by rw [List.length_replicate]; decide) (by decide) (hl2 _ _ fun x hx => by rw [List.append_nil] at hx; exact .inl (List.mem_replicate.mp hx).2) hml.2.2
  refine q_if (b_or (b_to (b_ne (K := K) (α := Nm) C1 (e_str wFull)) (by simp : (!decide (wFull = wFull)) = false)) fun _ => b_or (b_to (b_ne (K := K) (α := Nm) C2 (e_str wFull)) (by simp : (!decide (wFull = wFull)) = false)) fun _ => b_to (b_ne (K := K) (α := Nm) C3 (e_str wFull)) (by simp : (!decide (wFull = wFull)) = false)) (fun c => by cases c) fun _ H5 e5 => ?_
  have e25 := e24.trans e5
  have D1 := e_made (K := K) (a := a) (w := wNone) (sl 8 H5 e25).ls (e_slBoth (K := K) (i := 8) (j := 11) (e_var (σ := [some (.ref r), some (.str bad.s), some v2, none]) (i := 2) (P := Ls let12) (q2.ex e25)) e_int e_int (by decide) (by rw [len12]; decide)).ls (by simp only [List.length_append, List.length_take, List.length_drop, List.length_cons, List.length_nil, len12]; omega) (by simp only [List.length_append, List.length_take, List.length_drop, List.length_cons, List.length_nil, len12]; omega) (hl2 _ _ fun x hx => .inr (.inl (by
    rcases List.mem_append.mp hx with z | z
    · exact tk 8 x z
    · exact List.mem_of_mem_drop (List.mem_of_mem_take z)))) mo.2.2.2.1
  have D2 := e_made (K := K) (a := a) (w := wNone) (σ := [some (.ref r), some (.str bad.s), some v2, none]) (H := H5) (e_nil (α := Nm)).ls (e_nil (α := Nm)).ls (by decide) (by decide) (fun n hn => nomatch hn) mo.2.2.2.2
  have r1 := e_eqB (K := K) (α := Nm) D1 (e_str wNone)
  have r2 := e_eqB (K := K) (α := Nm) D2 (e_str wNone)
  rw [decide_eq_true rfl] at r1 r2
  refine s_ret (P := Is (.bl true)) (e_andV r1 fun _ => r2) fun x H6 e6 p6 => ?_
  cases p6
  have ee := e25.trans e6
  exact k H6 (c1.trans (Chg.of_ex (e2.trans ee))) (R2.ex ee)
/-! ### the full ground -/
theorem c_tell {σ : L2.St} {te tt : TE} {g g' : GS} {A : GA} {f : Fact} {n : Int} (h : EV te σ H (Is (.ref A.p))) (ht : EV tt σ H (TupN (tl3 f))) (G : GrAt a.cGround g A H) (ok : GOk g) (hw : doG g (.tell (tl3 f)) = (.num n, g')) (k : ∀ H', Chg [A.p, A.df, A.dc] H H' → GrAt a.cGround g' A H' → Q (.int n) H') :
    tMeth a.cGround "tell" (sp_Ground_tell K a) [] E0 te (tCons tt tNil) σ H Q :=
  h.run fun v H1 e1 p1 => by
    cases p1
    refine ⟨A.p, A.dx, _, rfl, (G.ex e1).ins, gm_no _ _, run_cons ((ht.ex e1).run fun x H2 e2 p2 => ⟨g, A, tl3 f, x, rfl, G.ex (e1.trans e2), ok, p2, (show 3 ≤ 1000 by decide), ?_⟩)⟩
    unfold GAns
    rw [hw]
    exact fun H3 c3 G3 => k H3 ((Chg.of_ex (e1.trans e2)).trans c3) G3
theorem c_cross {σ : L2.St} {te t1 t2 : TE} {g g' : GS} {A : GA} {x y : Nm} {n : Int} (h : EV te σ H (Is (.ref A.p))) (h1 : EV t1 σ H (D x)) (h2 : EV t2 σ H (D y)) (G : GrAt a.cGround g A H) (ok : GOk g) (hw : doG g (.cross x y) = (.num n, g')) (k : ∀ H', Chg [A.p, A.df, A.dc] H H' → GrAt a.cGround g' A H' → Q (.int n) H') :
    tMeth a.cGround "cross" (sp_Ground_cross K a) [] E0 te (tCons t1 (tCons t2 tNil)) σ H Q :=
  h.run fun v H1 e1 p1 => by
    cases p1
    refine ⟨A.p, A.dx, _, rfl, (G.ex e1).ins, gm_no _ _, run_cons ((h1.ex e1).run fun x1 H2 e2 p2 => run_cons ((h2.ex (e1.trans e2)).run fun x2 H3 e3 p3 => ?_))⟩
    cases p2.is_nm
    cases p3.is_nm
    refine ⟨g, A, x, y, rfl, G.ex (e1.trans (e2.trans e3)), ok, ?_⟩
    unfold GAns
    rw [hw]
    exact fun H4 c4 G4 => k H4 ((Chg.of_ex (e1.trans (e2.trans e3))).trans c4) G4
theorem c_settle {σ : L2.St} {te t1 t2 : TE} {g g' : GS} {A : GA} {m : Int} {y : Nm} {n : Int} (h : EV te σ H (Is (.ref A.p))) (h1 : EV t1 σ H (D m)) (h2 : EV t2 σ H (D y)) (G : GrAt a.cGround g A H) (ok : GOk g) (hw : doG g (.settle m y) = (.num n, g')) (k : ∀ H', Chg [A.p, A.df, A.dc] H H' → GrAt a.cGround g' A H' → Q (.int n) H') :
    tMeth a.cGround "settle" (sp_Ground_settle K a) [] E0 te (tCons t1 (tCons t2 tNil)) σ H Q :=
  h.run fun v H1 e1 p1 => by
    cases p1
    refine ⟨A.p, A.dx, _, rfl, (G.ex e1).ins, gm_no _ _, run_cons ((h1.ex e1).run fun x1 H2 e2 p2 => run_cons ((h2.ex (e1.trans e2)).run fun x2 H3 e3 p3 => ?_))⟩
    cases p2.is_int
    cases p3.is_nm
    refine ⟨g, A, m, y, rfl, G.ex (e1.trans (e2.trans e3)), ok, ?_⟩
    unfold GAns
    rw [hw]
    exact fun H4 c4 G4 => k H4 ((Chg.of_ex (e1.trans (e2.trans e3))).trans c4) G4
theorem c_take {σ : L2.St} {te t1 : TE} {g g' : GS} {A : GA} {m : Int} (h : EV te σ H (Is (.ref A.p))) (h1 : EV t1 σ H (D m)) (G : GrAt a.cGround g A H) (ok : GOk g) (hw : doG g (.take m) = (.non, g')) (k : ∀ H', Chg [A.p, A.df, A.dc] H H' → GrAt a.cGround g' A H' → Q .non H') :
    tMeth a.cGround "take" (sp_Ground_take K a) [] E0 te (tCons t1 tNil) σ H Q :=
  h.run fun v H1 e1 p1 => by
    cases p1
    refine ⟨A.p, A.dx, _, rfl, (G.ex e1).ins, gm_no _ _, run_cons ((h1.ex e1).run fun x1 H2 e2 p2 => ?_)⟩
    cases p2.is_int
    refine ⟨g, A, m, rfl, G.ex (e1.trans e2), ok, ?_⟩
    unfold GAns
    rw [hw]
    exact fun H4 c4 G4 => k H4 ((Chg.of_ex (e1.trans e2)).trans c4) G4
/-- a fact's tuple, written out -/
theorem e_fact3 {σ : L2.St} {x y z : Str} (f : Fact) (h1 : f.a.s = x := by rfl) (h2 : f.b.s = y := by rfl) (h3 : f.c.s = z := by rfl) : EV (tTup (tCons (tC (.str x)) (tCons (tC (.str y)) (tCons (tC (.str z)) tNil)))) σ H (TupN (tl3 f)) :=
  e_tupL (xs := tl3 f) (el_cons (e_str f.a h1) (el_cons (e_str f.b h2) (el_cons (e_str f.c h3) el_nil))) (show 3 ≤ 1000 by decide)
theorem e_askT {σ : L2.St} {tg tt : TE} {g : GS} {A : GA} {xs : List Nm} {w : Nm} (hg : EV tg σ H (Is (.ref A.p))) (ht : EV tt σ H (TupN xs)) (hz : xs.length ≤ 1000) (G : GrAt a.cGround g A H) (ok : GOk g) (rf : (doG g (.tell xs)).1 = .word w) : EV (tCall (sp_w_asked K a) [] E0 (tCons tg (tCons (tC (.int 1)) (tCons tt (tCons (tC .non) tNil))))) σ H (D w) :=
  e_asked (K := K) (a := a) (q := .deed (.tell xs)) (way := 1) (P2 := TupN xs) (P3 := Is .non) hg e_int ht e_c G ok (fun v u H1 _ p1 _ => ⟨rfl, p1, hz⟩) rf
theorem e_askC {σ : L2.St} {tg : TE} {g : GS} {A : GA} {x y : Nm} {s1 s2 : Str} {w : Nm} (hg : EV tg σ H (Is (.ref A.p))) (G : GrAt a.cGround g A H) (ok : GOk g) (rf : (doG g (.cross x y)).1 = .word w) (e1 : x.s = s1 := by rfl) (e2 : y.s = s2 := by rfl) : EV (tCall (sp_w_asked K a) [] E0 (tCons tg (tCons (tC (.int 2)) (tCons (tC (.str s1)) (tCons (tC (.str s2)) tNil))))) σ H (D w) :=
  e_asked (K := K) (a := a) (q := .deed (.cross x y)) (way := 2) (P2 := Is (.str s1)) (P3 := Is (.str s2)) hg e_int e_c e_c G ok (fun v u H1 _ p1 p2 => by cases p1; cases p2; subst e1; subst e2; exact ⟨rfl, rfl, rfl⟩) rf
theorem e_askS {σ : L2.St} {tg tn : TE} {g : GS} {A : GA} {n : Int} {y : Nm} {s2 : Str} {w : Nm} (hg : EV tg σ H (Is (.ref A.p))) (hn : EV tn σ H (D n)) (G : GrAt a.cGround g A H) (ok : GOk g) (rf : (doG g (.settle n y)).1 = .word w) (e2 : y.s = s2 := by rfl) : EV (tCall (sp_w_asked K a) [] E0 (tCons tg (tCons (tC (.int 3)) (tCons tn (tCons (tC (.str s2)) tNil))))) σ H (D w) :=
  e_asked (K := K) (a := a) (q := .deed (.settle n y)) (way := 3) (P2 := D n) (P3 := Is (.str s2)) hg e_int hn e_c G ok (fun v u H1 _ p1 p2 => by cases p1.is_int; cases p2; subst e2; exact ⟨rfl, rfl, rfl⟩) rf
theorem e_askK {σ : L2.St} {tg tn : TE} {g : GS} {A : GA} {n : Int} {w : Nm} (hg : EV tg σ H (Is (.ref A.p))) (hn : EV tn σ H (D n)) (G : GrAt a.cGround g A H) (ok : GOk g) (rf : (doG g (.take n)).1 = .word w) : EV (tCall (sp_w_asked K a) [] E0 (tCons tg (tCons (tC (.int 4)) (tCons tn (tCons (tC .non) tNil))))) σ H (D w) :=
  e_asked (K := K) (a := a) (q := .deed (.take n)) (way := 4) (P2 := D n) (P3 := Is .non) hg e_int hn e_c G ok (fun v u H1 _ p1 p2 => by cases p1.is_int; exact ⟨rfl, rfl⟩) rf
theorem e_askL {σ : L2.St} {tg tn : TE} {g : GS} {A : GA} {n : Int} (hg : EV tg σ H (Is (.ref A.p))) (hn : EV tn σ H (D n)) (G : GrAt a.cGround g A H) (ok : GOk g) (rf : n ∉ keysA g.facts) : EV (tCall (sp_w_asked K a) [] E0 (tCons tg (tCons (tC (.int 5)) (tCons tn (tCons (tC .non) tNil))))) σ H (D wNoSuch) :=
  e_asked (K := K) (a := a) (q := .leans n) (way := 5) (P2 := D n) (P3 := Is .non) hg e_int hn e_c G ok (fun v u H1 _ p1 p2 => by cases p1.is_int; exact ⟨rfl, rfl⟩) ⟨rf, rfl⟩
theorem b_nm {σ : L2.St} {te : TE} {w : Nm} {c : Str} (h : EV te σ H (D w)) (hc : w.s = c := by rfl) : EB (tTest (tOp (rNeD K) te (tC (.str c)))) σ H false := b_to (b_ne (K := K) (α := Nm) h (e_str w hc)) (by simp)
theorem raw_ne {Hb : Hp} {n : Nat} {P : VP} {l : Addr} {S : List Addr} (h : RawP Hb n P (.ref l) H) (hS : ∀ s ∈ S, ∃ o, H s = some o ∧ NoLst o) : l ∉ S := fun z => by
  obtain ⟨l', us, h1, _, h3, _⟩ := h
  cases h1
  obtain ⟨o, q, n⟩ := hS l z
  rw [h3] at q
  cases q
  exact n
theorem len_w_is_full_right (K : PySem.W.Frag) (a : Ad) : ∀ vs H Q E, sp_w_is_full_right K a vs H Q E → vs.length = 4 := fun _ _ _ _ ⟨_, _, _, _, _, _, e, _⟩ => by rw [e]; rfl
theorem p_w_is_full_right (T : ClT K a) (h : sp_w_is_full_right K a vs H Q E) : t_w_is_full_right K a (FinQ Q) (start ["_law_row", "_law_ground", "_law_number", "_law_odd", "_law_k"] vs) H := by
  obtain ⟨r, p0, g2, A, l, Hb, rfl, R2, G2, ok2, k2, L2, hlr, k⟩ := h
  show tSeq _ _ _ [some (.ref r), some (.ref A.p), some (.int 0), some (.ref l), none] H
  refine q_forR (n := 57) e_int (by decide) (by decide) (fun i σ' H' => ∃ (g : GS) (n4 : Option V), σ' = [some (.ref r), some (.ref A.p), some (.int 0), some (.ref l), n4] ∧ RowAt K p0 r H' ∧ GrAt a.cGround g A H' ∧ GOk g ∧ KSt g (2 + i) ∧ RawP Hb 9 OddEl (.ref l) H') (fun H1 e1 => ⟨g2, none, rfl, R2.ex e1, G2.ex e1, ok2, k2, L2.ex e1⟩) ?_ ?_
  · rintro i σ' H1 hi ⟨g, n4, rfl, R, G, ok, ks, L⟩
    show tDrop _ _ [some (.ref r), some (.ref A.p), some (.int 0), some (.ref l), some (.int (i : Int))] H1
    have hi : 2 + i < 59 := by omega
    refine c_tell (K := K) (a := a) (f := oKL) e_is (e_fact3 oKL) G ok (ks.tell (.inl rfl) hi) fun H2 c2 Gn => ?_
    have kn := ks.next (f := oKL) (.inl rfl) hi (.inr rfl) (.inl (by omega))
    have okn := ok.doG (.tell (tl3 oKL))
    rw [ks.tell (.inl rfl) hi] at kn okn
    exact ⟨_, _, rfl, R.chg c2 G.objs, Gn, okn, kn, L.chg c2 (raw_ne L G.objs)⟩
  rintro σ' H1 ⟨g, n4, rfl, R, G, ok, ks, L⟩
  have ks : KSt g 59 := ks
  refine q_if (b_or (b_nm (K := K) (e_askT (K := K) (a := a) e_is (e_fact3 oLK) (show 3 ≤ 1000 by decide) G ok ks.fullT)) fun _ => b_nm (K := K) (e_askC (K := K) (a := a) (x := kim) (y := mo) e_is G ok ks.fullC)) (fun c => by cases c) fun _ H2 e2 => ?_
  have R2 := R.ex e2
  have G2 := G.ex e2
  have L2 := L.ex e2
  -- an odd fact
  refine run_seq (run_if' ?_)
  obtain ⟨l', us, z, l0, l1, ll, lu⟩ := L2
  cases z
  refine ⟨.ref A.p, rfl, run_cons (run_tC (run_cons (run_op ⟨.ref l, rfl, c_taken (many := 9) e_is e_int R2 (by decide) fun i H3 i0 i1 c3 R3 => ?_⟩)))⟩
  obtain ⟨i, rfl⟩ := Int.eq_ofNat_of_zero_le i0
  have hi : i < us.length := by omega
  have hl3 : H3 l = some (.lst us) := c3.keep _ _ (by simpa using hlr) l1
  refine ⟨l, us, (i : Int), us[i], rfl, rfl, sq_of hl3, atI_nat (List.getElem?_eq_getElem hi), run_cons (run_tC ?_)⟩
  obtain ⟨xs, hx1, hx2, hx3⟩ := lu us[i] (List.getElem_mem hi)
  have G3 := G2.row R2 c3
  refine ⟨g, A, .deed (.tell xs), 1, us[i], .non, wNoFact, rfl, G3, ok, ⟨rfl, td_t c3.tup _ hx1, hx2⟩, ks.odd hx3, fun H4 e4 => run_tC ?_⟩
  refine r_ne (α := Nm) (by decide) (D.of_nm wNoFact _) (D.of_nm wNoFact _) ?_
  refine ⟨_, rfl, ?_⟩
  dsimp only
  rw [if_neg (by simp)]
  have R4 := R3.ex e4
  have G4 := G3.ex e4
  have L4 : H4 l = some (.lst us) := e4 _ _ hl3
  refine (b_to (b_ne (K := K) (α := Int) (e_lenP (e_told0 (K := K) (e_told (K := K) (a := a) (te := tVar 1) (σ := [some (.ref r), some (.ref A.p), some (.int 0), some (.ref l), n4]) e_is G4))) (e_int (i := 59))) (by rw [ks.ln]; rfl : (!decide ((g.facts.length : Int) = 59)) = false)).run fun H5 e5 => ?_
  rw [if_neg (by decide)]
  refine run_next ?_
  dsimp only
  show tSeq _ _ _ [some (.ref r), some (.ref A.p), some (.int 0), some (.ref l), n4] H5
  have R5 := R4.ex e5
  have G5 := G4.ex e5
  -- no crossing
  refine run_seq (run_if' ?_)
  refine ⟨.ref A.p, rfl, run_cons (run_tC (run_cons (run_tC (run_cons ?_))))⟩
  refine c_ixTaken (ws := [kim, rain, dew]) (e_lst (el_cons (e_str kim) (el_cons (e_str rain) (el_cons (e_str dew) el_nil))) (by decide)).ls e_is (fun v H1 e1 p1 => e_int (i := 3)) R5 (by decide) fun x H6 hx c6 R6 => ?_
  have G6 := G5.row R5 c6
  refine ⟨g, A, .deed (.cross kim x), 2, .str kim.s, .str x.s, wNoFact, rfl, G6, ok, ⟨rfl, rfl, rfl⟩, ks.noCross hx, fun H7 e7 => run_tC ?_⟩
  refine r_ne (α := Nm) (by decide) (D.of_nm wNoFact _) (D.of_nm wNoFact _) ?_
  refine ⟨_, rfl, ?_⟩
  dsimp only
  rw [if_neg (by simp)]
  refine run_next ?_
  dsimp only
  show tSeq _ _ _ [some (.ref r), some (.ref A.p), some (.int 0), some (.ref l), n4] H7
  have G7 := G6.ex e7
  -- looked at
  refine run_seq (run_if' ?_)
  have oks := ok.doG (.settle 0 lo)
  rw [ks.settle] at oks
  refine c_settle (K := K) (a := a) (m := 0) (y := lo) e_is (e_intC (0 : Int)) (e_str lo) G7 ok ks.settle fun H8 c8 G8 => ?_
  refine ⟨.int 0, rfl, ?_⟩
  refine r_ne (α := Int) (by decide) (D.of_int 0 _) (D.of_int 0 _) ?_
  refine ⟨_, rfl, ?_⟩
  dsimp only
  rw [if_neg (by simp)]
  have htold := fun (H9 : Hp) (e9 : Ex H8 H9) => e_told (K := K) (a := a) (te := tVar 1) (σ := [some (.ref r), some (.ref A.p), some (.int 0), some (.ref l), n4]) e_is (G8.ex e9)
  refine (b_to (b_or (b_to (b_ne0 (e_told1 (K := K) (htold H8 (Ex.refl _)))) (by simp)) fun _ => b_to (b_ne (K := K) (α := Int) (e_lenP (e_told0 (K := K) (htold H8 (Ex.refl _)))) (e_int (i := 60))) (by
    show (!decide (((putA g.facts 0 oLM).length : Int) = 60)) = false
    rw [ks.len60]; rfl)) (rfl : (false || false) = false)).run fun H9 e9 => ?_
  rw [if_neg (by decide)]
  refine run_next ?_
  dsimp only
  show tSeq _ _ _ [some (.ref r), some (.ref A.p), some (.int 0), some (.ref l), n4] H9
  have G9 := G8.ex e9
  -- one taken out
  have okt := oks.doG (.take 59)
  have hmem : (59 : Int) ∈ keysA (putA g.facts 0 oLM) := by
    have hnew : (0 : Int) ∉ keysA g.facts := fun z => by have := ks.ks 0 z; omega
    rw [putA_new _ hnew, keysA_app]
    exact List.mem_append_left _ (ks.al 59 (by decide) (by decide))
  have htk : doG { g with cross := [], facts := putA g.facts 0 oLM } (.take 59) = (.non, { g with cross := [], facts := dropA (putA g.facts 0 oLM) 59 }) := if_neg fun z => z.1 hmem
  rw [htk] at okt
  refine run_seq (run_drop ?_)
  refine c_take (K := K) (a := a) (m := 59) e_is e_int G9 oks htk fun HA cA GA => ?_
  dsimp only
  have gA : (59 : Int) ∉ keysA (dropA (putA g.facts 0 oLM) 59) := gone
  have q1 := e_eqB (K := K) (α := Nm) (e_askL (K := K) (a := a) (tg := tVar 1) (tn := tC (.int 59)) (σ := [some (.ref r), some (.ref A.p), some (.int 0), some (.ref l), n4]) e_is e_int GA okt gA) (e_str wNoSuch)
  have q2 := e_eqB (K := K) (α := Nm) (e_askK (K := K) (a := a) (tg := tVar 1) (tn := tC (.int 59)) (n := 59) (w := wNoSuch) (σ := [some (.ref r), some (.ref A.p), some (.int 0), some (.ref l), n4]) e_is e_int GA okt (by
    simp only [doG]
    rw [if_pos ⟨gA, fun z => nomatch z⟩])) (e_str wNoSuch)
  rw [decide_eq_true rfl] at q1 q2
  refine s_ret (P := Is (.bl true)) (e_andV q1 fun _ => q2) fun x HB eB pB => ?_
  cases pB
  exact k HB
/-! ### the law -/
theorem e_ground10 {σ : L2.St} {t1 t2 : TE} {ws ths : List Nm} (h1 : EV t1 σ H (Ls ws)) (h2 : EV t2 σ H (Ls ths)) (z1 : ws.length ≤ 100) (z2 : ths.length ≤ 100) (zn : ∀ n ∈ ws ++ ths, n.s.length ≤ 10000) (hi : initW ws ths = none) : EV (tMake a.cGround (sp_Ground_init10 K a) [] E0 (tCons t1 (tCons t2 tNil))) σ H (fun v H1 => ∃ A : GA, v = .ref A.p ∧ GrAt a.cGround (newG ws ths) A H1) := fun H1 e Q q =>
  h1 H1 e _ fun v H2 e2 p1 => h2 H2 (e.trans e2) _ fun w H3 e3 p2 p dx hp hdx hne =>
    ⟨H3, p, dx, ws, ths, v, w, rfl, ex_new2 hp hdx, hp, upd_same, p1.ex e3, p2, z1, z2, zn, fun _ A H4 e4 ha _ _ _ _ G => ⟨rfl, by
      subst ha
      exact q _ H4 ((e2.trans e3).trans e4) ⟨A, rfl, G⟩⟩, fun wd C h => by rw [hi] at h; cases h⟩
theorem things_at10 {g : GS} {n : Nat} (k : KSt g n) {x : Thing} (h : x ∈ g.things) : (x.1 = nWalker ∧ x.2 ∈ [kim, lo, mo]) ∨ ((x.1 = nBegin ∨ x.1 = nEnd) ∧ x.2 ∈ [rain]) := by
  unfold GS.things allThings at h
  rw [k.ws, k.th] at h
  rcases List.mem_append.mp h with q | q
  · obtain ⟨m, hm, rfl⟩ := List.mem_map.mp q
    exact Or.inl ⟨rfl, (sortN_perm _).mem_iff.mp hm⟩
  · obtain ⟨m, hm, hx⟩ := List.mem_flatMap.mp q
    simp only [List.mem_cons, List.not_mem_nil, or_false] at hx
    rcases hx with rfl | rfl
    · exact Or.inr ⟨Or.inl rfl, hm⟩
    · exact Or.inr ⟨Or.inr rfl, hm⟩
theorem no_thing {g : GS} {n : Nat} (k : KSt g n) : (nWalker, rain) ∉ g.things ∧ (nBegin, kim) ∉ g.things ∧ (nEnd, dew) ∉ g.things :=
  ⟨fun z => absurd (things_at10 k z) (by decide +kernel), fun z => absurd (things_at10 k z) (by decide +kernel), fun z => absurd (things_at10 k z) (by decide +kernel)⟩
theorem len_law (K : PySem.W.Frag) (a : Ad) : ∀ vs H Q E, sp_law K a vs H Q E → vs.length = 1 := fun _ _ _ _ ⟨_, _, e, _⟩ => by rw [e]; rfl
theorem p_law (T : ClT K a) (h : sp_law K a vs H Q E) : t_law K a (FinQ Q) (start ["_law_script", "_law_row", "_law_ground", "_law_number", "_law_far", "_law_kim", "_law_asks", "_law_odd", "_law_ask", "_law_fact"] vs) H := by
  obtain ⟨p, ns, rfl, hs, hz, k⟩ := h
  refine ⟨.ref p, rfl, sz_of (by simp), fun r hr => ?_⟩
  have R1 : RowAt K p r (upd H r (.lst [.ref p, .int 0, .int 0])) := ⟨ns, 0, 0, upd_same, sqL_ex hs (Ex.new hr), by decide, by decide, by decide⟩
  refine run_gN ?_
  generalize upd H r (.lst [.ref p, .int 0, .int 0]) = H1 at R1 ⊢
  dsimp only
  show tSeq _ _ _ [some (.ref p), some (.ref r), none, none, none, none, none, none, none, none] H1
  refine run_seq (run_if' ⟨_, rfl, r, p, rfl, R1, fun H2 c2 R2 => ⟨true, rfl, ?_⟩⟩)
  dsimp only
  rw [if_neg (by decide)]
  refine run_next ?_
  dsimp only
  show tSeq _ _ _ [some (.ref p), some (.ref r), none, none, none, none, none, none, none, none] H2
  refine q_set (e_ground10 (K := K) (a := a) (ws := [kim, lo, mo]) (ths := [rain]) (e_lst (el_cons (e_str kim) (el_cons (e_str lo) (el_cons (e_str mo) el_nil))) (by decide)).ls (e_l1 (e_str rain)).ls (by decide) (by decide) (by decide +kernel) (by decide +kernel)) fun v3 H3 e3 ⟨A, z, G3⟩ => ?_
  subst z
  have R3 := R2.ex e3
  have ok0 : GOk g10 := GOk.new g10_ok
  show tSeq _ _ _ [some (.ref p), some (.ref r), some (.ref A.p), none, none, none, none, none, none, none] H3
  -- a crossing
  refine run_seq (c_cross (K := K) (a := a) (x := lo) (y := mo) e_is (e_str lo) (e_str mo) G3 ok0 g10_cross fun H4 c4 G4 => ?_)
  have ok1 := ok0.doG (.cross lo mo)
  have ks0 := k0
  rw [g10_cross] at ok1 ks0
  have R4 := R3.chg c4 G3.objs
  refine run_gN ?_
  generalize ({ g10 with cross := [(0, (lo, mo))], given := 1 } : GS) = g1 at ok1 ks0 G4
  have ok1 : GOk g1 := ok1
  have ks0 : KSt g1 0 := ks0
  clear c4 G3 ok0
  show tSeq _ _ _ [some (.ref p), some (.ref r), some (.ref A.p), some (.int 0), none, none, none, none, none, none] H4
  -- a fact
  refine run_seq (run_drop (c_tell (K := K) (a := a) (f := oKL) e_is (e_fact3 oKL) G4 ok1 (ks0.tell (.inl rfl) (by decide)) fun H5 c5 G5 => ?_))
  have ok2 := ok1.doG (.tell (tl3 oKL))
  have ks1 := ks0.next (f := oKL) (.inl rfl) (by decide) (.inr rfl) (.inl (by decide))
  rw [ks0.tell (.inl rfl) (by decide)] at ok2 ks1
  have R5 := R4.chg c5 G4.objs
  dsimp only at ok2 ks1 G5 ⊢
  generalize ({ g1 with facts := putA g1.facts g1.given oKL, given := g1.given + 1 } : GS) = g at ok2 ks1 G5
  have ks1 : KSt g 1 := ks1
  clear c5 G4 ok1 ks0 R4
  show tSeq _ _ _ [some (.ref p), some (.ref r), some (.ref A.p), some (.int 0), none, none, none, none, none, none] H5
  -- far
  refine run_seq (run_op (run_tC (c_taken (many := 1000) e_is e_int R5 (by decide) fun i H6 i0 i1 c6 R6 => ⟨2, i, rfl, rfl, run_gN ?_⟩)))
  have G6 := G5.row R5 c6
  dsimp only
  have hfar : 2 ≤ 2 + i := by omega
  generalize 2 + i = far at hfar
  clear c6 G5 R5 i0 i1
  show tSeq _ _ _ [some (.ref p), some (.ref r), some (.ref A.p), some (.int 0), some (.int far), none, none, none, none, none] H6
  refine q_set (e_pair (a := nWalker) (b := kim) (e_str nWalker) (e_str kim)) fun v7 H7 e7 p7 => ?_
  have R7 := R6.ex e7
  have G7 := G6.ex e7
  show tSeq _ _ _ [some (.ref p), some (.ref r), some (.ref A.p), some (.int 0), some (.int far), some v7, none, none, none, none] H7
  have th := no_thing ks1
  have bad : ∀ (x y : Thing), (¬ (x ∈ g.things ∧ y ∈ g.things ∧ x ≠ y)) → Refused g (.bef x y) wNoSuch := fun x y h => ⟨h, rfl⟩
  have vk : ∀ {n6 : Option V} {H8 : Hp}, Ex H7 H8 → EV (tVar 5) [some (.ref p), some (.ref r), some (.ref A.p), some (.int 0), some (.int far), some v7, n6, none, none, none] H8 (D ((nWalker, kim) : Thing)) := fun e => e_var (p7.ex e)
  have vf : ∀ {n6 : Option V} {H8 : Hp}, EV (tVar 4) [some (.ref p), some (.ref r), some (.ref A.p), some (.int 0), some (.int far), some v7, n6, none, none, none] H8 (D far) := e_intC far
  have vn : ∀ {n6 : Option V} {H8 : Hp}, EV (tVar 3) [some (.ref p), some (.ref r), some (.ref A.p), some (.int 0), some (.int far), some v7, n6, none, none, none] H8 (D (0 : Int)) := e_intC 0
  have elB : ∀ {n6 : Option V} {H8 : Hp} {t1 t2 : TE} {x y : Thing}, EV t1 [some (.ref p), some (.ref r), some (.ref A.p), some (.int 0), some (.int far), some v7, n6, none, none, none] H8 (D x) → EV t2 [some (.ref p), some (.ref r), some (.ref A.p), some (.int 0), some (.int far), some v7, n6, none, none, none] H8 (D y) → Refused g (.bef x y) wNoSuch →
      EV (tTup (tCons (tC (.int 0)) (tCons t1 (tCons t2 tNil)))) [some (.ref p), some (.ref r), some (.ref A.p), some (.int 0), some (.int far), some v7, n6, none, none, none] H8 (AskEl g) := fun h1 h2 rf => e_askEl (q := .bef _ _) e_c h1 h2 (fun v u H1 q1 q2 => ⟨rfl, q1, q2⟩) rf
  refine q_set (e_lstR (P := AskEl g) (er_cons (elB (vk (Ex.refl _)) (vk (Ex.refl _)) (bad _ _ fun z => z.2.2 rfl)) (er_cons (elB (vk (Ex.refl _)) (e_pair (a := nWalker) (b := rain) (e_str nWalker) (e_str rain)) (bad _ _ fun z => th.1 z.2.1)) (er_cons (elB (e_pair (a := nBegin) (b := kim) (e_str nBegin) (e_str kim)) (vk (Ex.refl _)) (bad _ _ fun z => th.2.1 z.1))
    (er_cons (elB (vk (Ex.refl _)) (e_pair (a := nEnd) (b := dew) (e_str nEnd) (e_str dew)) (bad _ _ fun z => th.2.2 z.2.1)) er_nil)))) (by decide)) fun v8 H8 e8 p8 => ?_
  show tSeq _ _ _ [some (.ref p), some (.ref r), some (.ref A.p), some (.int 0), some (.int far), some v7, some v8, none, none, none] H8
  have elS : ∀ {n6 : Option V} {H9 : Hp} {t1 : TE} {n : Int}, EV t1 [some (.ref p), some (.ref r), some (.ref A.p), some (.int 0), some (.int far), some v7, n6, none, none, none] H9 (D n) → n ≠ 0 → EV (tTup (tCons (tC (.int 3)) (tCons t1 (tCons (tC (.str ("kim" : Str))) tNil)))) [some (.ref p), some (.ref r), some (.ref A.p), some (.int 0), some (.int far), some v7, n6, none, none, none] H9 (AskEl g) := fun h1 hn =>
    e_askEl (q := .deed (.settle _ kim)) (P3 := Is (.str kim.s)) e_c h1 e_c (fun v u H1 q1 q2 => by cases q1.is_int; cases q2; exact ⟨rfl, rfl, rfl⟩) (ks1.noSettle hn kim)
  have elK : ∀ {n6 : Option V} {H9 : Hp} {t1 : TE} {n : Int}, EV t1 [some (.ref p), some (.ref r), some (.ref A.p), some (.int 0), some (.int far), some v7, n6, none, none, none] H9 (D n) → (n < 0 ∨ ((1 : Nat) : Int) < n) → EV (tTup (tCons (tC (.int 4)) (tCons t1 (tCons (tC .non) tNil)))) [some (.ref p), some (.ref r), some (.ref A.p), some (.int 0), some (.int far), some v7, n6, none, none, none] H9 (AskEl g) := fun h1 hn =>
    e_askEl (q := .deed (.take _)) (P3 := Is .non) e_c h1 e_c (fun v u H1 q1 q2 => by cases q1.is_int; exact ⟨rfl, rfl⟩) (ks1.noTake hn)
  have elL : ∀ {n6 : Option V} {H9 : Hp} {t1 : TE} {n : Int}, EV t1 [some (.ref p), some (.ref r), some (.ref A.p), some (.int 0), some (.int far), some v7, n6, none, none, none] H9 (D n) → n ∉ keysA g.facts → EV (tTup (tCons (tC (.int 5)) (tCons t1 (tCons (tC .non) tNil)))) [some (.ref p), some (.ref r), some (.ref A.p), some (.int 0), some (.int far), some v7, n6, none, none, none] H9 (AskEl g) := fun h1 hn =>
    e_askEl (q := .leans _) (P3 := Is .non) e_c h1 e_c (fun v u H1 q1 q2 => by cases q1.is_int; exact ⟨rfl, rfl⟩) ⟨hn, rfl⟩
  refine q_set (e_catR (e_var p8) (e_lstR (P := AskEl g) (er_cons (elS vf (by omega)) (er_cons (elS (n := 1) e_int (by decide)) (er_cons (elK vf (.inr (by omega))) (er_cons (elK (n := 0 - far) (e_I0 (g := fun i j => i - j) e_int vf) (.inl (by omega))) er_nil)))) (by decide)) (by decide)) fun v9 H9 e9 p9 => ?_
  show tSeq _ _ _ [some (.ref p), some (.ref r), some (.ref A.p), some (.int 0), some (.int far), some v7, some v9, none, none, none] H9
  refine q_set (e_catR (e_var p9) (e_lstR (P := AskEl g) (er_cons (elL vn fun z => by have := ks1.ks 0 z; omega) (er_cons (elL vf (ks1.noKeys (.inr (by omega))).1) er_nil)) (by decide)) (by decide)) fun vA HA eA pA => ?_
  have e7A := e8.trans (e9.trans eA)
  have RA := R7.ex e7A
  have GA_ := G7.ex e7A
  show tSeq _ _ _ [some (.ref p), some (.ref r), some (.ref A.p), some (.int 0), some (.int far), some v7, some vA, none, none, none] HA
  have hnone := e_lcNone (K := K) (P := AskEl g) (tl := tVar 6) (te := tVar 8) (vs := [8]) (j := 8) (tt := tTest (tOp (rNeD K) (tCall (sp_w_asked K a) [] E0 (tCons (tVar 2) (tCons (tOp (rIxT K) (tVar 8) (tC (.int 0))) (tCons (tOp (rIxT K) (tVar 8) (tC (.int 1))) (tCons (tOp (rIxT K) (tVar 8) (tC (.int 2))) tNil))))) (tC (.str ("nosuch" : Str))))) (σ := [some (.ref p), some (.ref r), some (.ref A.p), some (.int 0), some (.int far), some v7, some vA, none, none, none]) (H := HA) (e_var pA) (fun _ => rfl) fun u HB eB hu => by
    obtain ⟨b, way, v, w, q, rfl, hb, ha, rf⟩ := hu
    refine b_nm (K := K) (w := wNoSuch) (e_asked (K := K) (a := a) (q := q) (way := way) (P2 := Is v) (P3 := Is w) e_is ((e_ixTV (K := K) (te := tVar 8) (j := 0) (v := .int way) e_is hb rfl).imp fun x H2 e2 px => by cases px; exact D.of_int _ _) (e_ixTV (K := K) (te := tVar 8) (j := 1) (v := v) e_is hb rfl) (e_ixTV (K := K) (te := tVar 8) (j := 2) (v := w) e_is hb rfl) (GA_.ex eB) ok2 (fun x y H2 e2 q1 q2 => by cases q1; cases q2; exact ha.t e2.t) rf)
  refine q_if (b_to (b_neL (K := K) (α := Int) hnone.ls (e_nil (α := Int)).ls) (by simp : (!decide (([] : List Int) = [])) = false)) (fun c => by cases c) fun _ HB eB => ?_
  have RB := RA.ex eB
  have GB := GA_.ex eB
  -- the odd facts
  refine q_set (e_lstR (P := OddEl) (er_cons (e_odd (xs := [nOver, kim, kim]) (el_cons (e_str nOver) (el_cons (e_str kim) (el_cons (e_str kim) el_nil))) (by decide +kernel) (by decide)) (er_cons (e_odd (xs := [nOver, kim, rain]) (el_cons (e_str nOver) (el_cons (e_str kim) (el_cons (e_str rain) el_nil))) (by decide +kernel) (by decide)) (er_cons (e_odd (xs := [nAhead, kim, lo]) (el_cons (e_str nAhead) (el_cons (e_str kim) (el_cons (e_str lo) el_nil))) (by decide +kernel) (by decide))
    (er_cons (e_odd (xs := [nAmid, rain, rain]) (el_cons (e_str nAmid) (el_cons (e_str rain) (el_cons (e_str rain) el_nil))) (by decide +kernel) (by decide)) (er_cons (e_odd (xs := []) el_nil (by decide +kernel) (by decide)) er_nil))))) (by decide)) fun vC HC eC pC => ?_
  show tSeq _ _ _ [some (.ref p), some (.ref r), some (.ref A.p), some (.int 0), some (.int far), some v7, some vA, some vC, none, none] HC
  refine q_set (e_catR (e_var pC) (e_lstR (P := OddEl) (er_cons (e_odd (xs := [nmOf "under", kim, lo]) (el_cons (e_str (nmOf "under")) (el_cons (e_str kim) (el_cons (e_str lo) el_nil))) (by decide +kernel) (by decide)) (er_cons (e_odd (xs := [nBehind, kim]) (el_cons (e_str nBehind) (el_cons (e_str kim) el_nil)) (by decide +kernel) (by decide)) (er_cons (e_odd (xs := [nOver, kim, lo, mo]) (el_cons (e_str nOver) (el_cons (e_str kim) (el_cons (e_str lo) (el_cons (e_str mo) el_nil)))) (by decide +kernel) (by decide))
    (er_cons (e_odd (xs := [nBehind, kim, dew]) (el_cons (e_str nBehind) (el_cons (e_str kim) (el_cons (e_str dew) el_nil))) (by decide +kernel) (by decide)) er_nil)))) (by decide)) (by decide)) fun vD HD eD pD => ?_
  have RD := RB.ex (eC.trans eD)
  have GD := GB.ex (eC.trans eD)
  show tSeq _ _ _ [some (.ref p), some (.ref r), some (.ref A.p), some (.int 0), some (.int far), some v7, some vA, some vD, none, none] HD
  have hnone2 := e_lcNone (K := K) (P := OddEl) (tl := tVar 7) (te := tVar 9) (vs := [9]) (j := 9) (tt := tTest (tOp (rNeD K) (tCall (sp_w_asked K a) [] E0 (tCons (tVar 2) (tCons (tC (.int 1)) (tCons (tVar 9) (tCons (tC .non) tNil))))) (tC (.str ("nofact" : Str))))) (σ := [some (.ref p), some (.ref r), some (.ref A.p), some (.int 0), some (.int far), some v7, some vA, some vD, none, none]) (H := HD) (e_var pD) (fun _ => rfl) fun u HE eE hu => by
    obtain ⟨xs, h1, h2, h3⟩ := hu
    exact b_nm (K := K) (w := wNoFact) (e_askT (K := K) (a := a) (xs := xs) e_is (e_var (P := TupN xs) h1) h2 (GD.ex eE) ok2 (ks1.odd h3))
  refine q_if (b_to (b_neL (K := K) (α := Int) hnone2.ls (e_nil (α := Int)).ls) (by simp : (!decide (([] : List Int) = [])) = false)) (fun c => by cases c) fun _ HE eE => ?_
  have GE := GD.ex eE
  have tg : ∀ {H9 : Hp}, EV (tVar 2) [some (.ref p), some (.ref r), some (.ref A.p), some (.int 0), some (.int far), some v7, some vA, some vD, none, none] H9 (Is (.ref A.p)) := e_is
  have tn : ∀ {H9 : Hp}, EV (tVar 3) [some (.ref p), some (.ref r), some (.ref A.p), some (.int 0), some (.int far), some v7, some vA, some vD, none, none] H9 (D (0 : Int)) := e_intC 0
  refine q_if (b_or (b_nm (K := K) (w := wNoFact) (e_askC (K := K) (a := a) (x := kim) (y := kim) tg GE ok2 (ks1.noCross (x := kim) (by decide +kernel)))) fun _ => b_nm (K := K) (w := wNoFact) (e_askS (K := K) (a := a) (n := 0) (y := kim) tg tn GE ok2 ks1.badSettle)) (fun c => by cases c) fun _ HF eF => ?_
  have GF := GE.ex eF
  refine q_if (b_nm (K := K) (w := wRing) (e_askT (K := K) (a := a) tg (e_fact3 oLK) (show 3 ≤ 1000 by decide) GF ok2 (ks1.ring (by decide) (by decide)))) (fun c => by cases c) fun _ HG eG => ?_
  have GG := GF.ex eG
  have eDG := eE.trans (eF.trans eG)
  have RG := RD.ex eDG
  have pG := pD.ex eDG
  -- one fact more
  refine run_seq (run_drop (c_tell (K := K) (a := a) (f := oLM) tg (e_fact3 oLM) GG ok2 (ks1.tell (.inr rfl) (by decide)) fun HI cI GI => ?_))
  have ok3 := ok2.doG (.tell (tl3 oLM))
  have ks2 := ks1.next (f := oLM) (.inr rfl) (by decide) (.inl (by decide)) (.inr rfl)
  rw [ks1.tell (.inr rfl) (by decide)] at ok3 ks2
  have RI := RG.chg cI GG.objs
  obtain ⟨l, us, rfl, l0, l1, ll, lu⟩ := id pG
  have pI := pG.chg cI (raw_ne pG GG.objs)
  dsimp only at ok3 ks2 GI ⊢
  generalize ({ g with facts := putA g.facts g.given oLM, given := g.given + 1 } : GS) = g3 at ok3 ks2 GI
  have ks2 : KSt g3 2 := ks2
  have hcr := ks2.cr
  have hdd : EV (tDisp (((tVar 3), (tTup (tCons (tC (.str ("lo" : Str))) (tCons (tC (.str ("mo" : Str))) tNil)))) :: [])) [some (.ref p), some (.ref r), some (.ref A.p), some (.int 0), some (.int far), some v7, some vA, some (.ref l), none, none] HI (DkP g3.cross) := by
    rw [hcr]
    exact e_disp1 tn (e_pair (a := lo) (b := mo) (e_str lo) (e_str mo))
  refine q_if (b_or (b_nm (K := K) (w := wRing) (e_askS (K := K) (a := a) (n := 0) (y := mo) tg tn GI ok3 (ks2.ringSettle (by decide)))) fun _ => b_neDD (K := K) (by rw [hcr]; decide) (by decide) (e_told1 (K := K) (e_told (K := K) (a := a) tg GI)) hdd) (fun c => by cases c) fun _ HJ eJ => ?_
  refine run_ret ⟨_, rfl, _, rfl, _, rfl, _, rfl, r, p, g3, A, l, HC, rfl, RI.ex eJ, GI.ex eJ, ok3, ks2, pI.ex eJ, fun z => ?_, fun H' => k H'⟩
  have hrow : ∃ o, HC r = some o := by obtain ⟨xs, hx⟩ := row_one (RB.ex eC); exact ⟨_, hx⟩
  obtain ⟨o, ho⟩ := hrow
  rw [z, ho] at l0
  cases l0
end
end TK


namespace TK
open PySem L2 PySem.Spec PyProof.Rows
open Enc (enc)
def top (i : Nat) : Stmt := PySem.Challenge.pw_trackorder_k10_refusals_stand_apart.main.body.getD i (.Pass ⟨0, 0, 0, 0⟩)
abbrev s_w_taken : Stmt := top 35
abbrev n_w_taken : List Str := ["_law_row", "_law_many", "_law_cell"]
theorem sc_w_taken : FnScope n_w_taken ["_law_row", "_law_many"] (defScope s_w_taken) := ⟨rfl, rfl, rfl, by decide +kernel, rfl, by decide +kernel, by decide +kernel⟩
abbrev s_is_name : Stmt := top 24
abbrev n_is_name : List Str := ["text", "sign"]
theorem sc_is_name : FnScope n_is_name ["text"] (defScope s_is_name) := ⟨rfl, rfl, rfl, by decide +kernel, rfl, by decide +kernel, by decide +kernel⟩
abbrev s_Ground_init10 : Stmt := inClass (top 33) 0
abbrev n_Ground_init10 : List Str := ["self", "walkers", "weathers", "names", "name"]
theorem sc_Ground_init10 : FnScope n_Ground_init10 ["self", "walkers", "weathers"] (defScope s_Ground_init10) := ⟨rfl, rfl, rfl, by decide +kernel, rfl, by decide +kernel, by decide +kernel⟩
abbrev s_w_word_of : Stmt := top 36
abbrev n_w_word_of : List Str := ["_law_e", "_law_kinds"]
theorem sc_w_word_of : FnScope n_w_word_of ["_law_e"] (defScope s_w_word_of) := ⟨rfl, rfl, rfl, by decide +kernel, rfl, by decide +kernel, by decide +kernel⟩
abbrev s_w_made : Stmt := top 37
abbrev n_w_made : List Str := ["_law_walkers", "_law_weathers", "_law_e"]
theorem sc_w_made : FnScope n_w_made ["_law_walkers", "_law_weathers"] (defScope s_w_made) := ⟨rfl, rfl, rfl, by decide +kernel, rfl, by decide +kernel, by decide +kernel⟩
abbrev s_w_names_refused : Stmt := top 39
abbrev n_w_names_refused : List Str := ["_law_row", "_law_bad", "_law_names", "_law_k"]
theorem sc_w_names_refused : FnScope n_w_names_refused ["_law_row"] (defScope s_w_names_refused) := ⟨rfl, rfl, rfl, by decide +kernel, rfl, by decide +kernel, by decide +kernel⟩
abbrev s_Ground_new_number : Stmt := inClass (top 33) 4
abbrev n_Ground_new_number : List Str := ["self"]
theorem sc_Ground_new_number : FnScope n_Ground_new_number ["self"] (defScope s_Ground_new_number) := ⟨rfl, rfl, rfl, by decide +kernel, rfl, by decide +kernel, by decide +kernel⟩
abbrev s_Ground_cross : Stmt := inClass (top 33) 7
abbrev n_Ground_cross : List Str := ["self", "one", "other", "number"]
theorem sc_Ground_cross : FnScope n_Ground_cross ["self", "one", "other"] (defScope s_Ground_cross) := ⟨rfl, rfl, rfl, by decide +kernel, rfl, by decide +kernel, by decide +kernel⟩
abbrev s_is_fact : Stmt := top 28
abbrev n_is_fact : List Str := ["fact", "walkers", "weathers"]
theorem sc_is_fact : FnScope n_is_fact ["fact", "walkers", "weathers"] (defScope s_is_fact) := ⟨rfl, rfl, rfl, by decide +kernel, rfl, by decide +kernel, by decide +kernel⟩
abbrev s_all_things : Stmt := top 25
abbrev n_all_things : List Str := ["walkers", "weathers", "name", "found"]
theorem sc_all_things : FnScope n_all_things ["walkers", "weathers"] (defScope s_all_things) := ⟨rfl, rfl, rfl, by decide +kernel, rfl, by decide +kernel, by decide +kernel⟩
abbrev s_Ground_things : Stmt := inClass (top 33) 1
abbrev n_Ground_things : List Str := ["self"]
theorem sc_Ground_things : FnScope n_Ground_things ["self"] (defScope s_Ground_things) := ⟨rfl, rfl, rfl, by decide +kernel, rfl, by decide +kernel, by decide +kernel⟩
abbrev s_Net_init : Stmt := inClass (top 9) 0
abbrev n_Net_init : List Str := ["self", "things", "thing"]
theorem sc_Net_init : FnScope n_Net_init ["self", "things"] (defScope s_Net_init) := ⟨rfl, rfl, rfl, by decide +kernel, rfl, by decide +kernel, by decide +kernel⟩
abbrev s_weather_links : Stmt := top 26
abbrev n_weather_links : List Str := ["weathers", "moments", "k"]
theorem sc_weather_links : FnScope n_weather_links ["weathers"] (defScope s_weather_links) := ⟨rfl, rfl, rfl, by decide +kernel, rfl, by decide +kernel, by decide +kernel⟩
abbrev s_Net_add : Stmt := inClass (top 9) 1
abbrev n_Net_add : List Str := ["self", "earlier", "later", "number"]
theorem sc_Net_add : FnScope n_Net_add ["self", "earlier", "later", "number"] (defScope s_Net_add) := ⟨rfl, rfl, rfl, by decide +kernel, rfl, by decide +kernel, by decide +kernel⟩
abbrev s_links_of : Stmt := top 27
abbrev n_links_of : List Str := ["fact", "word", "one", "other", "walker"]
theorem sc_links_of : FnScope n_links_of ["fact"] (defScope s_links_of) := ⟨rfl, rfl, rfl, by decide +kernel, rfl, by decide +kernel, by decide +kernel⟩
abbrev s_Ground_net : Stmt := inClass (top 33) 2
abbrev n_Ground_net : List Str := ["self", "without", "found", "earlier", "later", "number"]
theorem sc_Ground_net : FnScope n_Ground_net ["self", "without"] (defScope s_Ground_net) := ⟨rfl, rfl, rfl, by decide +kernel, rfl, by decide +kernel, by decide +kernel⟩
abbrev s_Net_way : Stmt := inClass (top 9) 2
abbrev n_Net_way : List Str := ["self", "begin", "goal", "roots", "row", "at", "thing", "later", "number", "found", "earlier"]
theorem sc_Net_way : FnScope n_Net_way ["self", "begin", "goal"] (defScope s_Net_way) := ⟨rfl, rfl, rfl, by decide +kernel, rfl, by decide +kernel, by decide +kernel⟩
abbrev s_Ground_ring_of : Stmt := inClass (top 33) 5
abbrev n_Ground_ring_of : List Str := ["self", "fact", "net", "best", "earlier", "later", "way", "one", "other", "number"]
theorem sc_Ground_ring_of : FnScope n_Ground_ring_of ["self", "fact"] (defScope s_Ground_ring_of) := ⟨rfl, rfl, rfl, by decide +kernel, rfl, by decide +kernel, by decide +kernel⟩
abbrev s_Ring_init : Stmt := inClass (top 6) 0
abbrev n_Ring_init : List Str := ["self", "row"]
theorem sc_Ring_init : FnScope n_Ring_init ["self", "row"] (defScope s_Ring_init) := ⟨rfl, rfl, rfl, by decide +kernel, rfl, by decide +kernel, by decide +kernel⟩
abbrev s_Ground_tell : Stmt := inClass (top 33) 6
abbrev n_Ground_tell : List Str := ["self", "fact", "row", "number"]
theorem sc_Ground_tell : FnScope n_Ground_tell ["self", "fact"] (defScope s_Ground_tell) := ⟨rfl, rfl, rfl, by decide +kernel, rfl, by decide +kernel, by decide +kernel⟩
abbrev s_Ground_need_thing : Stmt := inClass (top 33) 10
abbrev n_Ground_need_thing : List Str := ["self", "thing"]
theorem sc_Ground_need_thing : FnScope n_Ground_need_thing ["self", "thing"] (defScope s_Ground_need_thing) := ⟨rfl, rfl, rfl, by decide +kernel, rfl, by decide +kernel, by decide +kernel⟩
abbrev s_Net_beyond : Stmt := inClass (top 9) 3
abbrev n_Net_beyond : List Str := ["self", "begin", "found", "row", "later", "number"]
theorem sc_Net_beyond : FnScope n_Net_beyond ["self", "begin"] (defScope s_Net_beyond) := ⟨rfl, rfl, rfl, by decide +kernel, rfl, by decide +kernel, by decide +kernel⟩
abbrev s_known_pairs : Stmt := top 11
abbrev n_known_pairs : List Str := ["net", "things", "found", "one", "later", "other"]
theorem sc_known_pairs : FnScope n_known_pairs ["net", "things"] (defScope s_known_pairs) := ⟨rfl, rfl, rfl, by decide +kernel, rfl, by decide +kernel, by decide +kernel⟩
abbrev s_Ground_pairs : Stmt := inClass (top 33) 3
abbrev n_Ground_pairs : List Str := ["self"]
theorem sc_Ground_pairs : FnScope n_Ground_pairs ["self"] (defScope s_Ground_pairs) := ⟨rfl, rfl, rfl, by decide +kernel, rfl, by decide +kernel, by decide +kernel⟩
abbrev s_sooner : Stmt := top 12
abbrev n_sooner : List Str := ["things", "pairs", "found", "thing", "one", "other"]
theorem sc_sooner : FnScope n_sooner ["things", "pairs"] (defScope s_sooner) := ⟨rfl, rfl, rfl, by decide +kernel, rfl, by decide +kernel, by decide +kernel⟩
abbrev s_first_order : Stmt := top 13
abbrev n_first_order : List Str := ["things", "pairs", "ahead", "found", "thing", "one"]
theorem sc_first_order : FnScope n_first_order ["things", "pairs"] (defScope s_first_order) := ⟨rfl, rfl, rfl, by decide +kernel, rfl, by decide +kernel, by decide +kernel⟩
abbrev s_order_with : Stmt := top 16
abbrev n_order_with : List Str := ["things", "pairs", "one", "other", "more", "left", "right", "pair"]
theorem sc_order_with : FnScope n_order_with ["things", "pairs", "one", "other"] (defScope s_order_with) := ⟨rfl, rfl, rfl, by decide +kernel, rfl, by decide +kernel, by decide +kernel⟩
abbrev s_Ground_before : Stmt := inClass (top 33) 11
abbrev n_Ground_before : List Str := ["self", "one", "other", "net", "way", "pairs", "things"]
theorem sc_Ground_before : FnScope n_Ground_before ["self", "one", "other"] (defScope s_Ground_before) := ⟨rfl, rfl, rfl, by decide +kernel, rfl, by decide +kernel, by decide +kernel⟩
abbrev s_Ground_settle : Stmt := inClass (top 33) 9
abbrev n_Ground_settle : List Str := ["self", "number", "over", "pair", "under", "row"]
theorem sc_Ground_settle : FnScope n_Ground_settle ["self", "number", "over"] (defScope s_Ground_settle) := ⟨rfl, rfl, rfl, by decide +kernel, rfl, by decide +kernel, by decide +kernel⟩
abbrev s_Ground_take : Stmt := inClass (top 33) 8
abbrev n_Ground_take : List Str := ["self", "number"]
theorem sc_Ground_take : FnScope n_Ground_take ["self", "number"] (defScope s_Ground_take) := ⟨rfl, rfl, rfl, by decide +kernel, rfl, by decide +kernel, by decide +kernel⟩
abbrev s_Ground_leans : Stmt := inClass (top 33) 17
abbrev n_Ground_leans : List Str := ["self", "number", "less", "pair"]
theorem sc_Ground_leans : FnScope n_Ground_leans ["self", "number"] (defScope s_Ground_leans) := ⟨rfl, rfl, rfl, by decide +kernel, rfl, by decide +kernel, by decide +kernel⟩
abbrev s_w_asked : Stmt := top 38
abbrev n_w_asked : List Str := ["_law_ground", "_law_way", "_law_one", "_law_other", "_law_e"]
theorem sc_w_asked : FnScope n_w_asked ["_law_ground", "_law_way", "_law_one", "_law_other"] (defScope s_w_asked) := ⟨rfl, rfl, rfl, by decide +kernel, rfl, by decide +kernel, by decide +kernel⟩
abbrev s_Ground_told : Stmt := inClass (top 33) 20
abbrev n_Ground_told : List Str := ["self"]
theorem sc_Ground_told : FnScope n_Ground_told ["self"] (defScope s_Ground_told) := ⟨rfl, rfl, rfl, by decide +kernel, rfl, by decide +kernel, by decide +kernel⟩
abbrev s_w_is_full_right : Stmt := top 40
abbrev n_w_is_full_right : List Str := ["_law_row", "_law_ground", "_law_number", "_law_odd", "_law_k"]
theorem sc_w_is_full_right : FnScope n_w_is_full_right ["_law_row", "_law_ground", "_law_number", "_law_odd"] (defScope s_w_is_full_right) := ⟨rfl, rfl, rfl, by decide +kernel, rfl, by decide +kernel, by decide +kernel⟩
abbrev s_law : Stmt := top 41
abbrev n_law : List Str := ["_law_script", "_law_row", "_law_ground", "_law_number", "_law_far", "_law_kim", "_law_asks", "_law_odd", "_law_ask", "_law_fact"]
theorem sc_law : FnScope n_law ["_law_script"] (defScope s_law) := ⟨rfl, rfl, rfl, by decide +kernel, rfl, by decide +kernel, by decide +kernel⟩
structure Txt (w : World) (K : PySem.W.Frag) (mg : Str → Option Value) (a : Ad) : Prop where
  cl : ClT K a
  wd : a.wd = w
  f_w_taken : DefT K mg "_law_taken" s_w_taken ["_law_row", "_law_many"]
  f_is_name : DefT K mg "is_name" s_is_name ["text"]
  f_Ground_init10 : IniT K mg "Ground" a.cGround "Ground.__init__" s_Ground_init10 ["self", "walkers", "weathers"]
  f_w_word_of : DefT K mg "_law_word_of" s_w_word_of ["_law_e"]
  f_w_made : DefT K mg "_law_made" s_w_made ["_law_walkers", "_law_weathers"]
  f_w_names_refused : DefT K mg "_law_names_refused" s_w_names_refused ["_law_row"]
  f_Ground_new_number : MetT K a.cGround "new_number" "Ground.new_number" s_Ground_new_number ["self"]
  f_Ground_cross : MetT K a.cGround "cross" "Ground.cross" s_Ground_cross ["self", "one", "other"]
  f_is_fact : DefT K mg "is_fact" s_is_fact ["fact", "walkers", "weathers"]
  f_all_things : DefT K mg "all_things" s_all_things ["walkers", "weathers"]
  f_Ground_things : MetT K a.cGround "things" "Ground.things" s_Ground_things ["self"]
  f_Net_init : IniT K mg "Net" a.cNet "Net.__init__" s_Net_init ["self", "things"]
  f_weather_links : DefT K mg "weather_links" s_weather_links ["weathers"]
  f_Net_add : MetT K a.cNet "add" "Net.add" s_Net_add ["self", "earlier", "later", "number"]
  f_links_of : DefT K mg "links_of" s_links_of ["fact"]
  f_Ground_net : MetT K a.cGround "net" "Ground.net" s_Ground_net ["self", "without"]
  f_Net_way : MetT K a.cNet "way" "Net.way" s_Net_way ["self", "begin", "goal"]
  f_Ground_ring_of : MetT K a.cGround "ring_of" "Ground.ring_of" s_Ground_ring_of ["self", "fact"]
  f_Ring_init : OinT K mg "Ring" a.cRing "Ring.__init__" s_Ring_init ["self", "row"]
  f_Ground_tell : MetT K a.cGround "tell" "Ground.tell" s_Ground_tell ["self", "fact"]
  f_Ground_need_thing : MetT K a.cGround "need_thing" "Ground.need_thing" s_Ground_need_thing ["self", "thing"]
  f_Net_beyond : MetT K a.cNet "beyond" "Net.beyond" s_Net_beyond ["self", "begin"]
  f_known_pairs : DefT K mg "known_pairs" s_known_pairs ["net", "things"]
  f_Ground_pairs : MetT K a.cGround "pairs" "Ground.pairs" s_Ground_pairs ["self"]
  f_sooner : DefT K mg "sooner" s_sooner ["things", "pairs"]
  f_first_order : DefT K mg "first_order" s_first_order ["things", "pairs"]
  f_order_with : DefT K mg "order_with" s_order_with ["things", "pairs", "one", "other"]
  f_Ground_before : MetT K a.cGround "before" "Ground.before" s_Ground_before ["self", "one", "other"]
  f_Ground_settle : MetT K a.cGround "settle" "Ground.settle" s_Ground_settle ["self", "number", "over"]
  f_Ground_take : MetT K a.cGround "take" "Ground.take" s_Ground_take ["self", "number"]
  f_Ground_leans : MetT K a.cGround "leans" "Ground.leans" s_Ground_leans ["self", "number"]
  f_w_asked : DefT K mg "_law_asked" s_w_asked ["_law_ground", "_law_way", "_law_one", "_law_other"]
  f_Ground_told : MetT K a.cGround "told" "Ground.told" s_Ground_told ["self"]
  f_w_is_full_right : DefT K mg "_law_is_full_right" s_w_is_full_right ["_law_row", "_law_ground", "_law_number", "_law_odd"]
  f_law : DefT K mg "law" s_law ["_law_script"]
  n_len : mg "len" = none
  n_sorted : mg "sorted" = none
  n_list : mg "list" = none
  n_dict : mg "dict" = none
  n_int : mg "int" = none
  n_reversed : mg "reversed" = none
  n_range : mg "range" = none
  n_isinstance : mg "isinstance" = none
  n_ValueError : mg "ValueError" = none
  g_LETTERS : ∃ u, mg "LETTERS" = some u ∧ RelV (V.str ("abcdefghijklmnopqrstuvwxyz" : Str)) u
  g_LONGEST : ∃ u, mg "LONGEST" = some u ∧ RelV (V.int 8) u
  g_WORDS : ∃ u, mg "WORDS" = some u ∧ RelV (V.ref a.oWORDS) u
  g_MOST_WALKERS : ∃ u, mg "MOST_WALKERS" = some u ∧ RelV (V.int 8) u
  g_MOST_WEATHERS : ∃ u, mg "MOST_WEATHERS" = some u ∧ RelV (V.int 3) u
  g_MOST_FACTS : ∃ u, mg "MOST_FACTS" = some u ∧ RelV (V.int 60) u
  g_NoFact : mg "NoFact" = some (.ref a.cNoFact)
  x_NoFact : PySem.W.excIn K a.cNoFact [.type "ValueError", .type "Exception", .type "BaseException", .type "object"] "ValueError.__new__" = true
  k_NoFact : PySem.W.keepIn K (.ref a.cNoFact) = true
  b_NoFact : PySem.W.subIn K (.ref a.cNoFact) (.type "BaseException") = some true
  t_NoFact : PySem.W.typeIn K (.ref a.cNoFact) = some (.type "type")
  g_NoSuch : mg "NoSuch" = some (.ref a.cNoSuch)
  x_NoSuch : PySem.W.excIn K a.cNoSuch [.type "ValueError", .type "Exception", .type "BaseException", .type "object"] "ValueError.__new__" = true
  k_NoSuch : PySem.W.keepIn K (.ref a.cNoSuch) = true
  b_NoSuch : PySem.W.subIn K (.ref a.cNoSuch) (.type "BaseException") = some true
  t_NoSuch : PySem.W.typeIn K (.ref a.cNoSuch) = some (.type "type")
  g_Full : mg "Full" = some (.ref a.cFull)
  x_Full : PySem.W.excIn K a.cFull [.type "ValueError", .type "Exception", .type "BaseException", .type "object"] "ValueError.__new__" = true
  k_Full : PySem.W.keepIn K (.ref a.cFull) = true
  b_Full : PySem.W.subIn K (.ref a.cFull) (.type "BaseException") = some true
  t_Full : PySem.W.typeIn K (.ref a.cFull) = some (.type "type")
  g_Ring : mg "Ring" = some (.ref a.cRing)
  k_Ring : PySem.W.keepIn K (.ref a.cRing) = true
  b_Ring : PySem.W.subIn K (.ref a.cRing) (.type "BaseException") = some true
  t_Ring : PySem.W.typeIn K (.ref a.cRing) = some (.type "type")
  g_BadText : mg "BadText" = some (.ref a.cBadText)
  k_BadText : PySem.W.keepIn K (.ref a.cBadText) = true
  b_BadText : PySem.W.subIn K (.ref a.cBadText) (.type "BaseException") = some true
  t_BadText : PySem.W.typeIn K (.ref a.cBadText) = some (.type "type")
  g_TrackError : mg "TrackError" = some (.ref a.cTrackError)
  i_TrackError : BaseI K a.cTrackError
  k_TrackError : PySem.W.keepIn K (.ref a.cTrackError) = true
  b_TrackError : PySem.W.subIn K (.ref a.cTrackError) (.type "BaseException") = some true
  t_TrackError : PySem.W.typeIn K (.ref a.cTrackError) = some (.type "type")
  xc_NoFact : ExcC K a.cNoFact
  xc_NoSuch : ExcC K a.cNoSuch
  xc_Full : ExcC K a.cFull
  xc_Ring : ExcC K a.cRing
  ex_NoFact_TrackError : PySem.W.exmOne K (.ref a.cNoFact) (.ref a.cTrackError) = some true
  ex_NoSuch_TrackError : PySem.W.exmOne K (.ref a.cNoSuch) (.ref a.cTrackError) = some true
  ex_Full_TrackError : PySem.W.exmOne K (.ref a.cFull) (.ref a.cTrackError) = some true
  ex_Ring_TrackError : PySem.W.exmOne K (.ref a.cRing) (.ref a.cTrackError) = some true
  kit_NoFact_NoFact : PySem.W.kitOne K (.ref a.cNoFact) (.ref a.cNoFact) = some true
  kit_NoFact_NoSuch : PySem.W.kitOne K (.ref a.cNoFact) (.ref a.cNoSuch) = some false
  kit_NoFact_Full : PySem.W.kitOne K (.ref a.cNoFact) (.ref a.cFull) = some false
  kit_NoFact_Ring : PySem.W.kitOne K (.ref a.cNoFact) (.ref a.cRing) = some false
  kit_NoFact_BadText : PySem.W.kitOne K (.ref a.cNoFact) (.ref a.cBadText) = some false
  kit_NoFact_ValueError : PySem.W.kitOne K (.ref a.cNoFact) (.type "ValueError") = some true
  kit_NoSuch_NoFact : PySem.W.kitOne K (.ref a.cNoSuch) (.ref a.cNoFact) = some false
  kit_NoSuch_NoSuch : PySem.W.kitOne K (.ref a.cNoSuch) (.ref a.cNoSuch) = some true
  kit_NoSuch_Full : PySem.W.kitOne K (.ref a.cNoSuch) (.ref a.cFull) = some false
  kit_NoSuch_Ring : PySem.W.kitOne K (.ref a.cNoSuch) (.ref a.cRing) = some false
  kit_NoSuch_BadText : PySem.W.kitOne K (.ref a.cNoSuch) (.ref a.cBadText) = some false
  kit_NoSuch_ValueError : PySem.W.kitOne K (.ref a.cNoSuch) (.type "ValueError") = some true
  kit_Full_NoFact : PySem.W.kitOne K (.ref a.cFull) (.ref a.cNoFact) = some false
  kit_Full_NoSuch : PySem.W.kitOne K (.ref a.cFull) (.ref a.cNoSuch) = some false
  kit_Full_Full : PySem.W.kitOne K (.ref a.cFull) (.ref a.cFull) = some true
  kit_Full_Ring : PySem.W.kitOne K (.ref a.cFull) (.ref a.cRing) = some false
  kit_Full_BadText : PySem.W.kitOne K (.ref a.cFull) (.ref a.cBadText) = some false
  kit_Full_ValueError : PySem.W.kitOne K (.ref a.cFull) (.type "ValueError") = some true
  kit_Ring_NoFact : PySem.W.kitOne K (.ref a.cRing) (.ref a.cNoFact) = some false
  kit_Ring_NoSuch : PySem.W.kitOne K (.ref a.cRing) (.ref a.cNoSuch) = some false
  kit_Ring_Full : PySem.W.kitOne K (.ref a.cRing) (.ref a.cFull) = some false
  kit_Ring_Ring : PySem.W.kitOne K (.ref a.cRing) (.ref a.cRing) = some true
  kit_Ring_BadText : PySem.W.kitOne K (.ref a.cRing) (.ref a.cBadText) = some false
  kit_Ring_ValueError : PySem.W.kitOne K (.ref a.cRing) (.type "ValueError") = some true
section
variable {P : Program} {w : World} {K : PySem.W.Frag} {mg : Str → Option Value} {base : Heap} {a : Ad}
theorem ok_w_taken (T : Txt w K mg a) : Cl1 P w K mg base CX0 1 "_law_taken" (sp_w_taken K a) := by
  refine cl_mk T.f_w_taken sc_w_taken (len_w_taken K a) (fun f cdv A outer s H vs Q E hr h => ⟨t_w_taken K a, ?_, p_w_taken T.cl h⟩)
  have hu := hu_of hr
  exact (pss_cons (ps_asg (pe_op op_add (pe_ix ix_list (pv 0) pe_int (fun _ _ => rfl)) pe_int) (pg_sub (pv 0) pe_int set_list))
      (pss_cons (ps_if (pt_cmpR (op_gt) (pe_ix ix_list (pv 0) pe_int (fun _ _ => rfl)) (pe_callB (call_len_seq) (by rfl) T.n_len (by decide +kernel) (pa_cons (pe_ix ix_list (pv 0) pe_int (fun _ _ => rfl)) pa_nil)) (nomark _)) (pss_cons (ps_asg (pe_op op_mod (pe_op op_add (pe_op op_mul (pe_ix ix_list (pv 0) pe_int (fun _ _ => rfl)) pe_int) pe_int) pe_int) (pg_sub (pv 0) pe_int set_list))
      (pss_one (ps_ret (pe_op op_mod (pe_op op_fdiv (pe_ix ix_list (pv 0) pe_int (fun _ _ => rfl)) pe_int) (pv 1))))) pss_nil)
      (pss_cons (ps_set (i := 2) sc_w_taken.nd rfl (Or.inl rfl) (pe_ix ix_list (pe_ix ix_list (pv 0) pe_int (fun _ _ => rfl)) (pe_op op_sub (pe_ix ix_list (pv 0) pe_int (fun _ _ => rfl)) pe_int) (fun _ _ => rfl)))
      (pss_cons (ps_asg (pe_op op_mod (pe_op op_add (pe_op op_add (pe_op op_mul (pe_ix ix_list (pv 0) pe_int (fun _ _ => rfl)) pe_int) (pv 2)) pe_int) pe_int) (pg_sub (pv 0) pe_int set_list))
      (pss_one (ps_ret (pe_op op_mod (pv 2) (pv 1))))))))
theorem ok_is_name (T : Txt w K mg a) : Cl1 P w K mg base CX0 1 "is_name" (sp_is_name K a) := by
  refine cl_mk T.f_is_name sc_is_name (len_is_name K a) (fun f cdv A outer s H vs Q E hr h => ⟨t_is_name K a, ?_, p_is_name T.cl h⟩)
  have hu := hu_of hr
  exact (pss_one (ps_ret (pe_and (pe_chain op_le op_le pe_int (pe_callB (call_len_str) (by rfl) T.n_len (by decide +kernel) (pa_cons (pv 0) pa_nil)) (pe_gv rfl T.g_LONGEST)) (pe_one (pe_cmpR (op_eqD (hr.units)) (pe_lc (own := [("sign", 1)]) rfl sc_is_name.nd (pi_str (pv 0)) (blkOk_by (own := [("sign", 1)]) (N := n_is_name) (sc := defScope s_is_name) (by decide +kernel)) (fun _ _ _ _ _ => (pg_name (i := 1) sc_is_name.nd rfl (Or.inl rfl))) (fun _ _ _ _ _ => pts_one (pt_cmpR (op_notInS) (pv 1) (pe_gv rfl T.g_LETTERS) (by rfl))) (fun _ _ _ _ _ => (pv 1))) (pe_lst pa_nil) (nomark _))))))
theorem ok_Ground_init10 (T : Txt w K mg a) : Mk1 P w K mg base (L2.CX P w) 2 "Ground" a.cGround (sp_Ground_init10 K a) := by
  refine in_mkX T.f_Ground_init10 sc_Ground_init10 (len_Ground_init10 K a) (fun f cdv A outer s H vs Q E hr h => ⟨t_Ground_init10 K a E, ?_, p_Ground_init10 T.cl h⟩)
  have hu := hu_of hr
  have tk0 := takes_of (X := cxOf (L2.CX P w) P w K mg base n_Ground_init10 "Ground.__init__" (defScope s_Ground_init10) f cdv A outer s H E) rfl rfl rfl rfl
  exact (pss_cons (ps_fld (pv 0) (pe_callTy (call_list_of) (by rfl) T.n_list (by decide +kernel) (pa_cons (pv 1) pa_nil)) rfl)
      (pss_cons (ps_fld (pv 0) (pe_callTy (call_list_of) (by rfl) T.n_list (by decide +kernel) (pa_cons (pv 2) pa_nil)) rfl)
      (pss_cons (ps_set (i := 3) sc_Ground_init10.nd rfl (Or.inl rfl) (pe_op op_cat (pe_fld (pv 0) rfl) (pe_fld (pv 0) rfl)))
      (pss_cons (ps_if (PW.pt (pw_or (pt_cmpR (op_gt) (pe_callB (call_len_seq) (by rfl) T.n_len (by decide +kernel) (pa_cons (pe_fld (pv 0) rfl) pa_nil)) (pe_gv rfl T.g_MOST_WALKERS) (nomark _)) (pw_or1 (pt_cmpR (op_gt) (pe_callB (call_len_seq) (by rfl) T.n_len (by decide +kernel) (pa_cons (pe_fld (pv 0) rfl) pa_nil)) (pe_gv rfl T.g_MOST_WEATHERS) (nomark _))))) (pss_one (ps_raise rfl tk0 (pmk_own PySem.F.excBase_ValueError T.x_Full T.g_Full T.k_Full (raises_own T.b_Full T.t_Full) rfl))) pss_nil)
      (pss_cons (ps_for (passes_of rfl) rfl (pi_list (pv 3)) (pg_name (i := 4) sc_Ground_init10.nd rfl (Or.inl rfl)) (pss_one (ps_if (PW.pt (pw_or (pt_not (pt_val (pe_cc (ok_is_name T) hr (by decide) rfl pass0 (pa_cons (pv 4) pa_nil)))) (pw_or1 (pt_cmpR (op_neD (hr.units)) (pe_bm PySem.F.plainAttrs_list PySem.F.slot_list_count PySem.F.type_list_count mt_countF (pv 3) (pa_cons (pv 4) pa_nil)) pe_int (nomark _))))) (pss_one (ps_raise rfl tk0 (pmk_own PySem.F.excBase_ValueError T.x_NoFact T.g_NoFact T.k_NoFact (raises_own T.b_NoFact T.t_NoFact) rfl))) pss_nil)))
      (pss_cons (ps_fld (pv 0) pe_dnewK rfl)
      (pss_cons (ps_fld (pv 0) pe_dnewK rfl)
      (pss_one (ps_fld (pv 0) pe_int rfl)))))))))
theorem ok_w_word_of (T : Txt w K mg a) : Cw1 P w K mg base 1 "_law_word_of" (sp_w_word_of K a) := by
  refine cw_mk T.f_w_word_of sc_w_word_of (len_w_word_of K a) (fun f cdv A outer s H vs Q hr h => ⟨t_w_word_of K a, ?_, p_w_word_of T.cl ⟨T.xc_NoFact, T.xc_NoSuch, T.xc_Full, T.xc_Ring, T.kit_NoFact_NoFact, T.kit_NoFact_NoSuch, T.kit_NoFact_Full, T.kit_NoFact_Ring, T.kit_NoFact_BadText, T.kit_NoFact_ValueError, T.kit_NoSuch_NoFact, T.kit_NoSuch_NoSuch, T.kit_NoSuch_Full, T.kit_NoSuch_Ring, T.kit_NoSuch_BadText, T.kit_NoSuch_ValueError, T.kit_Full_NoFact, T.kit_Full_NoSuch, T.kit_Full_Full, T.kit_Full_Ring, T.kit_Full_BadText, T.kit_Full_ValueError, T.kit_Ring_NoFact, T.kit_Ring_NoSuch, T.kit_Ring_Full, T.kit_Ring_Ring, T.kit_Ring_BadText, T.kit_Ring_ValueError⟩ h⟩)
  have hu := L2H.hu_ofH hr
  exact (pss_cons (ps_set (i := 1) sc_w_word_of.nd rfl (Or.inl rfl) (pe_lst (pa_cons (pe_callB (call_isX) (by rfl) T.n_isinstance (by decide +kernel) (pa_cons (pv 0) (pa_cons (pe_glob rfl T.g_NoFact rfl) pa_nil))) (pa_cons (pe_callB (call_isX) (by rfl) T.n_isinstance (by decide +kernel) (pa_cons (pv 0) (pa_cons (pe_glob rfl T.g_NoSuch rfl) pa_nil))) (pa_cons (pe_callB (call_isX) (by rfl) T.n_isinstance (by decide +kernel) (pa_cons (pv 0) (pa_cons (pe_glob rfl T.g_Full rfl) pa_nil))) (pa_cons (pe_callB (call_isX) (by rfl) T.n_isinstance (by decide +kernel) (pa_cons (pv 0) (pa_cons (pe_glob rfl T.g_Ring rfl) pa_nil))) pa_nil))))))
      (pss_cons (ps_expr (pe_bm PySem.F.plainAttrs_list PySem.F.slot_list_append PySem.F.type_list_append mt_append (pv 1) (pa_cons (pe_callB (call_isX) (by rfl) T.n_isinstance (by decide +kernel) (pa_cons (pv 0) (pa_cons (pe_glob rfl T.g_BadText rfl) pa_nil))) pa_nil)))
      (pss_cons (ps_if (PW.pt (pw_or (pt_not (pt_val (pe_callB (call_isX) (by rfl) T.n_isinstance (by decide +kernel) (pa_cons (pv 0) (pa_cons (pe_bltn rfl T.n_ValueError (by decide +kernel) rfl) pa_nil))))) (pw_or1 (pt_cmpR (op_neD (hr.units)) (pe_bm PySem.F.plainAttrs_list PySem.F.slot_list_count PySem.F.type_list_count mt_countF (pv 1) (pa_cons pe_bl pa_nil)) pe_int (nomark _))))) (pss_one (ps_ret pe_str)) pss_nil)
      (pss_one (ps_ret (pe_ix ix_list (pe_lst (pa_cons pe_str (pa_cons pe_str (pa_cons pe_str (pa_cons pe_str (pa_cons pe_str pa_nil)))))) (pe_bm PySem.F.plainAttrs_list PySem.F.slot_list_index PySem.F.type_list_index (mt_indexD hr.units65) (pv 1) (pa_cons pe_bl pa_nil)) (fun _ _ => rfl)))))))
theorem ok_w_made (T : Txt w K mg a) : Cl1 P w K mg base CX0 4 "_law_made" (sp_w_made K a) := by
  refine cl_mk T.f_w_made sc_w_made (len_w_made K a) (fun f cdv A outer s H vs Q E hr h => ⟨t_w_made K a, ?_, p_w_made T.cl ⟨T.ex_NoFact_TrackError, T.ex_NoSuch_TrackError, T.ex_Full_TrackError, T.ex_Ring_TrackError⟩ h⟩)
  have hu := hu_of hr
  exact (pss_cons (ps_try_manyB (i := 2) (n := "_law_e") (tb := fun W => (tDrop (tMakeS a.cGround (sp_Ground_init10 K a) (WE W) (tCons (tVar 0) (tCons (tVar 1) tNil))))) (Wout := fun _ _ _ _ => False) (l := [(Value.ref a.cTrackError, fun b cls d => tRet (tCallX b cls d (sp_w_word_of K a) (tCons (tVar 2) tNil)))]) rfl rfl sc_w_made.nd rfl rfl takes0 (fun W pn xe tk _ => by exact (pss_one (ps_expr (pe_mkS (ok_Ground_init10 T) hr (by decide) rfl (fun σ => passAt tk σ) (pa_cons (pv 0) (pa_cons (pv 1) pa_nil)))))) (by exact (HdsB.cons (by exact ⟨rfl, by decide, .inl T.g_TrackError⟩) (fun b oe cls d pn hz hf hbs => by exact (pss_one (ps_ret (pe_callX (ok_w_word_of T) hr (by decide) ⟨hz, hf⟩ hbs rfl (pa_cons (pv 2) pa_nil))))) HdsB.nil))) (pss_one (ps_ret pe_str)))
theorem ok_w_names_refused (T : Txt w K mg a) : Cl1 P w K mg base CX0 5 "_law_names_refused" (sp_w_names_refused K a) := by
  refine cl_mk T.f_w_names_refused sc_w_names_refused (len_w_names_refused K a) (fun f cdv A outer s H vs Q E hr h => ⟨t_w_names_refused K a, ?_, p_w_names_refused T.cl h⟩)
  have hu := hu_of hr
  exact (pss_cons (ps_set (i := 1) sc_w_names_refused.nd rfl (Or.inl rfl) (pe_ix ix_list (pe_lst (pa_cons pe_str (pa_cons pe_str (pa_cons pe_str (pa_cons pe_str (pa_cons pe_str (pa_cons pe_str pa_nil))))))) (pe_cc (ok_w_taken T) hr (by decide) rfl pass0 (pa_cons (pv 0) (pa_cons pe_int pa_nil))) (fun _ _ => rfl)))
      (pss_cons (ps_setLc (i := 2) (own := [("_law_k", 3)]) rfl sc_w_names_refused.nd rfl rfl (sw_true rfl rfl rfl (by decide +kernel)) (pi_range1 rfl T.n_range (pa_cons pe_int pa_nil)) (blkOk_by (own := [("_law_k", 3)]) (N := n_w_names_refused) (sc := defScope s_w_names_refused) (by decide +kernel)) (fun _ _ _ _ _ => (pg_name (i := 3) sc_w_names_refused.nd rfl (Or.inl rfl))) (fun _ _ _ _ _ => pts_nil) (fun _ _ _ _ _ => (pe_ix ix_str pe_str (pv 3) (fun _ _ => rfl))))
      (pss_cons (ps_if (PW.pt (pw_or (pt_cmpR (op_neD (hr.units)) (pe_cc (ok_w_made T) hr (by decide) rfl pass0 (pa_cons (pe_op op_cat (pe_slice sl_list (pv 2) po_none (po_some pe_int)) (pe_lst (pa_cons (pv 1) pa_nil))) (pa_cons (pe_lst pa_nil) pa_nil))) pe_str (nomark _)) (pw_or1 (pt_cmpR (op_neD (hr.units)) (pe_cc (ok_w_made T) hr (by decide) rfl pass0 (pa_cons (pe_slice sl_list (pv 2) po_none (po_some pe_int)) (pa_cons (pe_lst (pa_cons (pv 1) pa_nil)) pa_nil))) pe_str (nomark _))))) (pss_one (ps_ret pe_bl)) pss_nil)
      (pss_cons (ps_if (PW.pt (pw_or (pt_cmpR (op_neD (hr.units)) (pe_cc (ok_w_made T) hr (by decide) rfl pass0 (pa_cons (pe_lst (pa_cons pe_str (pa_cons pe_str (pa_cons pe_str pa_nil)))) (pa_cons (pe_lst pa_nil) pa_nil))) pe_str (nomark _)) (pw_or1 (pt_cmpR (op_neD (hr.units)) (pe_cc (ok_w_made T) hr (by decide) rfl pass0 (pa_cons (pe_lst (pa_cons pe_str pa_nil)) (pa_cons (pe_lst (pa_cons pe_str (pa_cons pe_str pa_nil))) pa_nil))) pe_str (nomark _))))) (pss_one (ps_ret pe_bl)) pss_nil)
      (pss_cons (ps_if (PW.pt (pw_or (pt_cmpR (op_neD (hr.units)) (pe_cc (ok_w_made T) hr (by decide) rfl pass0 (pa_cons (pe_slice sl_list (pv 2) po_none (po_some pe_int)) (pa_cons (pe_lst pa_nil) pa_nil))) pe_str (nomark _)) (pw_or (pt_cmpR (op_neD (hr.units)) (pe_cc (ok_w_made T) hr (by decide) rfl pass0 (pa_cons (pe_lst pa_nil) (pa_cons (pe_slice sl_list (pv 2) po_none (po_some pe_int)) pa_nil))) pe_str (nomark _)) (pw_or1 (pt_cmpR (op_neD (hr.units)) (pe_cc (ok_w_made T) hr (by decide) rfl pass0 (pa_cons (pe_op op_rep (pe_lst (pa_cons (pv 1) pa_nil)) pe_int) (pa_cons (pe_lst pa_nil) pa_nil))) pe_str (nomark _)))))) (pss_one (ps_ret pe_bl)) pss_nil)
      (pss_one (ps_ret (pe_and (pe_cmpR (op_eqD (hr.units)) (pe_cc (ok_w_made T) hr (by decide) rfl pass0 (pa_cons (pe_slice sl_list (pv 2) po_none (po_some pe_int)) (pa_cons (pe_slice sl_list (pv 2) (po_some pe_int) (po_some pe_int)) pa_nil))) pe_str (nomark _)) (pe_one (pe_cmpR (op_eqD (hr.units)) (pe_cc (ok_w_made T) hr (by decide) rfl pass0 (pa_cons (pe_lst pa_nil) (pa_cons (pe_lst pa_nil) pa_nil))) pe_str (nomark _)))))))))))
theorem ok_Ground_new_number (T : Txt w K mg a) : Mt1 P w K mg base CX0 1 a.cGround "new_number" (sp_Ground_new_number K a) := by
  refine mt_mk T.f_Ground_new_number sc_Ground_new_number (len_Ground_new_number K a) (fun f cdv A outer s H vs Q E hr h => ⟨t_Ground_new_number K a, ?_, p_Ground_new_number T.cl h⟩)
  have hu := hu_of hr
  exact (pss_cons (ps_fld (pv 0) (pe_op op_add (pe_fld (pv 0) rfl) pe_int) rfl)
      (pss_one (ps_ret (pe_op op_sub (pe_fld (pv 0) rfl) pe_int))))
theorem ok_Ground_cross (T : Txt w K mg a) : Mt1 P w K mg base (L2.CX P w) 2 a.cGround "cross" (sp_Ground_cross K a) := by
  refine mt_mkX T.f_Ground_cross sc_Ground_cross (len_Ground_cross K a) (fun f cdv A outer s H vs Q E hr h => ⟨t_Ground_cross K a E, ?_, p_Ground_cross T.cl h⟩)
  have hu := hu_of hr
  have tk0 := takes_of (X := cxOf (L2.CX P w) P w K mg base n_Ground_cross "Ground.cross" (defScope s_Ground_cross) f cdv A outer s H E) rfl rfl rfl rfl
  exact (pss_cons (ps_if (PW.pt (pw_or (pt_cmpR (op_notInD (hr.units65)) (pv 1) (pe_fld (pv 0) rfl) (by rfl)) (pw_or (pt_cmpR (op_notInD (hr.units65)) (pv 2) (pe_fld (pv 0) rfl) (by rfl)) (pw_or1 (pt_cmpR (op_eqD (hr.units)) (pv 1) (pv 2) (nomark _)))))) (pss_one (ps_raise rfl tk0 (pmk_own PySem.F.excBase_ValueError T.x_NoFact T.g_NoFact T.k_NoFact (raises_own T.b_NoFact T.t_NoFact) rfl))) pss_nil)
      (pss_cons (ps_if (pt_cmpR (op_ge) (pe_op op_add (pe_callB call_lenD (by rfl) T.n_len (by decide +kernel) (pa_cons (pe_fld (pv 0) rfl) pa_nil)) (pe_callB call_lenD (by rfl) T.n_len (by decide +kernel) (pa_cons (pe_fld (pv 0) rfl) pa_nil))) (pe_gv rfl T.g_MOST_FACTS) (nomark _)) (pss_one (ps_raise rfl tk0 (pmk_own PySem.F.excBase_ValueError T.x_Full T.g_Full T.k_Full (raises_own T.b_Full T.t_Full) rfl))) pss_nil)
      (pss_cons (ps_set (i := 3) sc_Ground_cross.nd rfl (Or.inl rfl) (pe_mm0 (ok_Ground_new_number T) hr (by decide) pass0 (pv 0)))
      (pss_cons (ps_dput hu (pe_fld (pv 0) rfl) (pv 3) (pe_tup (pa_cons (pv 1) (pa_cons (pv 2) pa_nil))) rfl)
      (pss_one (ps_ret (pv 3)))))))
theorem ok_is_fact (T : Txt w K mg a) : Cl1 P w K mg base CX0 1 "is_fact" (sp_is_fact K a) := by
  refine cl_mk T.f_is_fact sc_is_fact (len_is_fact K a) (fun f cdv A outer s H vs Q E hr h => ⟨t_is_fact K a, ?_, p_is_fact T.cl h⟩)
  have hu := hu_of hr
  exact (pss_cons (ps_if (PW.pt (pw_or (pt_cmpR (op_neD (hr.units)) (pe_callB (call_len_seq) (by rfl) T.n_len (by decide +kernel) (pa_cons (pv 0) pa_nil)) pe_int (nomark _)) (pw_or (pt_cmpR (op_notIn_seq) (pe_ix ix_tup (pv 0) pe_int (fun _ _ => rfl)) (pe_gv rfl T.g_WORDS) (by rfl)) (pw_or1 (pt_cmpR (op_notInD (hr.units65)) (pe_ix ix_tup (pv 0) pe_int (fun _ _ => rfl)) (pv 1) (by rfl)))))) (pss_one (ps_ret pe_bl)) pss_nil)
      (pss_cons (ps_if (pt_cmpR (op_eqD (hr.units)) (pe_ix ix_tup (pv 0) pe_int (fun _ _ => rfl)) pe_str (nomark _)) (pss_one (ps_ret (pe_and (pe_cmpR (op_inD (hr.units65)) (pe_ix ix_tup (pv 0) pe_int (fun _ _ => rfl)) (pv 1) (by rfl)) (pe_one (pe_cmpR (op_neD (hr.units)) (pe_ix ix_tup (pv 0) pe_int (fun _ _ => rfl)) (pe_ix ix_tup (pv 0) pe_int (fun _ _ => rfl)) (nomark _)))))) pss_nil)
      (pss_one (ps_ret (pe_cmpR (op_inD (hr.units65)) (pe_ix ix_tup (pv 0) pe_int (fun _ _ => rfl)) (pv 2) (by rfl))))))
theorem ok_all_things (T : Txt w K mg a) : Cl1 P w K mg base CX0 1 "all_things" (sp_all_things K a) := by
  refine cl_mk T.f_all_things sc_all_things (len_all_things K a) (fun f cdv A outer s H vs Q E hr h => ⟨t_all_things K a, ?_, p_all_things T.cl h⟩)
  have hu := hu_of hr
  exact (pss_cons (ps_setLc (i := 3) (own := [("name", 2)]) rfl sc_all_things.nd rfl rfl (sw_true rfl rfl rfl (by decide +kernel)) (pi_list (pe_callB (cr_sortedS) (by rfl) T.n_sorted (by decide +kernel) (pa_cons (pv 0) pa_nil))) (blkOk_by (own := [("name", 2)]) (N := n_all_things) (sc := defScope s_all_things) (by decide +kernel)) (fun _ _ _ _ _ => (pg_name (i := 2) sc_all_things.nd rfl (Or.inl rfl))) (fun _ _ _ _ _ => pts_nil) (fun _ _ _ _ _ => (pe_tup (pa_cons pe_str (pa_cons (pv 2) pa_nil)))))
      (pss_cons (ps_for PassesOwn.never rfl (pi_list (pv 1)) (pg_name (i := 2) sc_all_things.nd rfl (Or.inl rfl)) (pss_one (ps_set (i := 3) sc_all_things.nd rfl (Or.inl rfl) (pe_op op_cat (pv 3) (pe_lst (pa_cons (pe_tup (pa_cons pe_str (pa_cons (pv 2) pa_nil))) (pa_cons (pe_tup (pa_cons pe_str (pa_cons (pv 2) pa_nil))) pa_nil)))))))
      (pss_one (ps_ret (pv 3)))))
theorem ok_Ground_things (T : Txt w K mg a) : Mt1 P w K mg base CX0 2 a.cGround "things" (sp_Ground_things K a) := by
  refine mt_mk T.f_Ground_things sc_Ground_things (len_Ground_things K a) (fun f cdv A outer s H vs Q E hr h => ⟨t_Ground_things K a, ?_, p_Ground_things T.cl h⟩)
  have hu := hu_of hr
  exact (pss_one (ps_ret (pe_cc (ok_all_things T) hr (by decide) rfl pass0 (pa_cons (pe_fld (pv 0) rfl) (pa_cons (pe_fld (pv 0) rfl) pa_nil)))))
theorem ok_Net_init (T : Txt w K mg a) : Mk1 P w K mg base CX0 1 "Net" a.cNet (sp_Net_init K a) := by
  refine in_mk T.f_Net_init sc_Net_init (len_Net_init K a) (fun f cdv A outer s H vs Q E hr h => ⟨t_Net_init K a, ?_, p_Net_init T.cl h⟩)
  have hu := hu_of hr
  exact (pss_cons (ps_fld (pv 0) pe_dnewT rfl)
      (pss_one (ps_for PassesOwn.never rfl (pi_list (pv 1)) (pg_name (i := 2) sc_Net_init.nd rfl (Or.inl rfl)) (pss_one (ps_dput hu (pe_fld (pv 0) rfl) (pv 2) (pe_lst pa_nil) rfl)))))
theorem ok_weather_links (T : Txt w K mg a) : Cl1 P w K mg base CX0 2 "weather_links" (sp_weather_links K a) := by
  refine cl_mk T.f_weather_links sc_weather_links (len_weather_links K a) (fun f cdv A outer s H vs Q E hr h => ⟨t_weather_links K a, ?_, p_weather_links T.cl h⟩)
  have hu := hu_of hr
  exact (pss_cons (ps_set (i := 1) sc_weather_links.nd rfl (Or.inr rfl) (pe_cc (ok_all_things T) hr (by decide) rfl pass0 (pa_cons (pe_lst pa_nil) (pa_cons (pv 0) pa_nil))))
      (pss_one (ps_ret (pe_lc (own := [("k", 2)]) rfl sc_weather_links.nd (pi_range1 rfl T.n_range (pa_cons (pe_op op_sub (pe_callB (call_len_seq) (by rfl) T.n_len (by decide +kernel) (pa_cons (pv 1) pa_nil)) pe_int) pa_nil)) (blkOk_by (own := [("k", 2)]) (N := n_weather_links) (sc := defScope s_weather_links) (by decide +kernel)) (fun _ _ _ _ _ => (pg_name (i := 2) sc_weather_links.nd rfl (Or.inl rfl))) (fun _ _ _ _ _ => pts_nil) (fun _ _ _ _ _ => (pe_tup (pa_cons (pe_ix ix_list (pv 1) (pv 2) (fun _ _ => rfl)) (pa_cons (pe_ix ix_list (pv 1) (pe_op op_add (pv 2) pe_int) (fun _ _ => rfl)) pa_nil))))))))
theorem ok_Net_add (T : Txt w K mg a) : Mt1 P w K mg base CX0 1 a.cNet "add" (sp_Net_add K a) := by
  refine mt_mk T.f_Net_add sc_Net_add (len_Net_add K a) (fun f cdv A outer s H vs Q E hr h => ⟨t_Net_add K a, ?_, p_Net_add T.cl h⟩)
  have hu := hu_of hr
  exact (pss_one (ps_expr (pe_bm PySem.F.plainAttrs_list PySem.F.slot_list_append PySem.F.type_list_append mt_append (pe_dget hu (pe_fld (pv 0) rfl) (pv 1) (fun _ _ => rfl)) (pa_cons (pe_tup (pa_cons (pv 2) (pa_cons (pv 3) pa_nil))) pa_nil))))
theorem ok_links_of (T : Txt w K mg a) : Cl1 P w K mg base CX0 1 "links_of" (sp_links_of K a) := by
  refine cl_mk T.f_links_of sc_links_of (len_links_of K a) (fun f cdv A outer s H vs Q E hr h => ⟨t_links_of K a, ?_, p_links_of T.cl h⟩)
  have hu := hu_of hr
  exact (pss_cons (ps_asg (pv 0) (pg_tup rfl (pgs_cons (pg_name (i := 1) sc_links_of.nd rfl (Or.inl rfl)) (pgs_cons (pg_name (i := 2) sc_links_of.nd rfl (Or.inl rfl)) (pgs_cons (pg_name (i := 3) sc_links_of.nd rfl (Or.inl rfl)) pgs_nil)))))
      (pss_cons (ps_set (i := 4) sc_links_of.nd rfl (Or.inl rfl) (pe_tup (pa_cons pe_str (pa_cons (pv 2) pa_nil))))
      (pss_cons (ps_if (pt_cmpR (op_eqD (hr.units)) (pv 1) pe_str (nomark _)) (pss_one (ps_ret (pe_lst (pa_cons (pe_tup (pa_cons (pe_tup (pa_cons pe_str (pa_cons (pv 3) pa_nil))) (pa_cons (pv 4) pa_nil))) pa_nil)))) pss_nil)
      (pss_cons (ps_if (pt_cmpR (op_eqD (hr.units)) (pv 1) pe_str (nomark _)) (pss_one (ps_ret (pe_lst (pa_cons (pe_tup (pa_cons (pv 4) (pa_cons (pe_tup (pa_cons pe_str (pa_cons (pv 3) pa_nil))) pa_nil))) pa_nil)))) pss_nil)
      (pss_cons (ps_if (pt_cmpR (op_eqD (hr.units)) (pv 1) pe_str (nomark _)) (pss_one (ps_ret (pe_lst (pa_cons (pe_tup (pa_cons (pe_tup (pa_cons pe_str (pa_cons (pv 3) pa_nil))) (pa_cons (pv 4) pa_nil))) (pa_cons (pe_tup (pa_cons (pv 4) (pa_cons (pe_tup (pa_cons pe_str (pa_cons (pv 3) pa_nil))) pa_nil))) pa_nil))))) pss_nil)
      (pss_one (ps_ret (pe_lst (pa_cons (pe_tup (pa_cons (pe_tup (pa_cons pe_str (pa_cons (pv 3) pa_nil))) (pa_cons (pv 4) pa_nil))) pa_nil)))))))))
theorem ok_Ground_net (T : Txt w K mg a) : Mt1 P w K mg base CX0 3 a.cGround "net" (sp_Ground_net K a) := by
  refine mt_mk T.f_Ground_net sc_Ground_net (len_Ground_net K a) (fun f cdv A outer s H vs Q E hr h => ⟨t_Ground_net K a, ?_, p_Ground_net T.cl h⟩)
  have hu := hu_of hr
  exact (pss_cons (ps_set (i := 2) sc_Ground_net.nd rfl (Or.inl rfl) (pe_mk1 (ok_Net_init T) hr (by decide) rfl pass0 (pa_cons (pe_mm0 (ok_Ground_things T) hr (by decide) pass0 (pv 0)) pa_nil)))
      (pss_cons (ps_for PassesOwn.never rfl (pi_list (pe_cc (ok_weather_links T) hr (by decide) rfl pass0 (pa_cons (pe_fld (pv 0) rfl) pa_nil))) (pg_tup rfl (pgs_cons (pg_name (i := 3) sc_Ground_net.nd rfl (Or.inl rfl)) (pgs_cons (pg_name (i := 4) sc_Ground_net.nd rfl (Or.inl rfl)) pgs_nil))) (pss_one (ps_expr (pe_mm (ok_Net_add T) hr (by decide) pass0 (pv 2) (pa_cons (pv 3) (pa_cons (pv 4) (pa_cons pe_non pa_nil)))))))
      (pss_cons (ps_for PassesOwn.never rfl (pi_list (pe_callB (cr_sorted) (by rfl) T.n_sorted (by decide +kernel) (pa_cons (pe_callTy (call_listD rfl) (by rfl) T.n_list (by decide +kernel) (pa_cons (pe_fld (pv 0) rfl) pa_nil)) pa_nil))) (pg_name (i := 5) sc_Ground_net.nd rfl (Or.inl rfl)) (pss_one (ps_if (pt_cmpR (op_notInD (hr.units65)) (pv 5) (pv 1) (by rfl)) (pss_one (ps_for PassesOwn.never rfl (pi_list (pe_cc (ok_links_of T) hr (by decide) rfl pass0 (pa_cons (pe_dget hu (pe_fld (pv 0) rfl) (pv 5) (fun _ _ => rfl)) pa_nil))) (pg_tup rfl (pgs_cons (pg_name (i := 3) sc_Ground_net.nd rfl (Or.inl rfl)) (pgs_cons (pg_name (i := 4) sc_Ground_net.nd rfl (Or.inl rfl)) pgs_nil))) (pss_one (ps_expr (pe_mm (ok_Net_add T) hr (by decide) pass0 (pv 2) (pa_cons (pv 3) (pa_cons (pv 4) (pa_cons (pv 5) pa_nil)))))))) pss_nil)))
      (pss_one (ps_ret (pv 2))))))
theorem ok_Net_way (T : Txt w K mg a) : Mt1 P w K mg base CX0 1 a.cNet "way" (sp_Net_way K a) := by
  refine mt_mk T.f_Net_way sc_Net_way (len_Net_way K a) (fun f cdv A outer s H vs Q E hr h => ⟨t_Net_way K a, ?_, p_Net_way T.cl h⟩)
  have hu := hu_of hr
  exact (pss_cons (ps_set (i := 3) sc_Net_way.nd rfl (Or.inl rfl) (pe_disp1T hu (pv 1) pe_non))
      (pss_cons (ps_set (i := 4) sc_Net_way.nd rfl (Or.inl rfl) (pe_lst (pa_cons (pv 1) pa_nil)))
      (pss_cons (ps_set (i := 5) sc_Net_way.nd rfl (Or.inl rfl) pe_int)
      (pss_cons (ps_while PassesOwn.never (PW.pt (pw_and (pt_cmpR (op_lt) (pv 5) (pe_callB (call_len_seq) (by rfl) T.n_len (by decide +kernel) (pa_cons (pv 4) pa_nil)) (nomark _)) (pw_and1 (pt_cmp (pc_dnotin hu (pv 2) (pv 3)) rfl)))) (pss_cons (ps_set (i := 6) sc_Net_way.nd rfl (Or.inl rfl) (pe_ix ix_list (pv 4) (pv 5) (fun _ _ => rfl)))
      (pss_cons (ps_set (i := 5) sc_Net_way.nd rfl (Or.inl rfl) (pe_op op_add (pv 5) pe_int))
      (pss_one (ps_for PassesOwn.never rfl (pi_list (pe_dget hu (pe_fld (pv 0) rfl) (pv 6) (fun _ _ => rfl))) (pg_tup rfl (pgs_cons (pg_name (i := 7) sc_Net_way.nd rfl (Or.inl rfl)) (pgs_cons (pg_name (i := 8) sc_Net_way.nd rfl (Or.inl rfl)) pgs_nil))) (pss_one (ps_if (pt_cmp (pc_dnotin hu (pv 7) (pv 3)) rfl) (pss_cons (ps_dput hu (pv 3) (pv 7) (pe_tup (pa_cons (pv 6) (pa_cons (pv 8) pa_nil))) rfl)
      (pss_one (ps_expr (pe_bm PySem.F.plainAttrs_list PySem.F.slot_list_append PySem.F.type_list_append mt_append (pv 4) (pa_cons (pv 7) pa_nil))))) pss_nil)))))))
      (pss_cons (ps_if (PW.pt (pw_or (pt_cmp (pc_dnotin hu (pv 2) (pv 3)) rfl) (pw_or1 (pt_cmpR (op_eqD (hr.units)) (pv 2) (pv 1) (nomark _))))) (pss_one (ps_ret pe_non)) pss_nil)
      (pss_cons (ps_set (i := 9) sc_Net_way.nd rfl (Or.inl rfl) (pe_lst pa_nil))
      (pss_cons (ps_while PassesOwn.never (pt_cmp (pc_notN (pe_dget hu (pv 3) (pv 2) (fun _ _ => rfl))) rfl) (pss_cons (ps_asg (pe_dget hu (pv 3) (pv 2) (fun _ _ => rfl)) (pg_tup rfl (pgs_cons (pg_name (i := 10) sc_Net_way.nd rfl (Or.inl rfl)) (pgs_cons (pg_name (i := 8) sc_Net_way.nd rfl (Or.inl rfl)) pgs_nil))))
      (pss_cons (ps_expr (pe_bm PySem.F.plainAttrs_list PySem.F.slot_list_append PySem.F.type_list_append mt_append (pv 9) (pa_cons (pe_tup (pa_cons (pv 10) (pa_cons (pv 2) (pa_cons (pv 8) pa_nil)))) pa_nil)))
      (pss_one (ps_set (i := 2) sc_Net_way.nd rfl (Or.inl rfl) (pv 10))))))
      (pss_one (ps_ret (pe_listRev rfl rfl T.n_list rfl T.n_reversed (pv 9)))))))))))
theorem ok_Ground_ring_of (T : Txt w K mg a) : Mt1 P w K mg base CX0 4 a.cGround "ring_of" (sp_Ground_ring_of K a) := by
  refine mt_mk T.f_Ground_ring_of sc_Ground_ring_of (len_Ground_ring_of K a) (fun f cdv A outer s H vs Q E hr h => ⟨t_Ground_ring_of K a, ?_, p_Ground_ring_of T.cl h⟩)
  have hu := hu_of hr
  exact (pss_cons (ps_set (i := 2) sc_Ground_ring_of.nd rfl (Or.inl rfl) (pe_mm (ok_Ground_net T) hr (by decide) pass0 (pv 0) (pa_cons (pe_lst pa_nil) pa_nil)))
      (pss_cons (ps_set (i := 3) sc_Ground_ring_of.nd rfl (Or.inl rfl) pe_non)
      (pss_cons (ps_for PassesOwn.never rfl (pi_list (pe_cc (ok_links_of T) hr (by decide) rfl pass0 (pa_cons (pv 1) pa_nil))) (pg_tup rfl (pgs_cons (pg_name (i := 4) sc_Ground_ring_of.nd rfl (Or.inl rfl)) (pgs_cons (pg_name (i := 5) sc_Ground_ring_of.nd rfl (Or.inl rfl)) pgs_nil))) (pss_cons (ps_set (i := 6) sc_Ground_ring_of.nd rfl (Or.inl rfl) (pe_mm (ok_Net_way T) hr (by decide) pass0 (pv 2) (pa_cons (pv 5) (pa_cons (pv 4) pa_nil))))
      (pss_one (ps_if (PW.pt (pw_and (pt_cmp (pc_notN (pv 6)) rfl) (pw_and1 (PW.pt (pw_or (pt_cmp (pc_isN (pv 3)) rfl) (pw_or1 (pt_cmpR (op_lt) (pe_callB (call_len_seq) (by rfl) T.n_len (by decide +kernel) (pa_cons (pv 6) pa_nil)) (pe_callB (call_len_seq) (by rfl) T.n_len (by decide +kernel) (pa_cons (pv 3) pa_nil)) (nomark _)))))))) (pss_one (ps_set (i := 3) sc_Ground_ring_of.nd rfl (Or.inl rfl) (pv 6))) pss_nil))))
      (pss_cons (ps_if (pt_cmp (pc_isN (pv 3)) rfl) (pss_one (ps_ret pe_non)) pss_nil)
      (pss_one (ps_ret (pe_lc (own := [("one", 7), ("other", 8), ("number", 9)]) rfl sc_Ground_ring_of.nd (pi_list (pv 3)) (blkOk_by (own := [("one", 7), ("other", 8), ("number", 9)]) (N := n_Ground_ring_of) (sc := defScope s_Ground_ring_of) (by decide +kernel)) (fun _ _ _ _ _ => (pg_tup rfl (pgs_cons (pg_name (i := 7) sc_Ground_ring_of.nd rfl (Or.inl rfl)) (pgs_cons (pg_name (i := 8) sc_Ground_ring_of.nd rfl (Or.inl rfl)) (pgs_cons (pg_name (i := 9) sc_Ground_ring_of.nd rfl (Or.inl rfl)) pgs_nil))))) (fun _ _ _ _ _ => pts_one (pt_cmp (pc_notN (pv 9)) rfl)) (fun _ _ _ _ _ => (pv 9)))))))))
theorem ok_Ring_init (T : Txt w K mg a) : Oe1 P w K mg base 1 "Ring" a.cRing (sp_Ring_init K a) := by
  refine oe_mk T.f_Ring_init sc_Ring_init (len_Ring_init K a) (fun f cdv A outer s H vs Q E hr h => ⟨t_Ring_init K a, ?_, p_Ring_init T.cl h⟩)
  have hu := hu_of hr
  exact (pss_cons (ps_expr (pe_ownInit T.i_TrackError rfl T.g_TrackError (pa_cons (pv 0) (pa_cons (pe_callB call_len_seq (by rfl) T.n_len (by decide +kernel) (pa_cons (pv 1) pa_nil)) pa_nil)))) (pss_one (ps_ost (pv 0) (pv 1))))
theorem ok_Ground_tell (T : Txt w K mg a) : Mt1 P w K mg base (L2.CX P w) 5 a.cGround "tell" (sp_Ground_tell K a) := by
  refine mt_mkX T.f_Ground_tell sc_Ground_tell (len_Ground_tell K a) (fun f cdv A outer s H vs Q E hr h => ⟨t_Ground_tell K a E, ?_, p_Ground_tell T.cl h⟩)
  have hu := hu_of hr
  have tk0 := takes_of (X := cxOf (L2.CX P w) P w K mg base n_Ground_tell "Ground.tell" (defScope s_Ground_tell) f cdv A outer s H E) rfl rfl rfl rfl
  exact (pss_cons (ps_if (pt_not (pt_val (pe_cc (ok_is_fact T) hr (by decide) rfl pass0 (pa_cons (pv 1) (pa_cons (pe_fld (pv 0) rfl) (pa_cons (pe_fld (pv 0) rfl) pa_nil)))))) (pss_one (ps_raise rfl tk0 (pmk_own PySem.F.excBase_ValueError T.x_NoFact T.g_NoFact T.k_NoFact (raises_own T.b_NoFact T.t_NoFact) rfl))) pss_nil)
      (pss_cons (ps_if (pt_cmpR (op_ge) (pe_op op_add (pe_callB call_lenD (by rfl) T.n_len (by decide +kernel) (pa_cons (pe_fld (pv 0) rfl) pa_nil)) (pe_callB call_lenD (by rfl) T.n_len (by decide +kernel) (pa_cons (pe_fld (pv 0) rfl) pa_nil))) (pe_gv rfl T.g_MOST_FACTS) (nomark _)) (pss_one (ps_raise rfl tk0 (pmk_own PySem.F.excBase_ValueError T.x_Full T.g_Full T.k_Full (raises_own T.b_Full T.t_Full) rfl))) pss_nil)
      (pss_cons (ps_set (i := 2) sc_Ground_tell.nd rfl (Or.inl rfl) (pe_mm (ok_Ground_ring_of T) hr (by decide) pass0 (pv 0) (pa_cons (pv 1) pa_nil)))
      (pss_cons (ps_if (pt_cmp (pc_notN (pv 2)) rfl) (pss_one (ps_raise rfl tk0 (pmk_o1 (ok_Ring_init T) hr (by decide) rfl (pa_cons (pv 2) pa_nil)))) pss_nil)
      (pss_cons (ps_set (i := 3) sc_Ground_tell.nd rfl (Or.inl rfl) (pe_mm0 (ok_Ground_new_number T) hr (by decide) pass0 (pv 0)))
      (pss_cons (ps_dput hu (pe_fld (pv 0) rfl) (pv 3) (pv 1) rfl)
      (pss_one (ps_ret (pv 3)))))))))
theorem ok_Ground_need_thing (T : Txt w K mg a) : Mt1 P w K mg base (L2.CX P w) 3 a.cGround "need_thing" (sp_Ground_need_thing K a) := by
  refine mt_mkX T.f_Ground_need_thing sc_Ground_need_thing (len_Ground_need_thing K a) (fun f cdv A outer s H vs Q E hr h => ⟨t_Ground_need_thing K a E, ?_, p_Ground_need_thing T.cl h⟩)
  have hu := hu_of hr
  have tk0 := takes_of (X := cxOf (L2.CX P w) P w K mg base n_Ground_need_thing "Ground.need_thing" (defScope s_Ground_need_thing) f cdv A outer s H E) rfl rfl rfl rfl
  exact (pss_one (ps_if (pt_cmpR (op_notInD (hr.units65)) (pv 1) (pe_mm0 (ok_Ground_things T) hr (by decide) pass0 (pv 0)) (by rfl)) (pss_one (ps_raise rfl tk0 (pmk_own PySem.F.excBase_ValueError T.x_NoSuch T.g_NoSuch T.k_NoSuch (raises_own T.b_NoSuch T.t_NoSuch) rfl))) pss_nil))
theorem ok_Net_beyond (T : Txt w K mg a) : Mt1 P w K mg base CX0 1 a.cNet "beyond" (sp_Net_beyond K a) := by
  refine mt_mk T.f_Net_beyond sc_Net_beyond (len_Net_beyond K a) (fun f cdv A outer s H vs Q E hr h => ⟨t_Net_beyond K a, ?_, p_Net_beyond T.cl h⟩)
  have hu := hu_of hr
  exact (pss_cons (ps_set (i := 2) sc_Net_beyond.nd rfl (Or.inl rfl) pe_dnewT)
      (pss_cons (ps_set (i := 3) sc_Net_beyond.nd rfl (Or.inl rfl) (pe_lst (pa_cons (pv 1) pa_nil)))
      (pss_cons (ps_while PassesOwn.never (pt_cmpR (op_neD (hr.units)) (pv 3) (pe_lst pa_nil) (nomark _)) (pss_one (ps_for PassesOwn.never rfl (pi_list (pe_dget hu (pe_fld (pv 0) rfl) (pe_bm0 PySem.F.plainAttrs_list PySem.F.slot_list_pop PySem.F.type_list_pop mt_pop (pv 3)) (fun _ _ => rfl))) (pg_tup rfl (pgs_cons (pg_name (i := 4) sc_Net_beyond.nd rfl (Or.inl rfl)) (pgs_cons (pg_name (i := 5) sc_Net_beyond.nd rfl (Or.inl rfl)) pgs_nil))) (pss_one (ps_if (pt_cmp (pc_dnotin hu (pv 4) (pv 2)) rfl) (pss_cons (ps_dput hu (pv 2) (pv 4) pe_bl rfl)
      (pss_one (ps_expr (pe_bm PySem.F.plainAttrs_list PySem.F.slot_list_append PySem.F.type_list_append mt_append (pv 3) (pa_cons (pv 4) pa_nil))))) pss_nil)))))
      (pss_one (ps_ret (pv 2))))))
theorem ok_known_pairs (T : Txt w K mg a) : Cl1 P w K mg base CX0 2 "known_pairs" (sp_known_pairs K a) := by
  refine cl_mk T.f_known_pairs sc_known_pairs (len_known_pairs K a) (fun f cdv A outer s H vs Q E hr h => ⟨t_known_pairs K a, ?_, p_known_pairs T.cl h⟩)
  have hu := hu_of hr
  exact (pss_cons (ps_set (i := 2) sc_known_pairs.nd rfl (Or.inl rfl) (pe_lst pa_nil))
      (pss_cons (ps_for PassesOwn.never rfl (pi_list (pv 1)) (pg_name (i := 3) sc_known_pairs.nd rfl (Or.inr rfl)) (pss_cons (ps_set (i := 4) sc_known_pairs.nd rfl (Or.inr rfl) (pe_mm (ok_Net_beyond T) hr (by decide) pass0 (pv 0) (pa_cons (pv 3) pa_nil)))
      (pss_one (ps_set (i := 2) sc_known_pairs.nd rfl (Or.inl rfl) (pe_op op_cat (pv 2) (pe_lc (own := [("other", 5)]) rfl sc_known_pairs.nd (pi_list (pv 1)) (blkOk_by (own := [("other", 5)]) (N := n_known_pairs) (sc := defScope s_known_pairs) (by decide +kernel)) (fun _ _ _ _ _ => (pg_name (i := 5) sc_known_pairs.nd rfl (Or.inl rfl))) (fun _ _ _ _ _ => pts_one (pt_cmp (pc_din hu (pv 5) (pv 4)) rfl)) (fun _ _ _ _ _ => (pe_tup (pa_cons (pv 3) (pa_cons (pv 5) pa_nil))))))))))
      (pss_one (ps_ret (pv 2)))))
theorem ok_Ground_pairs (T : Txt w K mg a) : Mt1 P w K mg base CX0 4 a.cGround "pairs" (sp_Ground_pairs K a) := by
  refine mt_mk T.f_Ground_pairs sc_Ground_pairs (len_Ground_pairs K a) (fun f cdv A outer s H vs Q E hr h => ⟨t_Ground_pairs K a, ?_, p_Ground_pairs T.cl h⟩)
  have hu := hu_of hr
  exact (pss_one (ps_ret (pe_cc (ok_known_pairs T) hr (by decide) rfl pass0 (pa_cons (pe_mm (ok_Ground_net T) hr (by decide) pass0 (pv 0) (pa_cons (pe_lst pa_nil) pa_nil)) (pa_cons (pe_mm0 (ok_Ground_things T) hr (by decide) pass0 (pv 0)) pa_nil)))))
theorem ok_sooner (T : Txt w K mg a) : Cl1 P w K mg base CX0 1 "sooner" (sp_sooner K a) := by
  refine cl_mk T.f_sooner sc_sooner (len_sooner K a) (fun f cdv A outer s H vs Q E hr h => ⟨t_sooner K a, ?_, p_sooner T.cl h⟩)
  have hu := hu_of hr
  exact (pss_cons (ps_set (i := 2) sc_sooner.nd rfl (Or.inl rfl) pe_dnewT)
      (pss_cons (ps_for PassesOwn.never rfl (pi_list (pv 0)) (pg_name (i := 3) sc_sooner.nd rfl (Or.inl rfl)) (pss_one (ps_dput hu (pv 2) (pv 3) (pe_lst pa_nil) rfl)))
      (pss_cons (ps_for PassesOwn.never rfl (pi_list (pv 1)) (pg_tup rfl (pgs_cons (pg_name (i := 4) sc_sooner.nd rfl (Or.inl rfl)) (pgs_cons (pg_name (i := 5) sc_sooner.nd rfl (Or.inl rfl)) pgs_nil))) (pss_one (ps_expr (pe_bm PySem.F.plainAttrs_list PySem.F.slot_list_append PySem.F.type_list_append mt_append (pe_dget hu (pv 2) (pv 5) (fun _ _ => rfl)) (pa_cons (pv 4) pa_nil)))))
      (pss_one (ps_ret (pv 2))))))
theorem ok_first_order (T : Txt w K mg a) : Cl1 P w K mg base CX0 2 "first_order" (sp_first_order K a) := by
  refine cl_mk T.f_first_order sc_first_order (len_first_order K a) (fun f cdv A outer s H vs Q E hr h => ⟨t_first_order K a, ?_, p_first_order T.cl h⟩)
  have hu := hu_of hr
  exact (pss_cons (ps_set (i := 2) sc_first_order.nd rfl (Or.inl rfl) (pe_cc (ok_sooner T) hr (by decide) rfl pass0 (pa_cons (pv 0) (pa_cons (pv 1) pa_nil))))
      (pss_cons (ps_set (i := 3) sc_first_order.nd rfl (Or.inr rfl) (pe_lst pa_nil))
      (pss_cons (ps_while PassesOwn.never (pt_cmpR (op_lt) (pe_callB (call_len_seq) (by rfl) T.n_len (by decide +kernel) (pa_cons (pv 3) pa_nil)) (pe_callB (call_len_seq) (by rfl) T.n_len (by decide +kernel) (pa_cons (pv 0) pa_nil)) (nomark _)) (pss_one (ps_for PassesOwn.never rfl (pi_list (pv 0)) (pg_name (i := 4) sc_first_order.nd rfl (Or.inl rfl)) (pss_one (ps_if (PW.pt (pw_and (pt_cmpR (op_notInD (hr.units65)) (pv 4) (pv 3) (by rfl)) (pw_and1 (pt_cmpR (op_eqD (hr.units)) (pe_lc (own := [("one", 5)]) rfl sc_first_order.nd (pi_list (pe_dget hu (pv 2) (pv 4) (fun _ _ => rfl))) (blkOk_by (own := [("one", 5)]) (N := n_first_order) (sc := defScope s_first_order) (by decide +kernel)) (fun _ _ _ _ _ => (pg_name (i := 5) sc_first_order.nd rfl (Or.inl rfl))) (fun _ _ _ _ _ => pts_one (pt_cmpR (op_notInD (hr.units65)) (pv 5) (pv 3) (by rfl))) (fun _ _ _ _ _ => (pv 5))) (pe_lst pa_nil) (nomark _))))) (pss_cons (ps_expr (pe_bm PySem.F.plainAttrs_list PySem.F.slot_list_append PySem.F.type_list_append mt_append (pv 3) (pa_cons (pv 4) pa_nil)))
      (pss_one ps_break)) pss_nil)))))
      (pss_one (ps_ret (pv 3))))))
theorem ok_order_with (T : Txt w K mg a) : Cl1 P w K mg base CX0 3 "order_with" (sp_order_with K a) := by
  refine cl_mk T.f_order_with sc_order_with (len_order_with K a) (fun f cdv A outer s H vs Q E hr h => ⟨t_order_with K a, ?_, p_order_with T.cl h⟩)
  have hu := hu_of hr
  exact (pss_cons (ps_set (i := 4) sc_order_with.nd rfl (Or.inl rfl) (pe_callTy (call_list_of) (by rfl) T.n_list (by decide +kernel) (pa_cons (pv 1) pa_nil)))
      (pss_cons (ps_for PassesOwn.never rfl (pi_list (pe_op op_cat (pe_lst (pa_cons (pv 2) pa_nil)) (pe_lc (own := [("pair", 7)]) rfl sc_order_with.nd (pi_list (pv 1)) (blkOk_by (own := [("pair", 7)]) (N := n_order_with) (sc := defScope s_order_with) (by decide +kernel)) (fun _ _ _ _ _ => (pg_name (i := 7) sc_order_with.nd rfl (Or.inl rfl))) (fun _ _ _ _ _ => pts_one (pt_cmpR (op_eqD (hr.units)) (pe_ix ix_tup (pv 7) pe_int (fun _ _ => rfl)) (pv 2) (nomark _))) (fun _ _ _ _ _ => (pe_ix ix_tup (pv 7) pe_int (fun _ _ => rfl)))))) (pg_name (i := 5) sc_order_with.nd rfl (Or.inl rfl)) (pss_one (ps_for PassesOwn.never rfl (pi_list (pe_op op_cat (pe_lst (pa_cons (pv 3) pa_nil)) (pe_lc (own := [("pair", 7)]) rfl sc_order_with.nd (pi_list (pv 1)) (blkOk_by (own := [("pair", 7)]) (N := n_order_with) (sc := defScope s_order_with) (by decide +kernel)) (fun _ _ _ _ _ => (pg_name (i := 7) sc_order_with.nd rfl (Or.inl rfl))) (fun _ _ _ _ _ => pts_one (pt_cmpR (op_eqD (hr.units)) (pe_ix ix_tup (pv 7) pe_int (fun _ _ => rfl)) (pv 3) (nomark _))) (fun _ _ _ _ _ => (pe_ix ix_tup (pv 7) pe_int (fun _ _ => rfl)))))) (pg_name (i := 6) sc_order_with.nd rfl (Or.inl rfl)) (pss_one (ps_if (pt_cmpR (op_notInD (hr.units65)) (pe_tup (pa_cons (pv 5) (pa_cons (pv 6) pa_nil))) (pv 4) (by rfl)) (pss_one (ps_expr (pe_bm PySem.F.plainAttrs_list PySem.F.slot_list_append PySem.F.type_list_append mt_append (pv 4) (pa_cons (pe_tup (pa_cons (pv 5) (pa_cons (pv 6) pa_nil))) pa_nil)))) pss_nil)))))
      (pss_one (ps_ret (pe_cc (ok_first_order T) hr (by decide) rfl pass0 (pa_cons (pv 0) (pa_cons (pv 4) pa_nil)))))))
theorem ok_Ground_before (T : Txt w K mg a) : Mt1 P w K mg base (L2.CX P w) 5 a.cGround "before" (sp_Ground_before K a) := by
  refine mt_mkX T.f_Ground_before sc_Ground_before (len_Ground_before K a) (fun f cdv A outer s H vs Q E hr h => ⟨t_Ground_before K a E, ?_, p_Ground_before T.cl h⟩)
  have hu := hu_of hr
  have tk0 := takes_of (X := cxOf (L2.CX P w) P w K mg base n_Ground_before "Ground.before" (defScope s_Ground_before) f cdv A outer s H E) rfl rfl rfl rfl
  exact (pss_cons (ps_expr (pe_mm (ok_Ground_need_thing T) hr (by decide) (passes_call tk0 (fun _ _ _ _ h => h)) (pv 0) (pa_cons (pv 1) pa_nil)))
      (pss_cons (ps_expr (pe_mm (ok_Ground_need_thing T) hr (by decide) (passes_call tk0 (fun _ _ _ _ h => h)) (pv 0) (pa_cons (pv 2) pa_nil)))
      (pss_cons (ps_if (pt_cmpR (op_eqD (hr.units)) (pv 1) (pv 2) (nomark _)) (pss_one (ps_raise rfl tk0 (pmk_own PySem.F.excBase_ValueError T.x_NoSuch T.g_NoSuch T.k_NoSuch (raises_own T.b_NoSuch T.t_NoSuch) rfl))) pss_nil)
      (pss_cons (ps_set (i := 3) sc_Ground_before.nd rfl (Or.inl rfl) (pe_mm (ok_Ground_net T) hr (by decide) pass0 (pv 0) (pa_cons (pe_lst pa_nil) pa_nil)))
      (pss_cons (ps_set (i := 4) sc_Ground_before.nd rfl (Or.inl rfl) (pe_mm (ok_Net_way T) hr (by decide) pass0 (pv 3) (pa_cons (pv 1) (pa_cons (pv 2) pa_nil))))
      (pss_cons (ps_if (pt_cmp (pc_notN (pv 4)) rfl) (pss_one (ps_ret (pe_tup (pa_cons pe_str (pa_cons (pv 4) pa_nil))))) pss_nil)
      (pss_cons (ps_set (i := 4) sc_Ground_before.nd rfl (Or.inl rfl) (pe_mm (ok_Net_way T) hr (by decide) pass0 (pv 3) (pa_cons (pv 2) (pa_cons (pv 1) pa_nil))))
      (pss_cons (ps_if (pt_cmp (pc_notN (pv 4)) rfl) (pss_one (ps_ret (pe_tup (pa_cons pe_str (pa_cons (pv 4) pa_nil))))) pss_nil)
      (pss_cons (ps_set (i := 5) sc_Ground_before.nd rfl (Or.inl rfl) (pe_mm0 (ok_Ground_pairs T) hr (by decide) pass0 (pv 0)))
      (pss_cons (ps_set (i := 6) sc_Ground_before.nd rfl (Or.inl rfl) (pe_mm0 (ok_Ground_things T) hr (by decide) pass0 (pv 0)))
      (pss_one (ps_ret (pe_tup (pa_cons pe_str (pa_cons (pe_cc (ok_order_with T) hr (by decide) rfl pass0 (pa_cons (pv 6) (pa_cons (pv 5) (pa_cons (pv 1) (pa_cons (pv 2) pa_nil))))) (pa_cons (pe_cc (ok_order_with T) hr (by decide) rfl pass0 (pa_cons (pv 6) (pa_cons (pv 5) (pa_cons (pv 2) (pa_cons (pv 1) pa_nil))))) pa_nil))))))))))))))))
theorem ok_Ground_settle (T : Txt w K mg a) : Mt1 P w K mg base (L2.CX P w) 5 a.cGround "settle" (sp_Ground_settle K a) := by
  refine mt_mkX T.f_Ground_settle sc_Ground_settle (len_Ground_settle K a) (fun f cdv A outer s H vs Q E hr h => ⟨t_Ground_settle K a E, ?_, p_Ground_settle T.cl h⟩)
  have hu := hu_of hr
  have tk0 := takes_of (X := cxOf (L2.CX P w) P w K mg base n_Ground_settle "Ground.settle" (defScope s_Ground_settle) f cdv A outer s H E) rfl rfl rfl rfl
  exact (pss_cons (ps_if (pt_cmp (pc_dnotin hu (pv 1) (pe_fld (pv 0) rfl)) rfl) (pss_one (ps_raise rfl tk0 (pmk_own PySem.F.excBase_ValueError T.x_NoSuch T.g_NoSuch T.k_NoSuch (raises_own T.b_NoSuch T.t_NoSuch) rfl))) pss_nil)
      (pss_cons (ps_set (i := 3) sc_Ground_settle.nd rfl (Or.inl rfl) (pe_dget hu (pe_fld (pv 0) rfl) (pv 1) (fun _ _ => rfl)))
      (pss_cons (ps_if (pt_cmpR (op_notIn_seq) (pv 2) (pv 3) (by rfl)) (pss_one (ps_raise rfl tk0 (pmk_own PySem.F.excBase_ValueError T.x_NoFact T.g_NoFact T.k_NoFact (raises_own T.b_NoFact T.t_NoFact) rfl))) pss_nil)
      (pss_cons (ps_set (i := 4) sc_Ground_settle.nd rfl (Or.inl rfl) (pe_ix ix_tup (pv 3) (pe_callTy (call_int1) (by rfl) T.n_int (by decide +kernel) (pa_cons (pe_cmpR (op_eqD (hr.units)) (pv 2) (pe_ix ix_tup (pv 3) pe_int (fun _ _ => rfl)) (nomark _)) pa_nil)) (fun _ _ => rfl)))
      (pss_cons (ps_set (i := 5) sc_Ground_settle.nd rfl (Or.inl rfl) (pe_mm (ok_Ground_ring_of T) hr (by decide) pass0 (pv 0) (pa_cons (pe_tup (pa_cons pe_str (pa_cons (pv 2) (pa_cons (pv 4) pa_nil)))) pa_nil)))
      (pss_cons (ps_if (pt_cmp (pc_notN (pv 5)) rfl) (pss_one (ps_raise rfl tk0 (pmk_o1 (ok_Ring_init T) hr (by decide) rfl (pa_cons (pv 5) pa_nil)))) pss_nil)
      (pss_cons (ps_expr (pe_dpop1 (pe_fld (pv 0) rfl) (pv 1) ⟨rfl, rfl, rfl, rfl⟩))
      (pss_cons (ps_dput hu (pe_fld (pv 0) rfl) (pv 1) (pe_tup (pa_cons pe_str (pa_cons (pv 2) (pa_cons (pv 4) pa_nil)))) rfl)
      (pss_one (ps_ret (pv 1)))))))))))
theorem ok_Ground_take (T : Txt w K mg a) : Mt1 P w K mg base (L2.CX P w) 1 a.cGround "take" (sp_Ground_take K a) := by
  refine mt_mkX T.f_Ground_take sc_Ground_take (len_Ground_take K a) (fun f cdv A outer s H vs Q E hr h => ⟨t_Ground_take K a E, ?_, p_Ground_take T.cl h⟩)
  have hu := hu_of hr
  have tk0 := takes_of (X := cxOf (L2.CX P w) P w K mg base n_Ground_take "Ground.take" (defScope s_Ground_take) f cdv A outer s H E) rfl rfl rfl rfl
  exact (pss_one (ps_if (pt_cmp (pc_din hu (pv 1) (pe_fld (pv 0) rfl)) rfl) (pss_one (ps_expr (pe_dpop1 (pe_fld (pv 0) rfl) (pv 1) ⟨rfl, rfl, rfl, rfl⟩))) (pss_one (ps_if (pt_cmp (pc_din hu (pv 1) (pe_fld (pv 0) rfl)) rfl) (pss_one (ps_expr (pe_dpop1 (pe_fld (pv 0) rfl) (pv 1) ⟨rfl, rfl, rfl, rfl⟩))) (pss_one (ps_raise rfl tk0 (pmk_own PySem.F.excBase_ValueError T.x_NoSuch T.g_NoSuch T.k_NoSuch (raises_own T.b_NoSuch T.t_NoSuch) rfl)))))))
theorem ok_Ground_leans (T : Txt w K mg a) : Mt1 P w K mg base (L2.CX P w) 5 a.cGround "leans" (sp_Ground_leans K a) := by
  refine mt_mkX T.f_Ground_leans sc_Ground_leans (len_Ground_leans K a) (fun f cdv A outer s H vs Q E hr h => ⟨t_Ground_leans K a E, ?_, p_Ground_leans T.cl h⟩)
  have hu := hu_of hr
  have tk0 := takes_of (X := cxOf (L2.CX P w) P w K mg base n_Ground_leans "Ground.leans" (defScope s_Ground_leans) f cdv A outer s H E) rfl rfl rfl rfl
  exact (pss_cons (ps_if (pt_cmp (pc_dnotin hu (pv 1) (pe_fld (pv 0) rfl)) rfl) (pss_one (ps_raise rfl tk0 (pmk_own PySem.F.excBase_ValueError T.x_NoSuch T.g_NoSuch T.k_NoSuch (raises_own T.b_NoSuch T.t_NoSuch) rfl))) pss_nil)
      (pss_cons (ps_set (i := 2) sc_Ground_leans.nd rfl (Or.inr rfl) (pe_cc (ok_known_pairs T) hr (by decide) rfl pass0 (pa_cons (pe_mm (ok_Ground_net T) hr (by decide) pass0 (pv 0) (pa_cons (pe_lst (pa_cons (pv 1) pa_nil)) pa_nil)) (pa_cons (pe_mm0 (ok_Ground_things T) hr (by decide) pass0 (pv 0)) pa_nil))))
      (pss_one (ps_ret (pe_lc (own := [("pair", 3)]) rfl sc_Ground_leans.nd (pi_list (pe_mm0 (ok_Ground_pairs T) hr (by decide) pass0 (pv 0))) (blkOk_by (own := [("pair", 3)]) (N := n_Ground_leans) (sc := defScope s_Ground_leans) (by decide +kernel)) (fun _ _ _ _ _ => (pg_name (i := 3) sc_Ground_leans.nd rfl (Or.inl rfl))) (fun _ _ _ _ _ => pts_one (pt_cmpR (op_notInD (hr.units65)) (pv 3) (pv 2) (by rfl))) (fun _ _ _ _ _ => (pv 3)))))))
theorem ok_w_asked (T : Txt w K mg a) : Cl1 P w K mg base CX0 6 "_law_asked" (sp_w_asked K a) := by
  refine cl_mk T.f_w_asked sc_w_asked (len_w_asked K a) (fun f cdv A outer s H vs Q E hr h => ⟨t_w_asked K a, ?_, p_w_asked T.cl ⟨T.ex_NoFact_TrackError, T.ex_NoSuch_TrackError, T.ex_Full_TrackError, T.ex_Ring_TrackError⟩ h⟩)
  have hu := hu_of hr
  exact (pss_cons (ps_try_manyB (i := 4) (n := "_law_e") (tb := fun W => (tIfS (tTest (tOp (rEqD K) (tVar 1) (tC (.int 0)))) (tDrop (tMethT a.cGround "before" (sp_Ground_before K a) (WE W) (tVar 0) (tCons (tVar 2) (tCons (tVar 3) tNil)))) (tIfS (tTest (tOp (rEqD K) (tVar 1) (tC (.int 1)))) (tDrop (tMethT a.cGround "tell" (sp_Ground_tell K a) (WE W) (tVar 0) (tCons (tVar 2) tNil))) (tIfS (tTest (tOp (rEqD K) (tVar 1) (tC (.int 2)))) (tDrop (tMethT a.cGround "cross" (sp_Ground_cross K a) (WE W) (tVar 0) (tCons (tVar 2) (tCons (tVar 3) tNil)))) (tIfS (tTest (tOp (rEqD K) (tVar 1) (tC (.int 3)))) (tDrop (tMethT a.cGround "settle" (sp_Ground_settle K a) (WE W) (tVar 0) (tCons (tVar 2) (tCons (tVar 3) tNil)))) (tIfS (tTest (tOp (rEqD K) (tVar 1) (tC (.int 4)))) (tDrop (tMethT a.cGround "take" (sp_Ground_take K a) (WE W) (tVar 0) (tCons (tVar 2) tNil))) (tDrop (tMethT a.cGround "leans" (sp_Ground_leans K a) (WE W) (tVar 0) (tCons (tVar 2) tNil))))))))) (Wout := fun _ _ _ _ => False) (l := [(Value.ref a.cTrackError, fun b cls d => tRet (tCallX b cls d (sp_w_word_of K a) (tCons (tVar 4) tNil)))]) rfl rfl sc_w_asked.nd rfl rfl takes0 (fun W pn xe tk _ => by exact (pss_one (ps_if (pt_cmpR (op_eqD (hr.units)) (pv 1) pe_int (nomark _)) (pss_one (ps_expr (pe_mmT (ok_Ground_before T) hr (by decide) (fun σ => passAt tk σ) (pv 0) (pa_cons (pv 2) (pa_cons (pv 3) pa_nil))))) (pss_one (ps_if (pt_cmpR (op_eqD (hr.units)) (pv 1) pe_int (nomark _)) (pss_one (ps_expr (pe_mmT (ok_Ground_tell T) hr (by decide) (fun σ => passAt tk σ) (pv 0) (pa_cons (pv 2) pa_nil)))) (pss_one (ps_if (pt_cmpR (op_eqD (hr.units)) (pv 1) pe_int (nomark _)) (pss_one (ps_expr (pe_mmT (ok_Ground_cross T) hr (by decide) (fun σ => passAt tk σ) (pv 0) (pa_cons (pv 2) (pa_cons (pv 3) pa_nil))))) (pss_one (ps_if (pt_cmpR (op_eqD (hr.units)) (pv 1) pe_int (nomark _)) (pss_one (ps_expr (pe_mmT (ok_Ground_settle T) hr (by decide) (fun σ => passAt tk σ) (pv 0) (pa_cons (pv 2) (pa_cons (pv 3) pa_nil))))) (pss_one (ps_if (pt_cmpR (op_eqD (hr.units)) (pv 1) pe_int (nomark _)) (pss_one (ps_expr (pe_mmT (ok_Ground_take T) hr (by decide) (fun σ => passAt tk σ) (pv 0) (pa_cons (pv 2) pa_nil)))) (pss_one (ps_expr (pe_mmT (ok_Ground_leans T) hr (by decide) (fun σ => passAt tk σ) (pv 0) (pa_cons (pv 2) pa_nil))))))))))))))) (by exact (HdsB.cons (by exact ⟨rfl, by decide, .inl T.g_TrackError⟩) (fun b oe cls d pn hz hf hbs => by exact (pss_one (ps_ret (pe_callX (ok_w_word_of T) hr (by decide) ⟨hz, hf⟩ hbs rfl (pa_cons (pv 4) pa_nil))))) HdsB.nil))) (pss_one (ps_ret pe_str)))
theorem ok_Ground_told (T : Txt w K mg a) : Mt1 P w K mg base CX0 1 a.cGround "told" (sp_Ground_told K a) := by
  refine mt_mk T.f_Ground_told sc_Ground_told (len_Ground_told K a) (fun f cdv A outer s H vs Q E hr h => ⟨t_Ground_told K a, ?_, p_Ground_told T.cl h⟩)
  have hu := hu_of hr
  exact (pss_one (ps_ret (pe_tup (pa_cons (pe_callTy (call_dictD) (by rfl) T.n_dict (by decide +kernel) (pa_cons (pe_fld (pv 0) rfl) pa_nil)) (pa_cons (pe_callTy (call_dictD) (by rfl) T.n_dict (by decide +kernel) (pa_cons (pe_fld (pv 0) rfl) pa_nil)) pa_nil)))))
theorem ok_w_is_full_right (T : Txt w K mg a) : Cl1 P w K mg base CX0 7 "_law_is_full_right" (sp_w_is_full_right K a) := by
  refine cl_mk T.f_w_is_full_right sc_w_is_full_right (len_w_is_full_right K a) (fun f cdv A outer s H vs Q E hr h => ⟨t_w_is_full_right K a, ?_, p_w_is_full_right T.cl h⟩)
  have hu := hu_of hr
  exact (pss_cons (ps_for PassesOwn.never rfl (pi_range1 rfl T.n_range (pa_cons pe_int pa_nil)) (pg_name (i := 4) sc_w_is_full_right.nd rfl (Or.inl rfl)) (pss_one (ps_expr (pe_mm (ok_Ground_tell T) hr (by decide) passL (pv 1) (pa_cons (pe_tup (pa_cons pe_str (pa_cons pe_str (pa_cons pe_str pa_nil)))) pa_nil)))))
      (pss_cons (ps_if (PW.pt (pw_or (pt_cmpR (op_neD (hr.units)) (pe_cc (ok_w_asked T) hr (by decide) rfl pass0 (pa_cons (pv 1) (pa_cons pe_int (pa_cons (pe_tup (pa_cons pe_str (pa_cons pe_str (pa_cons pe_str pa_nil)))) (pa_cons pe_non pa_nil))))) pe_str (nomark _)) (pw_or1 (pt_cmpR (op_neD (hr.units)) (pe_cc (ok_w_asked T) hr (by decide) rfl pass0 (pa_cons (pv 1) (pa_cons pe_int (pa_cons pe_str (pa_cons pe_str pa_nil))))) pe_str (nomark _))))) (pss_one (ps_ret pe_bl)) pss_nil)
      (pss_cons (ps_if (PW.pt (pw_or (pt_cmpR (op_neD (hr.units)) (pe_cc (ok_w_asked T) hr (by decide) rfl pass0 (pa_cons (pv 1) (pa_cons pe_int (pa_cons (pe_ix ix_list (pv 3) (pe_cc (ok_w_taken T) hr (by decide) rfl pass0 (pa_cons (pv 0) (pa_cons pe_int pa_nil))) (fun _ _ => rfl)) (pa_cons pe_non pa_nil))))) pe_str (nomark _)) (pw_or1 (pt_cmpR (op_neD (hr.units)) (pe_callB call_lenD (by rfl) T.n_len (by decide +kernel) (pa_cons (pe_ix ix_tup (pe_mm0 (ok_Ground_told T) hr (by decide) pass0 (pv 1)) pe_int (fun _ _ => rfl)) pa_nil)) pe_int (nomark _))))) (pss_one (ps_ret pe_bl)) pss_nil)
      (pss_cons (ps_if (pt_cmpR (op_neD (hr.units)) (pe_cc (ok_w_asked T) hr (by decide) rfl pass0 (pa_cons (pv 1) (pa_cons pe_int (pa_cons pe_str (pa_cons (pe_ix ix_list (pe_lst (pa_cons pe_str (pa_cons pe_str (pa_cons pe_str pa_nil)))) (pe_cc (ok_w_taken T) hr (by decide) rfl pass0 (pa_cons (pv 0) (pa_cons pe_int pa_nil))) (fun _ _ => rfl)) pa_nil))))) pe_str (nomark _)) (pss_one (ps_ret pe_bl)) pss_nil)
      (pss_cons (ps_if (PW.pt (pw_or (pt_cmpR (op_neD (hr.units)) (pe_mm (ok_Ground_settle T) hr (by decide) passL (pv 1) (pa_cons (pv 2) (pa_cons pe_str pa_nil))) (pv 2) (nomark _)) (pw_or (pt_cmpR (op_ne_dict0 (Nat.lt_of_succ_lt hu)) (pe_ix ix_tup (pe_mm0 (ok_Ground_told T) hr (by decide) pass0 (pv 1)) pe_int (fun _ _ => rfl)) pe_dnewK (nomark _)) (pw_or1 (pt_cmpR (op_neD (hr.units)) (pe_callB call_lenD (by rfl) T.n_len (by decide +kernel) (pa_cons (pe_ix ix_tup (pe_mm0 (ok_Ground_told T) hr (by decide) pass0 (pv 1)) pe_int (fun _ _ => rfl)) pa_nil)) pe_int (nomark _)))))) (pss_one (ps_ret pe_bl)) pss_nil)
      (pss_cons (ps_expr (pe_mm (ok_Ground_take T) hr (by decide) passL (pv 1) (pa_cons pe_int pa_nil)))
      (pss_one (ps_ret (pe_and (pe_cmpR (op_eqD (hr.units)) (pe_cc (ok_w_asked T) hr (by decide) rfl pass0 (pa_cons (pv 1) (pa_cons pe_int (pa_cons pe_int (pa_cons pe_non pa_nil))))) pe_str (nomark _)) (pe_one (pe_cmpR (op_eqD (hr.units)) (pe_cc (ok_w_asked T) hr (by decide) rfl pass0 (pa_cons (pv 1) (pa_cons pe_int (pa_cons pe_int (pa_cons pe_non pa_nil))))) pe_str (nomark _))))))))))))
theorem ok_law (T : Txt w K mg a) : Cl1 P w K mg base CX0 8 "law" (sp_law K a) := by
  refine cl_mk T.f_law sc_law (len_law K a) (fun f cdv A outer s H vs Q E hr h => ⟨t_law K a, ?_, p_law T.cl h⟩)
  have hu := hu_of hr
  exact (pss_cons (ps_set (i := 1) sc_law.nd rfl (Or.inl rfl) (pe_lst (pa_cons (pv 0) (pa_cons pe_int (pa_cons pe_int pa_nil)))))
      (pss_cons (ps_if (pt_not (pt_val (pe_cc (ok_w_names_refused T) hr (by decide) rfl pass0 (pa_cons (pv 1) pa_nil)))) (pss_one (ps_ret pe_bl)) pss_nil)
      (pss_cons (ps_set (i := 2) sc_law.nd rfl (Or.inr rfl) (pe_mk1 (ok_Ground_init10 T) hr (by decide) rfl passL (pa_cons (pe_lst (pa_cons pe_str (pa_cons pe_str (pa_cons pe_str pa_nil)))) (pa_cons (pe_lst (pa_cons pe_str pa_nil)) pa_nil))))
      (pss_cons (ps_set (i := 3) sc_law.nd rfl (Or.inl rfl) (pe_mm (ok_Ground_cross T) hr (by decide) passL (pv 2) (pa_cons pe_str (pa_cons pe_str pa_nil))))
      (pss_cons (ps_expr (pe_mm (ok_Ground_tell T) hr (by decide) passL (pv 2) (pa_cons (pe_tup (pa_cons pe_str (pa_cons pe_str (pa_cons pe_str pa_nil)))) pa_nil)))
      (pss_cons (ps_set (i := 4) sc_law.nd rfl (Or.inl rfl) (pe_op op_add pe_int (pe_cc (ok_w_taken T) hr (by decide) rfl pass0 (pa_cons (pv 1) (pa_cons pe_int pa_nil)))))
      (pss_cons (ps_set (i := 5) sc_law.nd rfl (Or.inl rfl) (pe_tup (pa_cons pe_str (pa_cons pe_str pa_nil))))
      (pss_cons (ps_set (i := 6) sc_law.nd rfl (Or.inl rfl) (pe_lst (pa_cons (pe_tup (pa_cons pe_int (pa_cons (pv 5) (pa_cons (pv 5) pa_nil)))) (pa_cons (pe_tup (pa_cons pe_int (pa_cons (pv 5) (pa_cons (pe_tup (pa_cons pe_str (pa_cons pe_str pa_nil))) pa_nil)))) (pa_cons (pe_tup (pa_cons pe_int (pa_cons (pe_tup (pa_cons pe_str (pa_cons pe_str pa_nil))) (pa_cons (pv 5) pa_nil)))) (pa_cons (pe_tup (pa_cons pe_int (pa_cons (pv 5) (pa_cons (pe_tup (pa_cons pe_str (pa_cons pe_str pa_nil))) pa_nil)))) pa_nil))))))
      (pss_cons (ps_set (i := 6) sc_law.nd rfl (Or.inl rfl) (pe_op op_cat (pv 6) (pe_lst (pa_cons (pe_tup (pa_cons pe_int (pa_cons (pv 4) (pa_cons pe_str pa_nil)))) (pa_cons (pe_tup (pa_cons pe_int (pa_cons pe_int (pa_cons pe_str pa_nil)))) (pa_cons (pe_tup (pa_cons pe_int (pa_cons (pv 4) (pa_cons pe_non pa_nil)))) (pa_cons (pe_tup (pa_cons pe_int (pa_cons (pe_op op_sub pe_int (pv 4)) (pa_cons pe_non pa_nil)))) pa_nil)))))))
      (pss_cons (ps_set (i := 6) sc_law.nd rfl (Or.inl rfl) (pe_op op_cat (pv 6) (pe_lst (pa_cons (pe_tup (pa_cons pe_int (pa_cons (pv 3) (pa_cons pe_non pa_nil)))) (pa_cons (pe_tup (pa_cons pe_int (pa_cons (pv 4) (pa_cons pe_non pa_nil)))) pa_nil)))))
      (pss_cons (ps_if (pt_cmpR (op_neD (hr.units)) (pe_lc (own := [("_law_ask", 8)]) rfl sc_law.nd (pi_list (pv 6)) (blkOk_by (own := [("_law_ask", 8)]) (N := n_law) (sc := defScope s_law) (by decide +kernel)) (fun _ _ _ _ _ => (pg_name (i := 8) sc_law.nd rfl (Or.inl rfl))) (fun _ _ _ _ _ => pts_one (pt_cmpR (op_neD (hr.units)) (pe_cc (ok_w_asked T) hr (by decide) rfl pass0 (pa_cons (pv 2) (pa_cons (pe_ix ix_tup (pv 8) pe_int (fun _ _ => rfl)) (pa_cons (pe_ix ix_tup (pv 8) pe_int (fun _ _ => rfl)) (pa_cons (pe_ix ix_tup (pv 8) pe_int (fun _ _ => rfl)) pa_nil))))) pe_str (nomark _))) (fun _ _ _ _ _ => (pv 8))) (pe_lst pa_nil) (nomark _)) (pss_one (ps_ret pe_bl)) pss_nil)
      (pss_cons (ps_set (i := 7) sc_law.nd rfl (Or.inl rfl) (pe_lst (pa_cons (pe_tup (pa_cons pe_str (pa_cons pe_str (pa_cons pe_str pa_nil)))) (pa_cons (pe_tup (pa_cons pe_str (pa_cons pe_str (pa_cons pe_str pa_nil)))) (pa_cons (pe_tup (pa_cons pe_str (pa_cons pe_str (pa_cons pe_str pa_nil)))) (pa_cons (pe_tup (pa_cons pe_str (pa_cons pe_str (pa_cons pe_str pa_nil)))) (pa_cons (pe_tup pa_nil) pa_nil)))))))
      (pss_cons (ps_set (i := 7) sc_law.nd rfl (Or.inl rfl) (pe_op op_cat (pv 7) (pe_lst (pa_cons (pe_tup (pa_cons pe_str (pa_cons pe_str (pa_cons pe_str pa_nil)))) (pa_cons (pe_tup (pa_cons pe_str (pa_cons pe_str pa_nil))) (pa_cons (pe_tup (pa_cons pe_str (pa_cons pe_str (pa_cons pe_str (pa_cons pe_str pa_nil))))) (pa_cons (pe_tup (pa_cons pe_str (pa_cons pe_str (pa_cons pe_str pa_nil)))) pa_nil)))))))
      (pss_cons (ps_if (pt_cmpR (op_neD (hr.units)) (pe_lc (own := [("_law_fact", 9)]) rfl sc_law.nd (pi_list (pv 7)) (blkOk_by (own := [("_law_fact", 9)]) (N := n_law) (sc := defScope s_law) (by decide +kernel)) (fun _ _ _ _ _ => (pg_name (i := 9) sc_law.nd rfl (Or.inl rfl))) (fun _ _ _ _ _ => pts_one (pt_cmpR (op_neD (hr.units)) (pe_cc (ok_w_asked T) hr (by decide) rfl pass0 (pa_cons (pv 2) (pa_cons pe_int (pa_cons (pv 9) (pa_cons pe_non pa_nil))))) pe_str (nomark _))) (fun _ _ _ _ _ => (pv 9))) (pe_lst pa_nil) (nomark _)) (pss_one (ps_ret pe_bl)) pss_nil)
      (pss_cons (ps_if (PW.pt (pw_or (pt_cmpR (op_neD (hr.units)) (pe_cc (ok_w_asked T) hr (by decide) rfl pass0 (pa_cons (pv 2) (pa_cons pe_int (pa_cons pe_str (pa_cons pe_str pa_nil))))) pe_str (nomark _)) (pw_or1 (pt_cmpR (op_neD (hr.units)) (pe_cc (ok_w_asked T) hr (by decide) rfl pass0 (pa_cons (pv 2) (pa_cons pe_int (pa_cons (pv 3) (pa_cons pe_str pa_nil))))) pe_str (nomark _))))) (pss_one (ps_ret pe_bl)) pss_nil)
      (pss_cons (ps_if (pt_cmpR (op_neD (hr.units)) (pe_cc (ok_w_asked T) hr (by decide) rfl pass0 (pa_cons (pv 2) (pa_cons pe_int (pa_cons (pe_tup (pa_cons pe_str (pa_cons pe_str (pa_cons pe_str pa_nil)))) (pa_cons pe_non pa_nil))))) pe_str (nomark _)) (pss_one (ps_ret pe_bl)) pss_nil)
      (pss_cons (ps_expr (pe_mm (ok_Ground_tell T) hr (by decide) passL (pv 2) (pa_cons (pe_tup (pa_cons pe_str (pa_cons pe_str (pa_cons pe_str pa_nil)))) pa_nil)))
      (pss_cons (ps_if (PW.pt (pw_or (pt_cmpR (op_neD (hr.units)) (pe_cc (ok_w_asked T) hr (by decide) rfl pass0 (pa_cons (pv 2) (pa_cons pe_int (pa_cons (pv 3) (pa_cons pe_str pa_nil))))) pe_str (nomark _)) (pw_or1 (pt_cmpR (op_neDD hr.units70) (pe_ix ix_tup (pe_mm0 (ok_Ground_told T) hr (by decide) pass0 (pv 2)) pe_int (fun _ _ => rfl)) (pe_disp (pps_cons (pv 3) (pe_tup (pa_cons pe_str (pa_cons pe_str pa_nil))) pps_nil) (by rfl) (by rfl) (fun z => by cases z) (by decide)) (nomark _))))) (pss_one (ps_ret pe_bl)) pss_nil)
      (pss_one (ps_ret (pe_cc (ok_w_is_full_right T) hr (by decide) rfl pass0 (pa_cons (pv 1) (pa_cons (pv 2) (pa_cons (pv 3) (pa_cons (pv 7) pa_nil)))))))))))))))))))))))))
end
end TK


namespace TK
open PySem L2 PySem.Spec PyProof.Rows
open Enc (enc)
theorem exm_gen {K : PySem.W.Frag} {C S : Addr} {b : Bool} (h1 : PySem.W.subIn K (.ref S) (.type "BaseException") = some true) (h2 : PySem.W.isClsIn K S = true) (h3 : PySem.W.typeIn K (.ref S) = some (.type "type")) (h4 : PySem.W.subIn K (.ref C) (.ref S) = some b) :
    PySem.W.exmOne K (.ref C) (.ref S) = some b := by
  have q1 : (PySem.W.subIn K (.ref S) (.type "BaseException") == some true) = true := by rw [h1] <;> rfl
  have q2 : ((PySem.W.clsIn K S).isSome && PySem.W.typeIn K (.ref S) == some (.type "type")) = true := by
    have h : (PySem.W.clsIn K S).isSome = true := h2
    rw [h, h3] <;> rfl
  show (if (PySem.W.subIn K (.ref S) (.type "BaseException") == some true) = true then (if ((PySem.W.clsIn K S).isSome && PySem.W.typeIn K (.ref S) == some (.type "type")) = true then PySem.W.subIn K (.ref C) (.ref S) else none) else none) = some b
  rw [if_pos q1, if_pos q2]
  exact h4
theorem kit_ve {K : PySem.W.Frag} {C : Addr} {b : Bool} (h : PySem.W.subIn K (.ref C) (.type "ValueError") = some b) : PySem.W.kitOne K (.ref C) (.type "ValueError") = some b := by
  have e1 : (Value.ref C == Value.type "ValueError") = false := rfl
  have e2 : PySem.W.kitMeta "ValueError" = true := by decide +kernel
  show (if (Value.ref C == Value.type "ValueError") = true then some true else (if PySem.W.kitMeta "ValueError" = true then PySem.W.subIn K (.ref C) (.type "ValueError") else none)) = some b
  rw [e1, if_neg (by decide), if_pos e2]
  exact h
theorem kit_self {K : PySem.W.Frag} {C : Addr} : PySem.W.kitOne K (.ref C) (.ref C) = some true := by
  show (if (Value.ref C == Value.ref C) = true then some true else _) = some true
  rw [if_pos (by simp)]
theorem kit_own {K : PySem.W.Frag} {C D : Addr} {b : Bool} (hne : (Value.ref C == Value.ref D) = false) (i : PySem.W.isClsIn K D = true) (t : PySem.W.typeIn K (.ref D) = some (.type "type")) (h : PySem.W.subIn K (.ref C) (.ref D) = some b) : PySem.W.kitOne K (.ref C) (.ref D) = some b := by
  have q2 : ((PySem.W.clsIn K D).isSome && PySem.W.typeIn K (.ref D) == some (.type "type")) = true := by
    have h : (PySem.W.clsIn K D).isSome = true := i
    rw [h, t] <;> rfl
  show (if (Value.ref C == Value.ref D) = true then some true else (if ((PySem.W.clsIn K D).isSome && PySem.W.typeIn K (.ref D) == some (.type "type")) = true then PySem.W.subIn K (.ref C) (.ref D) else none)) = some b
  rw [hne, if_neg (by decide), if_pos q2]
  exact h
theorem ok_lawF {P : Program} {w : World} {K : PySem.W.Frag} {mg : Str → Option Value} {base : Heap} {a : Ad} {fa : Addr} {fd : FuncData} (T : Txt w K mg a) (F : Fun K "law" "law" s_law fa fd) : FnOk P w K mg base CX0 8 fa fd ["_law_script"] (sp_law K a) := by
  refine F.ok sc_law (len_law K a) (fun cdv A outer s H vs Q E hr h => ⟨t_law K a, ?_, p_law T.cl h⟩)
  have hu := hu_of hr
  exact (pss_cons (ps_set (i := 1) sc_law.nd rfl (Or.inl rfl) (pe_lst (pa_cons (pv 0) (pa_cons pe_int (pa_cons pe_int pa_nil)))))
      (pss_cons (ps_if (pt_not (pt_val (pe_cc (ok_w_names_refused T) hr (by decide) rfl pass0 (pa_cons (pv 1) pa_nil)))) (pss_one (ps_ret pe_bl)) pss_nil)
      (pss_cons (ps_set (i := 2) sc_law.nd rfl (Or.inr rfl) (pe_mk1 (ok_Ground_init10 T) hr (by decide) rfl passL (pa_cons (pe_lst (pa_cons pe_str (pa_cons pe_str (pa_cons pe_str pa_nil)))) (pa_cons (pe_lst (pa_cons pe_str pa_nil)) pa_nil))))
      (pss_cons (ps_set (i := 3) sc_law.nd rfl (Or.inl rfl) (pe_mm (ok_Ground_cross T) hr (by decide) passL (pv 2) (pa_cons pe_str (pa_cons pe_str pa_nil))))
      (pss_cons (ps_expr (pe_mm (ok_Ground_tell T) hr (by decide) passL (pv 2) (pa_cons (pe_tup (pa_cons pe_str (pa_cons pe_str (pa_cons pe_str pa_nil)))) pa_nil)))
      (pss_cons (ps_set (i := 4) sc_law.nd rfl (Or.inl rfl) (pe_op op_add pe_int (pe_cc (ok_w_taken T) hr (by decide) rfl pass0 (pa_cons (pv 1) (pa_cons pe_int pa_nil)))))
      (pss_cons (ps_set (i := 5) sc_law.nd rfl (Or.inl rfl) (pe_tup (pa_cons pe_str (pa_cons pe_str pa_nil))))
      (pss_cons (ps_set (i := 6) sc_law.nd rfl (Or.inl rfl) (pe_lst (pa_cons (pe_tup (pa_cons pe_int (pa_cons (pv 5) (pa_cons (pv 5) pa_nil)))) (pa_cons (pe_tup (pa_cons pe_int (pa_cons (pv 5) (pa_cons (pe_tup (pa_cons pe_str (pa_cons pe_str pa_nil))) pa_nil)))) (pa_cons (pe_tup (pa_cons pe_int (pa_cons (pe_tup (pa_cons pe_str (pa_cons pe_str pa_nil))) (pa_cons (pv 5) pa_nil)))) (pa_cons (pe_tup (pa_cons pe_int (pa_cons (pv 5) (pa_cons (pe_tup (pa_cons pe_str (pa_cons pe_str pa_nil))) pa_nil)))) pa_nil))))))
      (pss_cons (ps_set (i := 6) sc_law.nd rfl (Or.inl rfl) (pe_op op_cat (pv 6) (pe_lst (pa_cons (pe_tup (pa_cons pe_int (pa_cons (pv 4) (pa_cons pe_str pa_nil)))) (pa_cons (pe_tup (pa_cons pe_int (pa_cons pe_int (pa_cons pe_str pa_nil)))) (pa_cons (pe_tup (pa_cons pe_int (pa_cons (pv 4) (pa_cons pe_non pa_nil)))) (pa_cons (pe_tup (pa_cons pe_int (pa_cons (pe_op op_sub pe_int (pv 4)) (pa_cons pe_non pa_nil)))) pa_nil)))))))
      (pss_cons (ps_set (i := 6) sc_law.nd rfl (Or.inl rfl) (pe_op op_cat (pv 6) (pe_lst (pa_cons (pe_tup (pa_cons pe_int (pa_cons (pv 3) (pa_cons pe_non pa_nil)))) (pa_cons (pe_tup (pa_cons pe_int (pa_cons (pv 4) (pa_cons pe_non pa_nil)))) pa_nil)))))
      (pss_cons (ps_if (pt_cmpR (op_neD (hr.units)) (pe_lc (own := [("_law_ask", 8)]) rfl sc_law.nd (pi_list (pv 6)) (blkOk_by (own := [("_law_ask", 8)]) (N := n_law) (sc := defScope s_law) (by decide +kernel)) (fun _ _ _ _ _ => (pg_name (i := 8) sc_law.nd rfl (Or.inl rfl))) (fun _ _ _ _ _ => pts_one (pt_cmpR (op_neD (hr.units)) (pe_cc (ok_w_asked T) hr (by decide) rfl pass0 (pa_cons (pv 2) (pa_cons (pe_ix ix_tup (pv 8) pe_int (fun _ _ => rfl)) (pa_cons (pe_ix ix_tup (pv 8) pe_int (fun _ _ => rfl)) (pa_cons (pe_ix ix_tup (pv 8) pe_int (fun _ _ => rfl)) pa_nil))))) pe_str (nomark _))) (fun _ _ _ _ _ => (pv 8))) (pe_lst pa_nil) (nomark _)) (pss_one (ps_ret pe_bl)) pss_nil)
      (pss_cons (ps_set (i := 7) sc_law.nd rfl (Or.inl rfl) (pe_lst (pa_cons (pe_tup (pa_cons pe_str (pa_cons pe_str (pa_cons pe_str pa_nil)))) (pa_cons (pe_tup (pa_cons pe_str (pa_cons pe_str (pa_cons pe_str pa_nil)))) (pa_cons (pe_tup (pa_cons pe_str (pa_cons pe_str (pa_cons pe_str pa_nil)))) (pa_cons (pe_tup (pa_cons pe_str (pa_cons pe_str (pa_cons pe_str pa_nil)))) (pa_cons (pe_tup pa_nil) pa_nil)))))))
      (pss_cons (ps_set (i := 7) sc_law.nd rfl (Or.inl rfl) (pe_op op_cat (pv 7) (pe_lst (pa_cons (pe_tup (pa_cons pe_str (pa_cons pe_str (pa_cons pe_str pa_nil)))) (pa_cons (pe_tup (pa_cons pe_str (pa_cons pe_str pa_nil))) (pa_cons (pe_tup (pa_cons pe_str (pa_cons pe_str (pa_cons pe_str (pa_cons pe_str pa_nil))))) (pa_cons (pe_tup (pa_cons pe_str (pa_cons pe_str (pa_cons pe_str pa_nil)))) pa_nil)))))))
      (pss_cons (ps_if (pt_cmpR (op_neD (hr.units)) (pe_lc (own := [("_law_fact", 9)]) rfl sc_law.nd (pi_list (pv 7)) (blkOk_by (own := [("_law_fact", 9)]) (N := n_law) (sc := defScope s_law) (by decide +kernel)) (fun _ _ _ _ _ => (pg_name (i := 9) sc_law.nd rfl (Or.inl rfl))) (fun _ _ _ _ _ => pts_one (pt_cmpR (op_neD (hr.units)) (pe_cc (ok_w_asked T) hr (by decide) rfl pass0 (pa_cons (pv 2) (pa_cons pe_int (pa_cons (pv 9) (pa_cons pe_non pa_nil))))) pe_str (nomark _))) (fun _ _ _ _ _ => (pv 9))) (pe_lst pa_nil) (nomark _)) (pss_one (ps_ret pe_bl)) pss_nil)
      (pss_cons (ps_if (PW.pt (pw_or (pt_cmpR (op_neD (hr.units)) (pe_cc (ok_w_asked T) hr (by decide) rfl pass0 (pa_cons (pv 2) (pa_cons pe_int (pa_cons pe_str (pa_cons pe_str pa_nil))))) pe_str (nomark _)) (pw_or1 (pt_cmpR (op_neD (hr.units)) (pe_cc (ok_w_asked T) hr (by decide) rfl pass0 (pa_cons (pv 2) (pa_cons pe_int (pa_cons (pv 3) (pa_cons pe_str pa_nil))))) pe_str (nomark _))))) (pss_one (ps_ret pe_bl)) pss_nil)
      (pss_cons (ps_if (pt_cmpR (op_neD (hr.units)) (pe_cc (ok_w_asked T) hr (by decide) rfl pass0 (pa_cons (pv 2) (pa_cons pe_int (pa_cons (pe_tup (pa_cons pe_str (pa_cons pe_str (pa_cons pe_str pa_nil)))) (pa_cons pe_non pa_nil))))) pe_str (nomark _)) (pss_one (ps_ret pe_bl)) pss_nil)
      (pss_cons (ps_expr (pe_mm (ok_Ground_tell T) hr (by decide) passL (pv 2) (pa_cons (pe_tup (pa_cons pe_str (pa_cons pe_str (pa_cons pe_str pa_nil)))) pa_nil)))
      (pss_cons (ps_if (PW.pt (pw_or (pt_cmpR (op_neD (hr.units)) (pe_cc (ok_w_asked T) hr (by decide) rfl pass0 (pa_cons (pv 2) (pa_cons pe_int (pa_cons (pv 3) (pa_cons pe_str pa_nil))))) pe_str (nomark _)) (pw_or1 (pt_cmpR (op_neDD hr.units70) (pe_ix ix_tup (pe_mm0 (ok_Ground_told T) hr (by decide) pass0 (pv 2)) pe_int (fun _ _ => rfl)) (pe_disp (pps_cons (pv 3) (pe_tup (pa_cons pe_str (pa_cons pe_str pa_nil))) pps_nil) (by rfl) (by rfl) (fun z => by cases z) (by decide)) (nomark _))))) (pss_one (ps_ret pe_bl)) pss_nil)
      (pss_one (ps_ret (pe_cc (ok_w_is_full_right T) hr (by decide) rfl pass0 (pa_cons (pv 1) (pa_cons (pv 2) (pa_cons (pv 3) (pa_cons (pv 7) pa_nil)))))))))))))))))))))))))
theorem all_mk {l : PySem.W.OpenLaw} {w : World} {K : PySem.W.Frag} {h : Heap} {mg : Str → Option Value} {fa cNet cGround cNoFact cNoSuch cFull cRing cTrackError oW cBadText f0 f1 f2 f3 f4 f5 f6 f7 f8 f9 f10 f11 f12 f13 f14 f15 f16 f17 f18 f19 f20 f21 f22 f23 f24 f25 f26 f27 f28 f29 f30 f31 f32 f33 f34 : Addr} (X : K.In h) (G : h.Ns mainGlobals mg) (hfa : mg "law" = some (.ref fa))
    {nmR qR : Str} {NR : Addr} {bsR bmR : List Value} {snR : List Str} {subR : List Value} {abR : Bool} {colR : Option Bool} {ddR : Option Addr} {m0 m1 m2 m3 m5 : Option Value}
    {tkLETTERS tkLONGEST tkMOST_WALKERS tkMOST_WEATHERS tkMOST_FACTS : Tok}
    {ddW : Option Addr} {tw0 tw1 tw2 tw3 : Tok} {nW : Nat} {slW : Array (Option Value)}
    {od0 an0 : Option Addr} {sl0 : Array (Option Value)} {oc0 kV0 dc0 pm0 cd0 ct0 : Value}
    {od1 an1 : Option Addr} {sl1 : Array (Option Value)} {oc1 kV1 dc1 pm1 cd1 ct1 : Value}
    {od2 an2 : Option Addr} {sl2 : Array (Option Value)} {oc2 kV2 dc2 pm2 cd2 ct2 : Value}
    {od3 an3 : Option Addr} {sl3 : Array (Option Value)} {oc3 kV3 dc3 pm3 cd3 ct3 : Value}
    {od4 an4 : Option Addr} {sl4 : Array (Option Value)} {oc4 kV4 dc4 pm4 cd4 ct4 : Value}
    {od5 an5 : Option Addr} {sl5 : Array (Option Value)} {oc5 kV5 dc5 pm5 cd5 ct5 : Value}
    {od6 an6 : Option Addr} {sl6 : Array (Option Value)} {oc6 kV6 dc6 pm6 cd6 ct6 : Value}
    {od7 an7 : Option Addr} {sl7 : Array (Option Value)} {oc7 kV7 dc7 pm7 cd7 ct7 : Value}
    {od8 an8 : Option Addr} {sl8 : Array (Option Value)} {oc8 kV8 dc8 pm8 cd8 ct8 : Value}
    {od9 an9 : Option Addr} {sl9 : Array (Option Value)} {oc9 kV9 dc9 pm9 cd9 ct9 : Value}
    {od10 an10 : Option Addr} {sl10 : Array (Option Value)} {oc10 kV10 dc10 pm10 cd10 ct10 : Value}
    {od11 an11 : Option Addr} {sl11 : Array (Option Value)} {oc11 kV11 dc11 pm11 cd11 ct11 : Value}
    {od12 an12 : Option Addr} {sl12 : Array (Option Value)} {oc12 kV12 dc12 pm12 cd12 ct12 : Value}
    {od13 an13 : Option Addr} {sl13 : Array (Option Value)} {oc13 kV13 dc13 pm13 cd13 ct13 : Value}
    {od14 an14 : Option Addr} {sl14 : Array (Option Value)} {oc14 kV14 dc14 pm14 cd14 ct14 : Value}
    {od15 an15 : Option Addr} {sl15 : Array (Option Value)} {oc15 kV15 dc15 pm15 cd15 ct15 : Value}
    {od16 an16 : Option Addr} {sl16 : Array (Option Value)} {oc16 kV16 dc16 pm16 cd16 ct16 : Value}
    {od17 an17 : Option Addr} {sl17 : Array (Option Value)} {oc17 kV17 dc17 pm17 cd17 ct17 : Value}
    {od18 an18 : Option Addr} {sl18 : Array (Option Value)} {oc18 kV18 dc18 pm18 cd18 ct18 : Value}
    {od19 an19 : Option Addr} {sl19 : Array (Option Value)} {oc19 kV19 dc19 pm19 cd19 ct19 : Value}
    {od20 an20 : Option Addr} {sl20 : Array (Option Value)} {oc20 kV20 dc20 pm20 cd20 ct20 : Value}
    {od21 an21 : Option Addr} {sl21 : Array (Option Value)} {oc21 kV21 dc21 pm21 cd21 ct21 : Value}
    {od22 an22 : Option Addr} {sl22 : Array (Option Value)} {oc22 kV22 dc22 pm22 cd22 ct22 : Value}
    {od23 an23 : Option Addr} {sl23 : Array (Option Value)} {oc23 kV23 dc23 pm23 cd23 ct23 : Value}
    {od24 an24 : Option Addr} {sl24 : Array (Option Value)} {oc24 kV24 dc24 pm24 cd24 ct24 : Value}
    {od25 an25 : Option Addr} {sl25 : Array (Option Value)} {oc25 kV25 dc25 pm25 cd25 ct25 : Value}
    {od26 an26 : Option Addr} {sl26 : Array (Option Value)} {oc26 kV26 dc26 pm26 cd26 ct26 : Value}
    {od27 an27 : Option Addr} {sl27 : Array (Option Value)} {oc27 kV27 dc27 pm27 cd27 ct27 : Value}
    {od28 an28 : Option Addr} {sl28 : Array (Option Value)} {oc28 kV28 dc28 pm28 cd28 ct28 : Value}
    {od29 an29 : Option Addr} {sl29 : Array (Option Value)} {oc29 kV29 dc29 pm29 cd29 ct29 : Value}
    {od30 an30 : Option Addr} {sl30 : Array (Option Value)} {oc30 kV30 dc30 pm30 cd30 ct30 : Value}
    {od31 an31 : Option Addr} {sl31 : Array (Option Value)} {oc31 kV31 dc31 pm31 cd31 ct31 : Value}
    {od32 an32 : Option Addr} {sl32 : Array (Option Value)} {oc32 kV32 dc32 pm32 cd32 ct32 : Value}
    {od33 an33 : Option Addr} {sl33 : Array (Option Value)} {oc33 kV33 dc33 pm33 cd33 ct33 : Value}
    {od34 an34 : Option Addr} {sl34 : Array (Option Value)} {oc34 kV34 dc34 pm34 cd34 ct34 : Value}
    (aNet : PySem.W.nsIn K mainGlobals "Net" = some (some (.ref cNet)))
    (aGround : PySem.W.nsIn K mainGlobals "Ground" = some (some (.ref cGround)))
    (aNoFact : PySem.W.nsIn K mainGlobals "NoFact" = some (some (.ref cNoFact)))
    (aNoSuch : PySem.W.nsIn K mainGlobals "NoSuch" = some (some (.ref cNoSuch)))
    (aFull : PySem.W.nsIn K mainGlobals "Full" = some (some (.ref cFull)))
    (aRing : PySem.W.nsIn K mainGlobals "Ring" = some (some (.ref cRing)))
    (aTrackError : PySem.W.nsIn K mainGlobals "TrackError" = some (some (.ref cTrackError)))
    (aBadText : PySem.W.nsIn K mainGlobals "BadText" = some (some (.ref cBadText)))
    (pgNet : PySem.W.plainGet K cNet Str.empty = true)
    (hdNet : PySem.W.hasDictIn K cNet = true)
    (poNet : PySem.W.plainOver K cNet = true)
    (saNet : PySem.W.findIn K (.ref cNet) "__setattr__" = some (some (.builtin "object.__setattr__")))
    (mkNet : PySem.W.makesIn K cNet = true)
    (kcNet : PySem.W.keepIn K (.ref cNet) = true)
    (pgGround : PySem.W.plainGet K cGround Str.empty = true)
    (hdGround : PySem.W.hasDictIn K cGround = true)
    (poGround : PySem.W.plainOver K cGround = true)
    (saGround : PySem.W.findIn K (.ref cGround) "__setattr__" = some (some (.builtin "object.__setattr__")))
    (mkGround : PySem.W.makesIn K cGround = true)
    (kcGround : PySem.W.keepIn K (.ref cGround) = true)
    (nonward : PySem.W.findIn K (.ref cNet) "onward" = some none)
    (nwalkers : PySem.W.findIn K (.ref cGround) "walkers" = some none)
    (nweathers : PySem.W.findIn K (.ref cGround) "weathers" = some none)
    (nfacts : PySem.W.findIn K (.ref cGround) "facts" = some none)
    (ncrossings : PySem.W.findIn K (.ref cGround) "crossings" = some none)
    (ngiven : PySem.W.findIn K (.ref cGround) "given" = some none)
    (nrow : PySem.W.findIn K (.ref cRing) "row" = some none)
    (xNoFact : PySem.W.excIn K cNoFact [.type "ValueError", .type "Exception", .type "BaseException", .type "object"] "ValueError.__new__" = true)
    (xNoSuch : PySem.W.excIn K cNoSuch [.type "ValueError", .type "Exception", .type "BaseException", .type "object"] "ValueError.__new__" = true)
    (xFull : PySem.W.excIn K cFull [.type "ValueError", .type "Exception", .type "BaseException", .type "object"] "ValueError.__new__" = true)
    (kNoFact : PySem.W.keepIn K (.ref cNoFact) = true)
    (bNoFact : PySem.W.subIn K (.ref cNoFact) (.type "BaseException") = some true)
    (tNoFact : PySem.W.typeIn K (.ref cNoFact) = some (.type "type"))
    (kNoSuch : PySem.W.keepIn K (.ref cNoSuch) = true)
    (bNoSuch : PySem.W.subIn K (.ref cNoSuch) (.type "BaseException") = some true)
    (tNoSuch : PySem.W.typeIn K (.ref cNoSuch) = some (.type "type"))
    (kFull : PySem.W.keepIn K (.ref cFull) = true)
    (bFull : PySem.W.subIn K (.ref cFull) (.type "BaseException") = some true)
    (tFull : PySem.W.typeIn K (.ref cFull) = some (.type "type"))
    (kRing : PySem.W.keepIn K (.ref cRing) = true)
    (bRing : PySem.W.subIn K (.ref cRing) (.type "BaseException") = some true)
    (tRing : PySem.W.typeIn K (.ref cRing) = some (.type "type"))
    (kTrackError : PySem.W.keepIn K (.ref cTrackError) = true)
    (bTrackError : PySem.W.subIn K (.ref cTrackError) (.type "BaseException") = some true)
    (tTrackError : PySem.W.typeIn K (.ref cTrackError) = some (.type "type"))
    (kBadText : PySem.W.keepIn K (.ref cBadText) = true)
    (bBadText : PySem.W.subIn K (.ref cBadText) (.type "BaseException") = some true)
    (tBadText : PySem.W.typeIn K (.ref cBadText) = some (.type "type"))
    (iNoFact : PySem.W.isClsIn K cNoFact = true)
    (iNoSuch : PySem.W.isClsIn K cNoSuch = true)
    (iFull : PySem.W.isClsIn K cFull = true)
    (iRing : PySem.W.isClsIn K cRing = true)
    (iBadText : PySem.W.isClsIn K cBadText = true)
    (iTrackError : PySem.W.isClsIn K cTrackError = true)
    (err : PySem.W.subIn K (.ref cRing) (.ref cRing) = some true)
    (enr : PySem.W.subIn K (.ref cNoFact) (.ref cRing) = some false)
    (enn : PySem.W.subIn K (.ref cNoFact) (.ref cNoFact) = some true)
    (esr : PySem.W.subIn K (.ref cNoSuch) (.ref cRing) = some false)
    (esn : PySem.W.subIn K (.ref cNoSuch) (.ref cNoFact) = some false)
    (ess : PySem.W.subIn K (.ref cNoSuch) (.ref cNoSuch) = some true)
    (efr : PySem.W.subIn K (.ref cFull) (.ref cRing) = some false)
    (efn : PySem.W.subIn K (.ref cFull) (.ref cNoFact) = some false)
    (efs : PySem.W.subIn K (.ref cFull) (.ref cNoSuch) = some false)
    (eff : PySem.W.subIn K (.ref cFull) (.ref cFull) = some true)
    (lRing : K.lookup cRing = some (excClassObj nmR qR cRing NR bsR bmR true snR subR abR colR ddR m0 m1 m2 m3 m5 "ValueError.__new__"))
    (rRing : PySem.HandSPX.refsVE bmR = true)
    (saRing : PySem.W.findIn K (.ref cRing) "__setattr__" = some (some (.builtin "object.__setattr__")))
    (gaT : PySem.W.specialIn K (.ref cTrackError) "__getattribute__" = some (some (.builtin "type.__getattribute__")))
    (rdT : PySem.W.readsIn K cTrackError (.type "type") = true)
    (fcT : PySem.W.findCls K (.ref cTrackError) (.type "type") "__init__" = some (.val (.builtin "ValueError.__init__")))
    (hnO : PySem.W.specialIn K (.builtin "object.__class__") "__get__" = some (some (.builtin "getset_descriptor.__get__")))
    (htO : PySem.W.takesIn K (.builtin "object.__class__") = some true)
    (hgNoFact : PySem.W.findIn K (.ref cNoFact) "__getattribute__" = some (some (.builtin "BaseException.__getattribute__")))
    (hkNoFact : PySem.W.findIn K (.ref cNoFact) "__getattr__" = some none)
    (hddNoFact : PySem.W.hasDictIn K cNoFact = true)
    (hclNoFact : PySem.W.findIn K (.ref cNoFact) "__class__" = some (some (.builtin "object.__class__")))
    (hmNoFact : PySem.W.mroIn K cNoFact (.type "object") = some true)
    (hgNoSuch : PySem.W.findIn K (.ref cNoSuch) "__getattribute__" = some (some (.builtin "BaseException.__getattribute__")))
    (hkNoSuch : PySem.W.findIn K (.ref cNoSuch) "__getattr__" = some none)
    (hddNoSuch : PySem.W.hasDictIn K cNoSuch = true)
    (hclNoSuch : PySem.W.findIn K (.ref cNoSuch) "__class__" = some (some (.builtin "object.__class__")))
    (hmNoSuch : PySem.W.mroIn K cNoSuch (.type "object") = some true)
    (hgFull : PySem.W.findIn K (.ref cFull) "__getattribute__" = some (some (.builtin "BaseException.__getattribute__")))
    (hkFull : PySem.W.findIn K (.ref cFull) "__getattr__" = some none)
    (hddFull : PySem.W.hasDictIn K cFull = true)
    (hclFull : PySem.W.findIn K (.ref cFull) "__class__" = some (some (.builtin "object.__class__")))
    (hmFull : PySem.W.mroIn K cFull (.type "object") = some true)
    (hgRing : PySem.W.findIn K (.ref cRing) "__getattribute__" = some (some (.builtin "BaseException.__getattribute__")))
    (hkRing : PySem.W.findIn K (.ref cRing) "__getattr__" = some none)
    (hddRing : PySem.W.hasDictIn K cRing = true)
    (hclRing : PySem.W.findIn K (.ref cRing) "__class__" = some (some (.builtin "object.__class__")))
    (hmRing : PySem.W.mroIn K cRing (.type "object") = some true)
    (sxNoFactTrackError : PySem.W.subIn K (.ref cNoFact) (.ref cTrackError) = some true)
    (sxNoSuchTrackError : PySem.W.subIn K (.ref cNoSuch) (.ref cTrackError) = some true)
    (sxFullTrackError : PySem.W.subIn K (.ref cFull) (.ref cTrackError) = some true)
    (sxRingTrackError : PySem.W.subIn K (.ref cRing) (.ref cTrackError) = some true)
    (neNoFactNoSuch : (Value.ref cNoFact == Value.ref cNoSuch) = false)
    (skNoFactNoSuch : PySem.W.subIn K (.ref cNoFact) (.ref cNoSuch) = some false)
    (neNoFactFull : (Value.ref cNoFact == Value.ref cFull) = false)
    (skNoFactFull : PySem.W.subIn K (.ref cNoFact) (.ref cFull) = some false)
    (neNoFactRing : (Value.ref cNoFact == Value.ref cRing) = false)
    (skNoFactRing : PySem.W.subIn K (.ref cNoFact) (.ref cRing) = some false)
    (neNoFactBadText : (Value.ref cNoFact == Value.ref cBadText) = false)
    (skNoFactBadText : PySem.W.subIn K (.ref cNoFact) (.ref cBadText) = some false)
    (svNoFact : PySem.W.subIn K (.ref cNoFact) (.type "ValueError") = some true)
    (neNoSuchNoFact : (Value.ref cNoSuch == Value.ref cNoFact) = false)
    (skNoSuchNoFact : PySem.W.subIn K (.ref cNoSuch) (.ref cNoFact) = some false)
    (neNoSuchFull : (Value.ref cNoSuch == Value.ref cFull) = false)
    (skNoSuchFull : PySem.W.subIn K (.ref cNoSuch) (.ref cFull) = some false)
    (neNoSuchRing : (Value.ref cNoSuch == Value.ref cRing) = false)
    (skNoSuchRing : PySem.W.subIn K (.ref cNoSuch) (.ref cRing) = some false)
    (neNoSuchBadText : (Value.ref cNoSuch == Value.ref cBadText) = false)
    (skNoSuchBadText : PySem.W.subIn K (.ref cNoSuch) (.ref cBadText) = some false)
    (svNoSuch : PySem.W.subIn K (.ref cNoSuch) (.type "ValueError") = some true)
    (neFullNoFact : (Value.ref cFull == Value.ref cNoFact) = false)
    (skFullNoFact : PySem.W.subIn K (.ref cFull) (.ref cNoFact) = some false)
    (neFullNoSuch : (Value.ref cFull == Value.ref cNoSuch) = false)
    (skFullNoSuch : PySem.W.subIn K (.ref cFull) (.ref cNoSuch) = some false)
    (neFullRing : (Value.ref cFull == Value.ref cRing) = false)
    (skFullRing : PySem.W.subIn K (.ref cFull) (.ref cRing) = some false)
    (neFullBadText : (Value.ref cFull == Value.ref cBadText) = false)
    (skFullBadText : PySem.W.subIn K (.ref cFull) (.ref cBadText) = some false)
    (svFull : PySem.W.subIn K (.ref cFull) (.type "ValueError") = some true)
    (neRingNoFact : (Value.ref cRing == Value.ref cNoFact) = false)
    (skRingNoFact : PySem.W.subIn K (.ref cRing) (.ref cNoFact) = some false)
    (neRingNoSuch : (Value.ref cRing == Value.ref cNoSuch) = false)
    (skRingNoSuch : PySem.W.subIn K (.ref cRing) (.ref cNoSuch) = some false)
    (neRingFull : (Value.ref cRing == Value.ref cFull) = false)
    (skRingFull : PySem.W.subIn K (.ref cRing) (.ref cFull) = some false)
    (neRingBadText : (Value.ref cRing == Value.ref cBadText) = false)
    (skRingBadText : PySem.W.subIn K (.ref cRing) (.ref cBadText) = some false)
    (svRing : PySem.W.subIn K (.ref cRing) (.type "ValueError") = some true)
    (z_len : PySem.W.nsIn K mainGlobals "len" = some none)
    (z_sorted : PySem.W.nsIn K mainGlobals "sorted" = some none)
    (z_list : PySem.W.nsIn K mainGlobals "list" = some none)
    (z_dict : PySem.W.nsIn K mainGlobals "dict" = some none)
    (z_int : PySem.W.nsIn K mainGlobals "int" = some none)
    (z_reversed : PySem.W.nsIn K mainGlobals "reversed" = some none)
    (z_range : PySem.W.nsIn K mainGlobals "range" = some none)
    (z_isinstance : PySem.W.nsIn K mainGlobals "isinstance" = some none)
    (z_ValueError : PySem.W.nsIn K mainGlobals "ValueError" = some none)
    (gLETTERS : PySem.W.nsIn K mainGlobals "LETTERS" = some (some (.str ("abcdefghijklmnopqrstuvwxyz" : Str) tkLETTERS)))
    (gLONGEST : PySem.W.nsIn K mainGlobals "LONGEST" = some (some (.int 8 tkLONGEST)))
    (gWORDS : PySem.W.nsIn K mainGlobals "WORDS" = some (some (.ref oW)))
    (gMOST_WALKERS : PySem.W.nsIn K mainGlobals "MOST_WALKERS" = some (some (.int 8 tkMOST_WALKERS)))
    (gMOST_WEATHERS : PySem.W.nsIn K mainGlobals "MOST_WEATHERS" = some (some (.int 3 tkMOST_WEATHERS)))
    (gMOST_FACTS : PySem.W.nsIn K mainGlobals "MOST_FACTS" = some (some (.int 60 tkMOST_FACTS)))
    (lW : K.lookup oW = some ⟨.type "tuple", ddW, .seq #[.str ("over" : Str) tw0, .str ("ahead" : Str) tw1, .str ("amid" : Str) tw2, .str ("behind" : Str) tw3] nW, slW⟩)
    (a0 : PySem.W.nsIn K mainGlobals "_law_taken" = some (some (.ref f0)))
    (l0 : K.lookup f0 = some ⟨oc0, od0, .func (PySem.W.fnOf "_law_taken" "_law_taken" (defArgs s_w_taken) (defBody s_w_taken) (defScope s_w_taken) .none kV0 dc0 pm0 an0 cd0 ct0), sl0⟩)
    (c0 : PySem.W.codeIn K cd0 "_law_taken" = true)
    (k0 : PySem.W.keepIn K (.ref f0) = true)
    (a1 : PySem.W.nsIn K mainGlobals "is_name" = some (some (.ref f1)))
    (l1 : K.lookup f1 = some ⟨oc1, od1, .func (PySem.W.fnOf "is_name" "is_name" (defArgs s_is_name) (defBody s_is_name) (defScope s_is_name) .none kV1 dc1 pm1 an1 cd1 ct1), sl1⟩)
    (c1 : PySem.W.codeIn K cd1 "is_name" = true)
    (k1 : PySem.W.keepIn K (.ref f1) = true)
    (a2 : PySem.W.findIn K (.ref cGround) "__init__" = some (some (.ref f2)))
    (i2 : PySem.W.isFn K (.ref f2) = true)
    (l2 : K.lookup f2 = some ⟨oc2, od2, .func (PySem.W.fnOf "__init__" "Ground.__init__" (defArgs s_Ground_init10) (defBody s_Ground_init10) (defScope s_Ground_init10) .none kV2 dc2 pm2 an2 cd2 ct2), sl2⟩)
    (c2 : PySem.W.codeIn K cd2 "Ground.__init__" = true)
    (k2 : PySem.W.keepIn K (.ref f2) = true)
    (a3 : PySem.W.nsIn K mainGlobals "_law_word_of" = some (some (.ref f3)))
    (l3 : K.lookup f3 = some ⟨oc3, od3, .func (PySem.W.fnOf "_law_word_of" "_law_word_of" (defArgs s_w_word_of) (defBody s_w_word_of) (defScope s_w_word_of) .none kV3 dc3 pm3 an3 cd3 ct3), sl3⟩)
    (c3 : PySem.W.codeIn K cd3 "_law_word_of" = true)
    (k3 : PySem.W.keepIn K (.ref f3) = true)
    (a4 : PySem.W.nsIn K mainGlobals "_law_made" = some (some (.ref f4)))
    (l4 : K.lookup f4 = some ⟨oc4, od4, .func (PySem.W.fnOf "_law_made" "_law_made" (defArgs s_w_made) (defBody s_w_made) (defScope s_w_made) .none kV4 dc4 pm4 an4 cd4 ct4), sl4⟩)
    (c4 : PySem.W.codeIn K cd4 "_law_made" = true)
    (k4 : PySem.W.keepIn K (.ref f4) = true)
    (a5 : PySem.W.nsIn K mainGlobals "_law_names_refused" = some (some (.ref f5)))
    (l5 : K.lookup f5 = some ⟨oc5, od5, .func (PySem.W.fnOf "_law_names_refused" "_law_names_refused" (defArgs s_w_names_refused) (defBody s_w_names_refused) (defScope s_w_names_refused) .none kV5 dc5 pm5 an5 cd5 ct5), sl5⟩)
    (c5 : PySem.W.codeIn K cd5 "_law_names_refused" = true)
    (k5 : PySem.W.keepIn K (.ref f5) = true)
    (a6 : PySem.W.findIn K (.ref cGround) "new_number" = some (some (.ref f6)))
    (i6 : PySem.W.isFn K (.ref f6) = true)
    (l6 : K.lookup f6 = some ⟨oc6, od6, .func (PySem.W.fnOf "new_number" "Ground.new_number" (defArgs s_Ground_new_number) (defBody s_Ground_new_number) (defScope s_Ground_new_number) .none kV6 dc6 pm6 an6 cd6 ct6), sl6⟩)
    (c6 : PySem.W.codeIn K cd6 "Ground.new_number" = true)
    (k6 : PySem.W.keepIn K (.ref f6) = true)
    (a7 : PySem.W.findIn K (.ref cGround) "cross" = some (some (.ref f7)))
    (i7 : PySem.W.isFn K (.ref f7) = true)
    (l7 : K.lookup f7 = some ⟨oc7, od7, .func (PySem.W.fnOf "cross" "Ground.cross" (defArgs s_Ground_cross) (defBody s_Ground_cross) (defScope s_Ground_cross) .none kV7 dc7 pm7 an7 cd7 ct7), sl7⟩)
    (c7 : PySem.W.codeIn K cd7 "Ground.cross" = true)
    (k7 : PySem.W.keepIn K (.ref f7) = true)
    (a8 : PySem.W.nsIn K mainGlobals "is_fact" = some (some (.ref f8)))
    (l8 : K.lookup f8 = some ⟨oc8, od8, .func (PySem.W.fnOf "is_fact" "is_fact" (defArgs s_is_fact) (defBody s_is_fact) (defScope s_is_fact) .none kV8 dc8 pm8 an8 cd8 ct8), sl8⟩)
    (c8 : PySem.W.codeIn K cd8 "is_fact" = true)
    (k8 : PySem.W.keepIn K (.ref f8) = true)
    (a9 : PySem.W.nsIn K mainGlobals "all_things" = some (some (.ref f9)))
    (l9 : K.lookup f9 = some ⟨oc9, od9, .func (PySem.W.fnOf "all_things" "all_things" (defArgs s_all_things) (defBody s_all_things) (defScope s_all_things) .none kV9 dc9 pm9 an9 cd9 ct9), sl9⟩)
    (c9 : PySem.W.codeIn K cd9 "all_things" = true)
    (k9 : PySem.W.keepIn K (.ref f9) = true)
    (a10 : PySem.W.findIn K (.ref cGround) "things" = some (some (.ref f10)))
    (i10 : PySem.W.isFn K (.ref f10) = true)
    (l10 : K.lookup f10 = some ⟨oc10, od10, .func (PySem.W.fnOf "things" "Ground.things" (defArgs s_Ground_things) (defBody s_Ground_things) (defScope s_Ground_things) .none kV10 dc10 pm10 an10 cd10 ct10), sl10⟩)
    (c10 : PySem.W.codeIn K cd10 "Ground.things" = true)
    (k10 : PySem.W.keepIn K (.ref f10) = true)
    (a11 : PySem.W.findIn K (.ref cNet) "__init__" = some (some (.ref f11)))
    (i11 : PySem.W.isFn K (.ref f11) = true)
    (l11 : K.lookup f11 = some ⟨oc11, od11, .func (PySem.W.fnOf "__init__" "Net.__init__" (defArgs s_Net_init) (defBody s_Net_init) (defScope s_Net_init) .none kV11 dc11 pm11 an11 cd11 ct11), sl11⟩)
    (c11 : PySem.W.codeIn K cd11 "Net.__init__" = true)
    (k11 : PySem.W.keepIn K (.ref f11) = true)
    (a12 : PySem.W.nsIn K mainGlobals "weather_links" = some (some (.ref f12)))
    (l12 : K.lookup f12 = some ⟨oc12, od12, .func (PySem.W.fnOf "weather_links" "weather_links" (defArgs s_weather_links) (defBody s_weather_links) (defScope s_weather_links) .none kV12 dc12 pm12 an12 cd12 ct12), sl12⟩)
    (c12 : PySem.W.codeIn K cd12 "weather_links" = true)
    (k12 : PySem.W.keepIn K (.ref f12) = true)
    (a13 : PySem.W.findIn K (.ref cNet) "add" = some (some (.ref f13)))
    (i13 : PySem.W.isFn K (.ref f13) = true)
    (l13 : K.lookup f13 = some ⟨oc13, od13, .func (PySem.W.fnOf "add" "Net.add" (defArgs s_Net_add) (defBody s_Net_add) (defScope s_Net_add) .none kV13 dc13 pm13 an13 cd13 ct13), sl13⟩)
    (c13 : PySem.W.codeIn K cd13 "Net.add" = true)
    (k13 : PySem.W.keepIn K (.ref f13) = true)
    (a14 : PySem.W.nsIn K mainGlobals "links_of" = some (some (.ref f14)))
    (l14 : K.lookup f14 = some ⟨oc14, od14, .func (PySem.W.fnOf "links_of" "links_of" (defArgs s_links_of) (defBody s_links_of) (defScope s_links_of) .none kV14 dc14 pm14 an14 cd14 ct14), sl14⟩)
    (c14 : PySem.W.codeIn K cd14 "links_of" = true)
    (k14 : PySem.W.keepIn K (.ref f14) = true)
    (a15 : PySem.W.findIn K (.ref cGround) "net" = some (some (.ref f15)))
    (i15 : PySem.W.isFn K (.ref f15) = true)
    (l15 : K.lookup f15 = some ⟨oc15, od15, .func (PySem.W.fnOf "net" "Ground.net" (defArgs s_Ground_net) (defBody s_Ground_net) (defScope s_Ground_net) .none kV15 dc15 pm15 an15 cd15 ct15), sl15⟩)
    (c15 : PySem.W.codeIn K cd15 "Ground.net" = true)
    (k15 : PySem.W.keepIn K (.ref f15) = true)
    (a16 : PySem.W.findIn K (.ref cNet) "way" = some (some (.ref f16)))
    (i16 : PySem.W.isFn K (.ref f16) = true)
    (l16 : K.lookup f16 = some ⟨oc16, od16, .func (PySem.W.fnOf "way" "Net.way" (defArgs s_Net_way) (defBody s_Net_way) (defScope s_Net_way) .none kV16 dc16 pm16 an16 cd16 ct16), sl16⟩)
    (c16 : PySem.W.codeIn K cd16 "Net.way" = true)
    (k16 : PySem.W.keepIn K (.ref f16) = true)
    (a17 : PySem.W.findIn K (.ref cGround) "ring_of" = some (some (.ref f17)))
    (i17 : PySem.W.isFn K (.ref f17) = true)
    (l17 : K.lookup f17 = some ⟨oc17, od17, .func (PySem.W.fnOf "ring_of" "Ground.ring_of" (defArgs s_Ground_ring_of) (defBody s_Ground_ring_of) (defScope s_Ground_ring_of) .none kV17 dc17 pm17 an17 cd17 ct17), sl17⟩)
    (c17 : PySem.W.codeIn K cd17 "Ground.ring_of" = true)
    (k17 : PySem.W.keepIn K (.ref f17) = true)
    (a18 : PySem.W.findIn K (.ref cRing) "__init__" = some (some (.ref f18)))
    (y18 : PySem.W.typeIn K (.ref f18) = some (.type "function"))
    (l18 : K.lookup f18 = some ⟨oc18, od18, .func (PySem.W.fnOf "__init__" "Ring.__init__" (defArgs s_Ring_init) (defBody s_Ring_init) (defScope s_Ring_init) .none kV18 dc18 pm18 an18 cd18 ct18), sl18⟩)
    (c18 : PySem.W.codeIn K cd18 "Ring.__init__" = true)
    (k18 : PySem.W.keepIn K (.ref f18) = true)
    (a19 : PySem.W.findIn K (.ref cGround) "tell" = some (some (.ref f19)))
    (i19 : PySem.W.isFn K (.ref f19) = true)
    (l19 : K.lookup f19 = some ⟨oc19, od19, .func (PySem.W.fnOf "tell" "Ground.tell" (defArgs s_Ground_tell) (defBody s_Ground_tell) (defScope s_Ground_tell) .none kV19 dc19 pm19 an19 cd19 ct19), sl19⟩)
    (c19 : PySem.W.codeIn K cd19 "Ground.tell" = true)
    (k19 : PySem.W.keepIn K (.ref f19) = true)
    (a20 : PySem.W.findIn K (.ref cGround) "need_thing" = some (some (.ref f20)))
    (i20 : PySem.W.isFn K (.ref f20) = true)
    (l20 : K.lookup f20 = some ⟨oc20, od20, .func (PySem.W.fnOf "need_thing" "Ground.need_thing" (defArgs s_Ground_need_thing) (defBody s_Ground_need_thing) (defScope s_Ground_need_thing) .none kV20 dc20 pm20 an20 cd20 ct20), sl20⟩)
    (c20 : PySem.W.codeIn K cd20 "Ground.need_thing" = true)
    (k20 : PySem.W.keepIn K (.ref f20) = true)
    (a21 : PySem.W.findIn K (.ref cNet) "beyond" = some (some (.ref f21)))
    (i21 : PySem.W.isFn K (.ref f21) = true)
    (l21 : K.lookup f21 = some ⟨oc21, od21, .func (PySem.W.fnOf "beyond" "Net.beyond" (defArgs s_Net_beyond) (defBody s_Net_beyond) (defScope s_Net_beyond) .none kV21 dc21 pm21 an21 cd21 ct21), sl21⟩)
    (c21 : PySem.W.codeIn K cd21 "Net.beyond" = true)
    (k21 : PySem.W.keepIn K (.ref f21) = true)
    (a22 : PySem.W.nsIn K mainGlobals "known_pairs" = some (some (.ref f22)))
    (l22 : K.lookup f22 = some ⟨oc22, od22, .func (PySem.W.fnOf "known_pairs" "known_pairs" (defArgs s_known_pairs) (defBody s_known_pairs) (defScope s_known_pairs) .none kV22 dc22 pm22 an22 cd22 ct22), sl22⟩)
    (c22 : PySem.W.codeIn K cd22 "known_pairs" = true)
    (k22 : PySem.W.keepIn K (.ref f22) = true)
    (a23 : PySem.W.findIn K (.ref cGround) "pairs" = some (some (.ref f23)))
    (i23 : PySem.W.isFn K (.ref f23) = true)
    (l23 : K.lookup f23 = some ⟨oc23, od23, .func (PySem.W.fnOf "pairs" "Ground.pairs" (defArgs s_Ground_pairs) (defBody s_Ground_pairs) (defScope s_Ground_pairs) .none kV23 dc23 pm23 an23 cd23 ct23), sl23⟩)
    (c23 : PySem.W.codeIn K cd23 "Ground.pairs" = true)
    (k23 : PySem.W.keepIn K (.ref f23) = true)
    (a24 : PySem.W.nsIn K mainGlobals "sooner" = some (some (.ref f24)))
    (l24 : K.lookup f24 = some ⟨oc24, od24, .func (PySem.W.fnOf "sooner" "sooner" (defArgs s_sooner) (defBody s_sooner) (defScope s_sooner) .none kV24 dc24 pm24 an24 cd24 ct24), sl24⟩)
    (c24 : PySem.W.codeIn K cd24 "sooner" = true)
    (k24 : PySem.W.keepIn K (.ref f24) = true)
    (a25 : PySem.W.nsIn K mainGlobals "first_order" = some (some (.ref f25)))
    (l25 : K.lookup f25 = some ⟨oc25, od25, .func (PySem.W.fnOf "first_order" "first_order" (defArgs s_first_order) (defBody s_first_order) (defScope s_first_order) .none kV25 dc25 pm25 an25 cd25 ct25), sl25⟩)
    (c25 : PySem.W.codeIn K cd25 "first_order" = true)
    (k25 : PySem.W.keepIn K (.ref f25) = true)
    (a26 : PySem.W.nsIn K mainGlobals "order_with" = some (some (.ref f26)))
    (l26 : K.lookup f26 = some ⟨oc26, od26, .func (PySem.W.fnOf "order_with" "order_with" (defArgs s_order_with) (defBody s_order_with) (defScope s_order_with) .none kV26 dc26 pm26 an26 cd26 ct26), sl26⟩)
    (c26 : PySem.W.codeIn K cd26 "order_with" = true)
    (k26 : PySem.W.keepIn K (.ref f26) = true)
    (a27 : PySem.W.findIn K (.ref cGround) "before" = some (some (.ref f27)))
    (i27 : PySem.W.isFn K (.ref f27) = true)
    (l27 : K.lookup f27 = some ⟨oc27, od27, .func (PySem.W.fnOf "before" "Ground.before" (defArgs s_Ground_before) (defBody s_Ground_before) (defScope s_Ground_before) .none kV27 dc27 pm27 an27 cd27 ct27), sl27⟩)
    (c27 : PySem.W.codeIn K cd27 "Ground.before" = true)
    (k27 : PySem.W.keepIn K (.ref f27) = true)
    (a28 : PySem.W.findIn K (.ref cGround) "settle" = some (some (.ref f28)))
    (i28 : PySem.W.isFn K (.ref f28) = true)
    (l28 : K.lookup f28 = some ⟨oc28, od28, .func (PySem.W.fnOf "settle" "Ground.settle" (defArgs s_Ground_settle) (defBody s_Ground_settle) (defScope s_Ground_settle) .none kV28 dc28 pm28 an28 cd28 ct28), sl28⟩)
    (c28 : PySem.W.codeIn K cd28 "Ground.settle" = true)
    (k28 : PySem.W.keepIn K (.ref f28) = true)
    (a29 : PySem.W.findIn K (.ref cGround) "take" = some (some (.ref f29)))
    (i29 : PySem.W.isFn K (.ref f29) = true)
    (l29 : K.lookup f29 = some ⟨oc29, od29, .func (PySem.W.fnOf "take" "Ground.take" (defArgs s_Ground_take) (defBody s_Ground_take) (defScope s_Ground_take) .none kV29 dc29 pm29 an29 cd29 ct29), sl29⟩)
    (c29 : PySem.W.codeIn K cd29 "Ground.take" = true)
    (k29 : PySem.W.keepIn K (.ref f29) = true)
    (a30 : PySem.W.findIn K (.ref cGround) "leans" = some (some (.ref f30)))
    (i30 : PySem.W.isFn K (.ref f30) = true)
    (l30 : K.lookup f30 = some ⟨oc30, od30, .func (PySem.W.fnOf "leans" "Ground.leans" (defArgs s_Ground_leans) (defBody s_Ground_leans) (defScope s_Ground_leans) .none kV30 dc30 pm30 an30 cd30 ct30), sl30⟩)
    (c30 : PySem.W.codeIn K cd30 "Ground.leans" = true)
    (k30 : PySem.W.keepIn K (.ref f30) = true)
    (a31 : PySem.W.nsIn K mainGlobals "_law_asked" = some (some (.ref f31)))
    (l31 : K.lookup f31 = some ⟨oc31, od31, .func (PySem.W.fnOf "_law_asked" "_law_asked" (defArgs s_w_asked) (defBody s_w_asked) (defScope s_w_asked) .none kV31 dc31 pm31 an31 cd31 ct31), sl31⟩)
    (c31 : PySem.W.codeIn K cd31 "_law_asked" = true)
    (k31 : PySem.W.keepIn K (.ref f31) = true)
    (a32 : PySem.W.findIn K (.ref cGround) "told" = some (some (.ref f32)))
    (i32 : PySem.W.isFn K (.ref f32) = true)
    (l32 : K.lookup f32 = some ⟨oc32, od32, .func (PySem.W.fnOf "told" "Ground.told" (defArgs s_Ground_told) (defBody s_Ground_told) (defScope s_Ground_told) .none kV32 dc32 pm32 an32 cd32 ct32), sl32⟩)
    (c32 : PySem.W.codeIn K cd32 "Ground.told" = true)
    (k32 : PySem.W.keepIn K (.ref f32) = true)
    (a33 : PySem.W.nsIn K mainGlobals "_law_is_full_right" = some (some (.ref f33)))
    (l33 : K.lookup f33 = some ⟨oc33, od33, .func (PySem.W.fnOf "_law_is_full_right" "_law_is_full_right" (defArgs s_w_is_full_right) (defBody s_w_is_full_right) (defScope s_w_is_full_right) .none kV33 dc33 pm33 an33 cd33 ct33), sl33⟩)
    (c33 : PySem.W.codeIn K cd33 "_law_is_full_right" = true)
    (k33 : PySem.W.keepIn K (.ref f33) = true)
    (a34 : PySem.W.nsIn K mainGlobals "law" = some (some (.ref f34)))
    (l34 : K.lookup f34 = some ⟨oc34, od34, .func (PySem.W.fnOf "law" "law" (defArgs s_law) (defBody s_law) (defScope s_law) .none kV34 dc34 pm34 an34 cd34 ct34), sl34⟩)
    (c34 : PySem.W.codeIn K cd34 "law" = true)
    (k34 : PySem.W.keepIn K (.ref f34) = true) :
    ∃ fd : FuncData, (∀ (s : Shared) (v : Value), BindsTo s fd ⟨[v], []⟩ [("_law_script", v)]) ∧ ∀ base : Heap, K.In base → base.Ns mainGlobals mg → FnOk l.prog w K mg base CX0 8 fa fd ["_law_script"] (sp_lawK K) := by
  have e := hfa.symm.trans (PySem.W.mg_of X G a34)
  cases e
  have oR : OexC K cRing := ⟨⟨nmR, qR, NR, bsR, bmR, snR, subR, abR, colR, ddR, m0, m1, m2, m3, m5, lRing, rRing⟩, saRing, bRing, tRing, kRing⟩
  have CL : ClT K ⟨cNet, cGround, cNoFact, cNoSuch, cFull, cRing, cBadText, cTrackError, oW, w⟩ := ⟨⟨pgNet, hdNet, poNet, saNet⟩, ⟨pgGround, hdGround, poGround, saGround⟩, nonward, nwalkers, nweathers, nfacts, ncrossings, ngiven, oR, nrow,
    exm_gen bRing iRing tRing err, exm_gen bRing iRing tRing enr, exm_gen bNoFact iNoFact tNoFact enn, exm_gen bRing iRing tRing esr, exm_gen bNoFact iNoFact tNoFact esn, exm_gen bNoSuch iNoSuch tNoSuch ess, exm_gen bRing iRing tRing efr, exm_gen bNoFact iNoFact tNoFact efn, exm_gen bNoSuch iNoSuch tNoSuch efs, exm_gen bFull iFull tFull eff,
    fun H => Or.inr ⟨_, _, nW, lW, rfl, rfl, (show 4 ≤ sizeLine by decide), .cons ⟨tw0, rfl⟩ (.cons ⟨tw1, rfl⟩ (.cons ⟨tw2, rfl⟩ (.cons ⟨tw3, rfl⟩ .nil)))⟩⟩
  have F0 := fun_mk (st := s_w_taken) l0 c0 k0
  have B0 := F0.binds (ps := ["_law_row", "_law_many"]) fun _ _ _ _ _ _ us hl => match us, hl with | [_, _], _ => rfl
  have F1 := fun_mk (st := s_is_name) l1 c1 k1
  have B1 := F1.binds (ps := ["text"]) fun _ _ _ _ _ _ us hl => match us, hl with | [_], _ => rfl
  have F2 := fun_mk (st := s_Ground_init10) l2 c2 k2
  have B2 := F2.binds (ps := ["self", "walkers", "weathers"]) fun _ _ _ _ _ _ us hl => match us, hl with | [_, _, _], _ => rfl
  have F3 := fun_mk (st := s_w_word_of) l3 c3 k3
  have B3 := F3.binds (ps := ["_law_e"]) fun _ _ _ _ _ _ us hl => match us, hl with | [_], _ => rfl
  have F4 := fun_mk (st := s_w_made) l4 c4 k4
  have B4 := F4.binds (ps := ["_law_walkers", "_law_weathers"]) fun _ _ _ _ _ _ us hl => match us, hl with | [_, _], _ => rfl
  have F5 := fun_mk (st := s_w_names_refused) l5 c5 k5
  have B5 := F5.binds (ps := ["_law_row"]) fun _ _ _ _ _ _ us hl => match us, hl with | [_], _ => rfl
  have F6 := fun_mk (st := s_Ground_new_number) l6 c6 k6
  have B6 := F6.binds (ps := ["self"]) fun _ _ _ _ _ _ us hl => match us, hl with | [_], _ => rfl
  have F7 := fun_mk (st := s_Ground_cross) l7 c7 k7
  have B7 := F7.binds (ps := ["self", "one", "other"]) fun _ _ _ _ _ _ us hl => match us, hl with | [_, _, _], _ => rfl
  have F8 := fun_mk (st := s_is_fact) l8 c8 k8
  have B8 := F8.binds (ps := ["fact", "walkers", "weathers"]) fun _ _ _ _ _ _ us hl => match us, hl with | [_, _, _], _ => rfl
  have F9 := fun_mk (st := s_all_things) l9 c9 k9
  have B9 := F9.binds (ps := ["walkers", "weathers"]) fun _ _ _ _ _ _ us hl => match us, hl with | [_, _], _ => rfl
  have F10 := fun_mk (st := s_Ground_things) l10 c10 k10
  have B10 := F10.binds (ps := ["self"]) fun _ _ _ _ _ _ us hl => match us, hl with | [_], _ => rfl
  have F11 := fun_mk (st := s_Net_init) l11 c11 k11
  have B11 := F11.binds (ps := ["self", "things"]) fun _ _ _ _ _ _ us hl => match us, hl with | [_, _], _ => rfl
  have F12 := fun_mk (st := s_weather_links) l12 c12 k12
  have B12 := F12.binds (ps := ["weathers"]) fun _ _ _ _ _ _ us hl => match us, hl with | [_], _ => rfl
  have F13 := fun_mk (st := s_Net_add) l13 c13 k13
  have B13 := F13.binds (ps := ["self", "earlier", "later", "number"]) fun _ _ _ _ _ _ us hl => match us, hl with | [_, _, _, _], _ => rfl
  have F14 := fun_mk (st := s_links_of) l14 c14 k14
  have B14 := F14.binds (ps := ["fact"]) fun _ _ _ _ _ _ us hl => match us, hl with | [_], _ => rfl
  have F15 := fun_mk (st := s_Ground_net) l15 c15 k15
  have B15 := F15.binds (ps := ["self", "without"]) fun _ _ _ _ _ _ us hl => match us, hl with | [_, _], _ => rfl
  have F16 := fun_mk (st := s_Net_way) l16 c16 k16
  have B16 := F16.binds (ps := ["self", "begin", "goal"]) fun _ _ _ _ _ _ us hl => match us, hl with | [_, _, _], _ => rfl
  have F17 := fun_mk (st := s_Ground_ring_of) l17 c17 k17
  have B17 := F17.binds (ps := ["self", "fact"]) fun _ _ _ _ _ _ us hl => match us, hl with | [_, _], _ => rfl
  have F18 := fun_mk (st := s_Ring_init) l18 c18 k18
  have B18 := F18.binds (ps := ["self", "row"]) fun _ _ _ _ _ _ us hl => match us, hl with | [_, _], _ => rfl
  have F19 := fun_mk (st := s_Ground_tell) l19 c19 k19
  have B19 := F19.binds (ps := ["self", "fact"]) fun _ _ _ _ _ _ us hl => match us, hl with | [_, _], _ => rfl
  have F20 := fun_mk (st := s_Ground_need_thing) l20 c20 k20
  have B20 := F20.binds (ps := ["self", "thing"]) fun _ _ _ _ _ _ us hl => match us, hl with | [_, _], _ => rfl
  have F21 := fun_mk (st := s_Net_beyond) l21 c21 k21
  have B21 := F21.binds (ps := ["self", "begin"]) fun _ _ _ _ _ _ us hl => match us, hl with | [_, _], _ => rfl
  have F22 := fun_mk (st := s_known_pairs) l22 c22 k22
  have B22 := F22.binds (ps := ["net", "things"]) fun _ _ _ _ _ _ us hl => match us, hl with | [_, _], _ => rfl
  have F23 := fun_mk (st := s_Ground_pairs) l23 c23 k23
  have B23 := F23.binds (ps := ["self"]) fun _ _ _ _ _ _ us hl => match us, hl with | [_], _ => rfl
  have F24 := fun_mk (st := s_sooner) l24 c24 k24
  have B24 := F24.binds (ps := ["things", "pairs"]) fun _ _ _ _ _ _ us hl => match us, hl with | [_, _], _ => rfl
  have F25 := fun_mk (st := s_first_order) l25 c25 k25
  have B25 := F25.binds (ps := ["things", "pairs"]) fun _ _ _ _ _ _ us hl => match us, hl with | [_, _], _ => rfl
  have F26 := fun_mk (st := s_order_with) l26 c26 k26
  have B26 := F26.binds (ps := ["things", "pairs", "one", "other"]) fun _ _ _ _ _ _ us hl => match us, hl with | [_, _, _, _], _ => rfl
  have F27 := fun_mk (st := s_Ground_before) l27 c27 k27
  have B27 := F27.binds (ps := ["self", "one", "other"]) fun _ _ _ _ _ _ us hl => match us, hl with | [_, _, _], _ => rfl
  have F28 := fun_mk (st := s_Ground_settle) l28 c28 k28
  have B28 := F28.binds (ps := ["self", "number", "over"]) fun _ _ _ _ _ _ us hl => match us, hl with | [_, _, _], _ => rfl
  have F29 := fun_mk (st := s_Ground_take) l29 c29 k29
  have B29 := F29.binds (ps := ["self", "number"]) fun _ _ _ _ _ _ us hl => match us, hl with | [_, _], _ => rfl
  have F30 := fun_mk (st := s_Ground_leans) l30 c30 k30
  have B30 := F30.binds (ps := ["self", "number"]) fun _ _ _ _ _ _ us hl => match us, hl with | [_, _], _ => rfl
  have F31 := fun_mk (st := s_w_asked) l31 c31 k31
  have B31 := F31.binds (ps := ["_law_ground", "_law_way", "_law_one", "_law_other"]) fun _ _ _ _ _ _ us hl => match us, hl with | [_, _, _, _], _ => rfl
  have F32 := fun_mk (st := s_Ground_told) l32 c32 k32
  have B32 := F32.binds (ps := ["self"]) fun _ _ _ _ _ _ us hl => match us, hl with | [_], _ => rfl
  have F33 := fun_mk (st := s_w_is_full_right) l33 c33 k33
  have B33 := F33.binds (ps := ["_law_row", "_law_ground", "_law_number", "_law_odd"]) fun _ _ _ _ _ _ us hl => match us, hl with | [_, _, _, _], _ => rfl
  have F34 := fun_mk (st := s_law) l34 c34 k34
  have B34 := F34.binds (ps := ["_law_script"]) fun _ _ _ _ _ _ us hl => match us, hl with | [_], _ => rfl
  have T : Txt w K mg ⟨cNet, cGround, cNoFact, cNoSuch, cFull, cRing, cBadText, cTrackError, oW, w⟩ := {
    cl := CL,
    wd := rfl,
    f_w_taken := ⟨_, _, F0, PySem.W.mg_of X G a0, B0⟩,
    f_is_name := ⟨_, _, F1, PySem.W.mg_of X G a1, B1⟩,
    f_Ground_init10 := ⟨_, _, F2, ⟨mkGround, a2, i2, kcGround⟩, PySem.W.mg_of X G aGround, B2⟩,
    f_w_word_of := ⟨_, _, F3, PySem.W.mg_of X G a3, B3⟩,
    f_w_made := ⟨_, _, F4, PySem.W.mg_of X G a4, B4⟩,
    f_w_names_refused := ⟨_, _, F5, PySem.W.mg_of X G a5, B5⟩,
    f_Ground_new_number := ⟨_, _, F6, ⟨pgGround, hdGround, poGround, saGround⟩, ⟨a6, i6, k6⟩, B6⟩,
    f_Ground_cross := ⟨_, _, F7, ⟨pgGround, hdGround, poGround, saGround⟩, ⟨a7, i7, k7⟩, B7⟩,
    f_is_fact := ⟨_, _, F8, PySem.W.mg_of X G a8, B8⟩,
    f_all_things := ⟨_, _, F9, PySem.W.mg_of X G a9, B9⟩,
    f_Ground_things := ⟨_, _, F10, ⟨pgGround, hdGround, poGround, saGround⟩, ⟨a10, i10, k10⟩, B10⟩,
    f_Net_init := ⟨_, _, F11, ⟨mkNet, a11, i11, kcNet⟩, PySem.W.mg_of X G aNet, B11⟩,
    f_weather_links := ⟨_, _, F12, PySem.W.mg_of X G a12, B12⟩,
    f_Net_add := ⟨_, _, F13, ⟨pgNet, hdNet, poNet, saNet⟩, ⟨a13, i13, k13⟩, B13⟩,
    f_links_of := ⟨_, _, F14, PySem.W.mg_of X G a14, B14⟩,
    f_Ground_net := ⟨_, _, F15, ⟨pgGround, hdGround, poGround, saGround⟩, ⟨a15, i15, k15⟩, B15⟩,
    f_Net_way := ⟨_, _, F16, ⟨pgNet, hdNet, poNet, saNet⟩, ⟨a16, i16, k16⟩, B16⟩,
    f_Ground_ring_of := ⟨_, _, F17, ⟨pgGround, hdGround, poGround, saGround⟩, ⟨a17, i17, k17⟩, B17⟩,
    f_Ring_init := ⟨_, _, F18, oR, a18, y18, PySem.W.mg_of X G aRing, B18⟩,
    f_Ground_tell := ⟨_, _, F19, ⟨pgGround, hdGround, poGround, saGround⟩, ⟨a19, i19, k19⟩, B19⟩,
    f_Ground_need_thing := ⟨_, _, F20, ⟨pgGround, hdGround, poGround, saGround⟩, ⟨a20, i20, k20⟩, B20⟩,
    f_Net_beyond := ⟨_, _, F21, ⟨pgNet, hdNet, poNet, saNet⟩, ⟨a21, i21, k21⟩, B21⟩,
    f_known_pairs := ⟨_, _, F22, PySem.W.mg_of X G a22, B22⟩,
    f_Ground_pairs := ⟨_, _, F23, ⟨pgGround, hdGround, poGround, saGround⟩, ⟨a23, i23, k23⟩, B23⟩,
    f_sooner := ⟨_, _, F24, PySem.W.mg_of X G a24, B24⟩,
    f_first_order := ⟨_, _, F25, PySem.W.mg_of X G a25, B25⟩,
    f_order_with := ⟨_, _, F26, PySem.W.mg_of X G a26, B26⟩,
    f_Ground_before := ⟨_, _, F27, ⟨pgGround, hdGround, poGround, saGround⟩, ⟨a27, i27, k27⟩, B27⟩,
    f_Ground_settle := ⟨_, _, F28, ⟨pgGround, hdGround, poGround, saGround⟩, ⟨a28, i28, k28⟩, B28⟩,
    f_Ground_take := ⟨_, _, F29, ⟨pgGround, hdGround, poGround, saGround⟩, ⟨a29, i29, k29⟩, B29⟩,
    f_Ground_leans := ⟨_, _, F30, ⟨pgGround, hdGround, poGround, saGround⟩, ⟨a30, i30, k30⟩, B30⟩,
    f_w_asked := ⟨_, _, F31, PySem.W.mg_of X G a31, B31⟩,
    f_Ground_told := ⟨_, _, F32, ⟨pgGround, hdGround, poGround, saGround⟩, ⟨a32, i32, k32⟩, B32⟩,
    f_w_is_full_right := ⟨_, _, F33, PySem.W.mg_of X G a33, B33⟩,
    f_law := ⟨_, _, F34, PySem.W.mg_of X G a34, B34⟩,
    n_len := PySem.W.mg_none_of X G z_len,
    n_sorted := PySem.W.mg_none_of X G z_sorted,
    n_list := PySem.W.mg_none_of X G z_list,
    n_dict := PySem.W.mg_none_of X G z_dict,
    n_int := PySem.W.mg_none_of X G z_int,
    n_reversed := PySem.W.mg_none_of X G z_reversed,
    n_range := PySem.W.mg_none_of X G z_range,
    n_isinstance := PySem.W.mg_none_of X G z_isinstance,
    n_ValueError := PySem.W.mg_none_of X G z_ValueError,
    g_LETTERS := ⟨_, PySem.W.mg_of X G gLETTERS, ⟨_, rfl⟩⟩,
    g_LONGEST := ⟨_, PySem.W.mg_of X G gLONGEST, ⟨_, rfl⟩⟩,
    g_WORDS := ⟨_, PySem.W.mg_of X G gWORDS, rfl⟩,
    g_MOST_WALKERS := ⟨_, PySem.W.mg_of X G gMOST_WALKERS, ⟨_, rfl⟩⟩,
    g_MOST_WEATHERS := ⟨_, PySem.W.mg_of X G gMOST_WEATHERS, ⟨_, rfl⟩⟩,
    g_MOST_FACTS := ⟨_, PySem.W.mg_of X G gMOST_FACTS, ⟨_, rfl⟩⟩,
    g_NoFact := PySem.W.mg_of X G aNoFact, k_NoFact := kNoFact, b_NoFact := bNoFact, t_NoFact := tNoFact,
    x_NoFact := xNoFact,
    g_NoSuch := PySem.W.mg_of X G aNoSuch, k_NoSuch := kNoSuch, b_NoSuch := bNoSuch, t_NoSuch := tNoSuch,
    x_NoSuch := xNoSuch,
    g_Full := PySem.W.mg_of X G aFull, k_Full := kFull, b_Full := bFull, t_Full := tFull,
    x_Full := xFull,
    g_Ring := PySem.W.mg_of X G aRing, k_Ring := kRing, b_Ring := bRing, t_Ring := tRing,
    g_BadText := PySem.W.mg_of X G aBadText, k_BadText := kBadText, b_BadText := bBadText, t_BadText := tBadText,
    g_TrackError := PySem.W.mg_of X G aTrackError, k_TrackError := kTrackError, b_TrackError := bTrackError, t_TrackError := tTrackError,
    i_TrackError := ⟨gaT, rdT, fcT⟩,
    xc_NoFact := ⟨hgNoFact, hkNoFact, bNoFact, hddNoFact, hclNoFact, hnO, htO, hmNoFact⟩,
    xc_NoSuch := ⟨hgNoSuch, hkNoSuch, bNoSuch, hddNoSuch, hclNoSuch, hnO, htO, hmNoSuch⟩,
    xc_Full := ⟨hgFull, hkFull, bFull, hddFull, hclFull, hnO, htO, hmFull⟩,
    xc_Ring := ⟨hgRing, hkRing, bRing, hddRing, hclRing, hnO, htO, hmRing⟩,
    kit_NoFact_NoFact := kit_self,
    kit_NoFact_NoSuch := kit_own neNoFactNoSuch iNoSuch tNoSuch skNoFactNoSuch,
    kit_NoFact_Full := kit_own neNoFactFull iFull tFull skNoFactFull,
    kit_NoFact_Ring := kit_own neNoFactRing iRing tRing skNoFactRing,
    kit_NoFact_BadText := kit_own neNoFactBadText iBadText tBadText skNoFactBadText,
    kit_NoFact_ValueError := kit_ve svNoFact,
    kit_NoSuch_NoFact := kit_own neNoSuchNoFact iNoFact tNoFact skNoSuchNoFact,
    kit_NoSuch_NoSuch := kit_self,
    kit_NoSuch_Full := kit_own neNoSuchFull iFull tFull skNoSuchFull,
    kit_NoSuch_Ring := kit_own neNoSuchRing iRing tRing skNoSuchRing,
    kit_NoSuch_BadText := kit_own neNoSuchBadText iBadText tBadText skNoSuchBadText,
    kit_NoSuch_ValueError := kit_ve svNoSuch,
    kit_Full_NoFact := kit_own neFullNoFact iNoFact tNoFact skFullNoFact,
    kit_Full_NoSuch := kit_own neFullNoSuch iNoSuch tNoSuch skFullNoSuch,
    kit_Full_Full := kit_self,
    kit_Full_Ring := kit_own neFullRing iRing tRing skFullRing,
    kit_Full_BadText := kit_own neFullBadText iBadText tBadText skFullBadText,
    kit_Full_ValueError := kit_ve svFull,
    kit_Ring_NoFact := kit_own neRingNoFact iNoFact tNoFact skRingNoFact,
    kit_Ring_NoSuch := kit_own neRingNoSuch iNoSuch tNoSuch skRingNoSuch,
    kit_Ring_Full := kit_own neRingFull iFull tFull skRingFull,
    kit_Ring_Ring := kit_self,
    kit_Ring_BadText := kit_own neRingBadText iBadText tBadText skRingBadText,
    kit_Ring_ValueError := kit_ve svRing,
    ex_NoFact_TrackError := exm_gen bTrackError iTrackError tTrackError sxNoFactTrackError,
    ex_NoSuch_TrackError := exm_gen bTrackError iTrackError tTrackError sxNoSuchTrackError,
    ex_Full_TrackError := exm_gen bTrackError iTrackError tTrackError sxFullTrackError,
    ex_Ring_TrackError := exm_gen bTrackError iTrackError tTrackError sxRingTrackError }
  exact ⟨_, fun s v => .of_eq rfl, fun base _ _ => ok_lawF T F34⟩
theorem walk {l : PySem.W.OpenLaw} {q : Program} {loose : List Str} {XP : (Str → Option Value) → Heap → Prop} {YP : World → Heap → Prop} {d : DefRec} {K : Params → PySem.W.Frag} (hn : l.most = some 63) (hdf : d.params.defaults = [])
    (hY : ∀ (w : World) (h : Heap), YP w h → (K w.params).In h)
    (F : ∀ (w : World) (mg : Str → Option Value) (fa : Addr) (h : Heap), (K w.params).In h → h.Ns mainGlobals mg → mg d.name = some (.ref fa) →
      ∃ fd : FuncData, (∀ (s : Shared) (u : Value), BindsTo s fd ⟨[u], []⟩ [("_law_script", u)]) ∧ ∀ base : Heap, (K w.params).In base → base.Ns mainGlobals mg → FnOk l.prog w (K w.params) mg base CX0 8 fa fd ["_law_script"] (sp_lawK (K w.params))) :
    PySem.W.WalkO q loose XP YP l.row.toRowW d [] (fun f vs => PySem.call f vs) :=
  L2.walk_of (n := 63) (k := 8) (x := "_law_script") (CX := fun _ => CX0) (sp := fun w => sp_lawK (K w.params)) hn (by decide) hdf ⟨rfl, by decide, by decide⟩ hY F (fun _ _ a ns hl _ hS => ⟨a, ns, rfl, hS, hl, fun _ => rfl⟩) fun _ _ _ _ _ z => z
end TK
open PySem PySem.W PyProof.Rows
set_option maxRecDepth 100000 in
set_option maxHeartbeats 0 in
theorem PySem.Challenge.cw_trackorder_k10_refusals_stand_apart_holds : PySem.Challenge.rw_trackorder_k10_refusals_stand_apart.Holds := by
  w_on; o_law; k_head; (case hw => w_witness2)
  k_fill
  refine TK.walk (l := PySem.Challenge.rw_trackorder_k10_refusals_stand_apart) rfl rfl (fun w h Y => PySem.W.kIn_of Y) ?F
  case F =>
    intro w mg fa h KX G hmg
    refine' TK.all_mk KX G hmg ?aNet ?aGround ?aNoFact ?aNoSuch ?aFull ?aRing ?aTrackError ?aBadText ?pgNet ?hdNet ?poNet ?saNet ?mkNet ?kcNet ?pgGround ?hdGround ?poGround ?saGround ?mkGround ?kcGround ?nonward ?nwalkers ?nweathers ?nfacts ?ncrossings ?ngiven ?nrow ?xNoFact ?xNoSuch ?xFull ?kNoFact ?bNoFact ?tNoFact ?kNoSuch ?bNoSuch ?tNoSuch ?kFull ?bFull ?tFull ?kRing ?bRing ?tRing ?kTrackError ?bTrackError ?tTrackError ?kBadText ?bBadText ?tBadText ?iNoFact ?iNoSuch ?iFull ?iRing ?iBadText ?iTrackError ?err ?enr ?enn ?esr ?esn ?ess ?efr ?efn ?efs ?eff ?lRing ?rRing ?saRing ?gaT ?rdT ?fcT ?hnO ?htO ?hgNoFact ?hkNoFact ?hddNoFact ?hclNoFact ?hmNoFact ?hgNoSuch ?hkNoSuch ?hddNoSuch ?hclNoSuch ?hmNoSuch ?hgFull ?hkFull ?hddFull ?hclFull ?hmFull ?hgRing ?hkRing ?hddRing ?hclRing ?hmRing ?sxNoFactTrackError ?sxNoSuchTrackError ?sxFullTrackError ?sxRingTrackError ?neNoFactNoSuch ?skNoFactNoSuch ?neNoFactFull ?skNoFactFull ?neNoFactRing ?skNoFactRing ?neNoFactBadText ?skNoFactBadText ?svNoFact ?neNoSuchNoFact ?skNoSuchNoFact ?neNoSuchFull ?skNoSuchFull ?neNoSuchRing ?skNoSuchRing ?neNoSuchBadText ?skNoSuchBadText ?svNoSuch ?neFullNoFact ?skFullNoFact ?neFullNoSuch ?skFullNoSuch ?neFullRing ?skFullRing ?neFullBadText ?skFullBadText ?svFull ?neRingNoFact ?skRingNoFact ?neRingNoSuch ?skRingNoSuch ?neRingFull ?skRingFull ?neRingBadText ?skRingBadText ?svRing ?z_len ?z_sorted ?z_list ?z_dict ?z_int ?z_reversed ?z_range ?z_isinstance ?z_ValueError ?gLETTERS ?gLONGEST ?gWORDS ?gMOST_WALKERS ?gMOST_WEATHERS ?gMOST_FACTS ?lW ?a0 ?l0 ?c0 ?k0 ?a1 ?l1 ?c1 ?k1 ?a2 ?i2 ?l2 ?c2 ?k2 ?a3 ?l3 ?c3 ?k3 ?a4 ?l4 ?c4 ?k4 ?a5 ?l5 ?c5 ?k5 ?a6 ?i6 ?l6 ?c6 ?k6 ?a7 ?i7 ?l7 ?c7 ?k7 ?a8 ?l8 ?c8 ?k8 ?a9 ?l9 ?c9 ?k9 ?a10 ?i10 ?l10 ?c10 ?k10 ?a11 ?i11 ?l11 ?c11 ?k11 ?a12 ?l12 ?c12 ?k12 ?a13 ?i13 ?l13 ?c13 ?k13 ?a14 ?l14 ?c14 ?k14 ?a15 ?i15 ?l15 ?c15 ?k15 ?a16 ?i16 ?l16 ?c16 ?k16 ?a17 ?i17 ?l17 ?c17 ?k17 ?a18 ?y18 ?l18 ?c18 ?k18 ?a19 ?i19 ?l19 ?c19 ?k19 ?a20 ?i20 ?l20 ?c20 ?k20 ?a21 ?i21 ?l21 ?c21 ?k21 ?a22 ?l22 ?c22 ?k22 ?a23 ?i23 ?l23 ?c23 ?k23 ?a24 ?l24 ?c24 ?k24 ?a25 ?l25 ?c25 ?k25 ?a26 ?l26 ?c26 ?k26 ?a27 ?i27 ?l27 ?c27 ?k27 ?a28 ?i28 ?l28 ?c28 ?k28 ?a29 ?i29 ?l29 ?c29 ?k29 ?a30 ?i30 ?l30 ?c30 ?k30 ?a31 ?l31 ?c31 ?k31 ?a32 ?i32 ?l32 ?c32 ?k32 ?a33 ?l33 ?c33 ?k33 ?a34 ?l34 ?c34 ?k34
    (case aNet => k_is)
    (case aGround => k_is)
    (case aNoFact => k_is)
    (case aNoSuch => k_is)
    (case aFull => k_is)
    (case aRing => k_is)
    (case aTrackError => k_is)
    (case aBadText => k_is)
    (case pgNet => k_is)
    (case hdNet => k_is)
    (case poNet => k_is)
    (case saNet => k_is)
    (case mkNet => k_is)
    (case kcNet => k_is)
    (case pgGround => k_is)
    (case hdGround => k_is)
    (case poGround => k_is)
    (case saGround => k_is)
    (case mkGround => k_is)
    (case kcGround => k_is)
    (case nonward => k_is)
    (case nwalkers => k_is)
    (case nweathers => k_is)
    (case nfacts => k_is)
    (case ncrossings => k_is)
    (case ngiven => k_is)
    (case nrow => k_is)
    (case xNoFact => k_exc)
    (case xNoSuch => k_exc)
    (case xFull => k_exc)
    (case kNoFact => k_is)
    (case bNoFact => k_is)
    (case tNoFact => k_is)
    (case kNoSuch => k_is)
    (case bNoSuch => k_is)
    (case tNoSuch => k_is)
    (case kFull => k_is)
    (case bFull => k_is)
    (case tFull => k_is)
    (case kRing => k_is)
    (case bRing => k_is)
    (case tRing => k_is)
    (case kTrackError => k_is)
    (case bTrackError => k_is)
    (case tTrackError => k_is)
    (case kBadText => k_is)
    (case bBadText => k_is)
    (case tBadText => k_is)
    (case iNoFact => k_is)
    (case iNoSuch => k_is)
    (case iFull => k_is)
    (case iRing => k_is)
    (case iBadText => k_is)
    (case iTrackError => k_is)
    (case err => first | k_is | rfl)
    (case enr => first | k_is | rfl)
    (case enn => first | k_is | rfl)
    (case esr => first | k_is | rfl)
    (case esn => first | k_is | rfl)
    (case ess => first | k_is | rfl)
    (case efr => first | k_is | rfl)
    (case efn => first | k_is | rfl)
    (case efs => first | k_is | rfl)
    (case eff => first | k_is | rfl)
    (case lRing => k_is)
    (case rRing => decide +kernel)
    (case saRing => k_is)
    (case gaT => first | k_is | rfl)
    (case rdT => first | k_is | rfl)
    (case fcT => first | k_is | rfl)
    (case hnO => first | k_is | rfl)
    (case htO => first | k_is | rfl)
    (case hgNoFact => k_is)
    (case hkNoFact => k_is)
    (case hddNoFact => k_is)
    (case hclNoFact => k_is)
    (case hmNoFact => first | k_is | rfl)
    (case hgNoSuch => k_is)
    (case hkNoSuch => k_is)
    (case hddNoSuch => k_is)
    (case hclNoSuch => k_is)
    (case hmNoSuch => first | k_is | rfl)
    (case hgFull => k_is)
    (case hkFull => k_is)
    (case hddFull => k_is)
    (case hclFull => k_is)
    (case hmFull => first | k_is | rfl)
    (case hgRing => k_is)
    (case hkRing => k_is)
    (case hddRing => k_is)
    (case hclRing => k_is)
    (case hmRing => first | k_is | rfl)
    (case sxNoFactTrackError => first | k_is | rfl)
    (case sxNoSuchTrackError => first | k_is | rfl)
    (case sxFullTrackError => first | k_is | rfl)
    (case sxRingTrackError => first | k_is | rfl)
    (case neNoFactNoSuch => first | rfl | decide | k_is)
    (case skNoFactNoSuch => first | k_is | rfl)
    (case neNoFactFull => first | rfl | decide | k_is)
    (case skNoFactFull => first | k_is | rfl)
    (case neNoFactRing => first | rfl | decide | k_is)
    (case skNoFactRing => first | k_is | rfl)
    (case neNoFactBadText => first | rfl | decide | k_is)
    (case skNoFactBadText => first | k_is | rfl)
    (case svNoFact => first | k_is | rfl)
    (case neNoSuchNoFact => first | rfl | decide | k_is)
    (case skNoSuchNoFact => first | k_is | rfl)
    (case neNoSuchFull => first | rfl | decide | k_is)
    (case skNoSuchFull => first | k_is | rfl)
    (case neNoSuchRing => first | rfl | decide | k_is)
    (case skNoSuchRing => first | k_is | rfl)
    (case neNoSuchBadText => first | rfl | decide | k_is)
    (case skNoSuchBadText => first | k_is | rfl)
    (case svNoSuch => first | k_is | rfl)
    (case neFullNoFact => first | rfl | decide | k_is)
    (case skFullNoFact => first | k_is | rfl)
    (case neFullNoSuch => first | rfl | decide | k_is)
    (case skFullNoSuch => first | k_is | rfl)
    (case neFullRing => first | rfl | decide | k_is)
    (case skFullRing => first | k_is | rfl)
    (case neFullBadText => first | rfl | decide | k_is)
    (case skFullBadText => first | k_is | rfl)
    (case svFull => first | k_is | rfl)
    (case neRingNoFact => first | rfl | decide | k_is)
    (case skRingNoFact => first | k_is | rfl)
    (case neRingNoSuch => first | rfl | decide | k_is)
    (case skRingNoSuch => first | k_is | rfl)
    (case neRingFull => first | rfl | decide | k_is)
    (case skRingFull => first | k_is | rfl)
    (case neRingBadText => first | rfl | decide | k_is)
    (case skRingBadText => first | k_is | rfl)
    (case svRing => first | k_is | rfl)
    (case z_len => k_is)
    (case z_sorted => k_is)
    (case z_list => k_is)
    (case z_dict => k_is)
    (case z_int => k_is)
    (case z_reversed => k_is)
    (case z_range => k_is)
    (case z_isinstance => k_is)
    (case z_ValueError => k_is)
    (case gLETTERS => k_is)
    (case gLONGEST => k_is)
    (case gWORDS => k_is)
    (case gMOST_WALKERS => k_is)
    (case gMOST_WEATHERS => k_is)
    (case gMOST_FACTS => k_is)
    (case lW => k_is)
    (case a0 => k_is)
    (case l0 => k_is)
    (case c0 => k_is)
    (case k0 => k_is)
    (case a1 => k_is)
    (case l1 => k_is)
    (case c1 => k_is)
    (case k1 => k_is)
    (case a2 => k_is)
    (case i2 => k_is)
    (case l2 => k_is)
    (case c2 => k_is)
    (case k2 => k_is)
    (case a3 => k_is)
    (case l3 => k_is)
    (case c3 => k_is)
    (case k3 => k_is)
    (case a4 => k_is)
    (case l4 => k_is)
    (case c4 => k_is)
    (case k4 => k_is)
    (case a5 => k_is)
    (case l5 => k_is)
    (case c5 => k_is)
    (case k5 => k_is)
    (case a6 => k_is)
    (case i6 => k_is)
    (case l6 => k_is)
    (case c6 => k_is)
    (case k6 => k_is)
    (case a7 => k_is)
    (case i7 => k_is)
    (case l7 => k_is)
    (case c7 => k_is)
    (case k7 => k_is)
    (case a8 => k_is)
    (case l8 => k_is)
    (case c8 => k_is)
    (case k8 => k_is)
    (case a9 => k_is)
    (case l9 => k_is)
    (case c9 => k_is)
    (case k9 => k_is)
    (case a10 => k_is)
    (case i10 => k_is)
    (case l10 => k_is)
    (case c10 => k_is)
    (case k10 => k_is)
    (case a11 => k_is)
    (case i11 => k_is)
    (case l11 => k_is)
    (case c11 => k_is)
    (case k11 => k_is)
    (case a12 => k_is)
    (case l12 => k_is)
    (case c12 => k_is)
    (case k12 => k_is)
    (case a13 => k_is)
    (case i13 => k_is)
    (case l13 => k_is)
    (case c13 => k_is)
    (case k13 => k_is)
    (case a14 => k_is)
    (case l14 => k_is)
    (case c14 => k_is)
    (case k14 => k_is)
    (case a15 => k_is)
    (case i15 => k_is)
    (case l15 => k_is)
    (case c15 => k_is)
    (case k15 => k_is)
    (case a16 => k_is)
    (case i16 => k_is)
    (case l16 => k_is)
    (case c16 => k_is)
    (case k16 => k_is)
    (case a17 => k_is)
    (case i17 => k_is)
    (case l17 => k_is)
    (case c17 => k_is)
    (case k17 => k_is)
    (case a18 => k_is)
    (case y18 => k_is)
    (case l18 => k_is)
    (case c18 => k_is)
    (case k18 => k_is)
    (case a19 => k_is)
    (case i19 => k_is)
    (case l19 => k_is)
    (case c19 => k_is)
    (case k19 => k_is)
    (case a20 => k_is)
    (case i20 => k_is)
    (case l20 => k_is)
    (case c20 => k_is)
    (case k20 => k_is)
    (case a21 => k_is)
    (case i21 => k_is)
    (case l21 => k_is)
    (case c21 => k_is)
    (case k21 => k_is)
    (case a22 => k_is)
    (case l22 => k_is)
    (case c22 => k_is)
    (case k22 => k_is)
    (case a23 => k_is)
    (case i23 => k_is)
    (case l23 => k_is)
    (case c23 => k_is)
    (case k23 => k_is)
    (case a24 => k_is)
    (case l24 => k_is)
    (case c24 => k_is)
    (case k24 => k_is)
    (case a25 => k_is)
    (case l25 => k_is)
    (case c25 => k_is)
    (case k25 => k_is)
    (case a26 => k_is)
    (case l26 => k_is)
    (case c26 => k_is)
    (case k26 => k_is)
    (case a27 => k_is)
    (case i27 => k_is)
    (case l27 => k_is)
    (case c27 => k_is)
    (case k27 => k_is)
    (case a28 => k_is)
    (case i28 => k_is)
    (case l28 => k_is)
    (case c28 => k_is)
    (case k28 => k_is)
    (case a29 => k_is)
    (case i29 => k_is)
    (case l29 => k_is)
    (case c29 => k_is)
    (case k29 => k_is)
    (case a30 => k_is)
    (case i30 => k_is)
    (case l30 => k_is)
    (case c30 => k_is)
    (case k30 => k_is)
    (case a31 => k_is)
    (case l31 => k_is)
    (case c31 => k_is)
    (case k31 => k_is)
    (case a32 => k_is)
    (case i32 => k_is)
    (case l32 => k_is)
    (case c32 => k_is)
    (case k32 => k_is)
    (case a33 => k_is)
    (case l33 => k_is)
    (case c33 => k_is)
    (case k33 => k_is)
    (case a34 => k_is)
    (case l34 => k_is)
    (case c34 => k_is)
    (case k34 => k_is)
#print axioms PySem.Challenge.cw_trackorder_k10_refusals_stand_apart_holds

